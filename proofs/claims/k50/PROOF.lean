import PyProof.Rows.All
import Wide.All
import OpenK.AllK
import Wide.FinOn
import KE.KStateDown
import Lean
import HandS.ForMost
import HandS.Exc
import HandS.TryOnly
import HandS.TryMany
import HandS.ExcOwn
import HandS.WordsExc
import HandS.Defaults
import HandS.Conv
import HandS.RevRange
import HandS.Rev
import HandS.Flow
import HandS.Wide
import HandS.SortInts
import HandS.SortKw
import HandS.Deep
import HandS.TupAny
import HandS.TupMul
import HandS.IsInst
import HandS.Nested
import KE.KNestM
import HandS.Comp
import HandS.Text
import HandS.RaiseMore
import KE.KExcInit
import KE.KSuper
import HandS.Base
import HandS.Call
import HandS.ExcSuper
import HandS.ExcInit
import HandS.ExcField
import HandS.Dict
import HandS.Small
import HandS.Steps
import HandS.More
import HandS.Style
import KE.GoesMore
import HandS.OwnEq
import HandS.Codes
import HandS.HeadHook1
import HandS.Iter
import HandS.WordsDict
import HandS.HeadHook2
import KE.KExcIs
import HandS.ExcIs
import HandS.Head0
import HandS.Head1
import HandS.Head2
import HandS.HeadEnd
import HandS.Ends
import PyProof.ReprRoads
import PyProof.ReprLen
import PySem.Challenge.RW_mendvault_k50_harms_by_own_lists
import HandS.HeadWalk
set_option Elab.async false
set_option linter.all false
set_option maxRecDepth 100000
/-! Mv: values as data (D), what a frame holds (Sl), and readings over data. -/
namespace Mv
open PySem L2

/-- an error object of the class cls stands at a, its attributes at d -/
def ErrO (cls : Value) (d : Option Addr) (a : Addr) : HO := .ext fun h => ∃ (oe : Obj) (vs : Array Value), h.get? a = some oe ∧ Zc cls d oe ∧ oe.data = .fields vs
/-- a value as plain data; class numbers stand for the classes of the text -/
inductive D where
  | non | bl (b : Bool) | int (i : Int) | str (x : Str)
  | tup (xs : List D) | lst (xs : List D) | rol (xs : List D) | rot (xs : List D)
  | dK (kvs : List (Key × D)) | dT (kvs : List (List Key × D))
  | obj (c : Nat) (fs : List (Str × D))
  | ty (n : String) | cls (c : Nat)
  | exo (a dx : Addr) (fs : List (Str × D))
  | err (c : Nat) (fs : List (Str × D))
  | fn (f c : Addr) (o u : HO) (cv : V) (d : D)

/-- the kinds of a box: a list; an object of a class -/
inductive Kd where
  | lst | obj (c : Nat) (ns : List Str)
/-- what a box holds: data; a box -/
inductive El where
  | d (x : D) | n (kd : Kd) (es : List El)
mutual
def frzE : El → D
  | .d x => x
  | .n .lst es => .lst (frzEs es)
  | .n (.obj c ns) es => .obj c (ns.zip (frzEs es))
def frzEs : List El → List D
  | [] => []
  | e :: es => frzE e :: frzEs es
end
/-- a thing that one frame alone may change -/
inductive O where
  | lst (xs : List D) | dK (kvs : List (Key × D)) | dT (kvs : List (List Key × D)) | obj (c : Nat) (fs : List (Str × D)) | box (kd : Kd) (es : List El) | two (d : D) (xs : List D)
/-- a place of a frame: nothing, data that stands still, a thing of its own -/
inductive Sl where
  | un | fz (d : D) | ow (o : O)
abbrev Fm := List Sl
/-- an expression's result: data, a new thing, the thing of a place -/
inductive R where
  | val (d : D) | own (o : O) | slot (i : Nat)
def frzO : O → D
  | .lst xs => .lst xs
  | .dK k => .dK k
  | .dT k => .dT k
  | .obj c fs => .obj c fs
  | .box kd es => frzE (.n kd es)
  | .two d xs => .tup [d, .lst xs]
/-- an error: its class and its attributes -/
structure XD where
  c : Nat
  fs : List (Str × D)

/-- a dict's pairs, whether it is being walked or not -/
def dks : HO → Option (List (Key × V))
  | .dK ws => some ws
  | .frz _ (.dK ws) => some ws
  | _ => none

section
variable (K : PySem.W.Frag) (cl : Nat → Addr)
mutual
def Rep (F : Hp) : D → V → Prop
  | .non, v => v = .non
  | .bl b, v => v = .bl b
  | .int i, v => v = .int i
  | .str x, v => v = .str x
  | .tup xs, v => ∃ a vs, v = .ref a ∧ F a = some (.tup vs) ∧ RepL F xs vs
  | .rot xs, v => ∃ a vs, v = .ref a ∧ SqT K F a vs ∧ RepL F xs vs
  | .lst xs, v => ∃ a vs, v = .ref a ∧ F a = some (.lst vs) ∧ RepL F xs vs
  | .rol xs, v => ∃ a vs, v = .ref a ∧ SqL K F a vs ∧ RepL F xs vs
  | .dK kvs, v => ∃ a o ws, v = .ref a ∧ F a = some o ∧ dks o = some ws ∧ RepK F kvs ws
  | .dT kvs, v => ∃ a ws, v = .ref a ∧ F a = some (.dT ws) ∧ RepT F kvs ws
  | .obj c fs, v => ∃ a dx ws, v = .ref a ∧ F a = some (.ins (cl c) dx ws) ∧ RepF F fs ws
  | .ty n, v => v = .ty n
  | .cls c, v => v = .ref (cl c)
  | .exo a dx fs, v => v = .ref a ∧ ∃ ws, F dx = some (.xd ws) ∧ RepF F fs ws
  | .err c fs, v => ∃ a dx ws, v = .ref a ∧ F a = some (ErrO (.ref (cl c)) (some dx) a) ∧ F dx = some (.xd ws) ∧ RepF F fs ws
  | .fn f c o u cv d, v => v = .ref f ∧ F f = some o ∧ F c = some u ∧ Rep F d cv ∧ dks o = none ∧ dks u = none
def RepL (F : Hp) : List D → List V → Prop
  | [], vs => vs = []
  | d :: ds, vs => ∃ v r, vs = v :: r ∧ Rep F d v ∧ RepL F ds r
def RepK (F : Hp) : List (Key × D) → List (Key × V) → Prop
  | [], ws => ws = []
  | (k, d) :: ds, ws => ∃ v r, ws = (k, v) :: r ∧ Rep F d v ∧ RepK F ds r
def RepT (F : Hp) : List (List Key × D) → List (List Key × V) → Prop
  | [], ws => ws = []
  | (k, d) :: ds, ws => ∃ v r, ws = (k, v) :: r ∧ Rep F d v ∧ RepT F ds r
def RepF (F : Hp) : List (Str × D) → List (Str × V) → Prop
  | [], ws => ws = []
  | (k, d) :: ds, ws => ∃ v r, ws = (k, v) :: r ∧ Rep F d v ∧ RepF F ds r
end
end

theorem Same.sqt {K : PySem.W.Frag} {H H' : Hp} {a : Addr} {xs : List V} (e : Same H H') (h : SqT K H a xs) : SqT K H' a xs := by
  rcases h with (h | ⟨o, h⟩) | h
  · exact .inl (.inl (e _ _ h))
  · exact .inl (.inr ⟨o, e _ _ h⟩)
  · exact .inr h

section
variable {K : PySem.W.Frag} {cl : Nat → Addr} {F G : Hp}
mutual
theorem Rep.mono (e : Same F G) : ∀ (d : D) (v : V), Rep K cl F d v → Rep K cl G d v
  | .non, _, h => h
  | .bl _, _, h => h
  | .int _, _, h => h
  | .str _, _, h => h
  | .tup xs, _, ⟨a, vs, h1, h2, h3⟩ => ⟨a, vs, h1, e _ _ h2, RepL.mono e xs vs h3⟩
  | .rot xs, _, ⟨a, vs, h1, h2, h3⟩ => ⟨a, vs, h1, Same.sqt e h2, RepL.mono e xs vs h3⟩
  | .lst xs, _, ⟨a, vs, h1, h2, h3⟩ => ⟨a, vs, h1, e _ _ h2, RepL.mono e xs vs h3⟩
  | .rol xs, _, ⟨a, vs, h1, h2, h3⟩ => ⟨a, vs, h1, e.seq h2, RepL.mono e xs vs h3⟩
  | .dK kvs, _, ⟨a, o, ws, h1, h2, h4, h3⟩ => ⟨a, o, ws, h1, e _ _ h2, h4, RepK.mono e kvs ws h3⟩
  | .dT kvs, _, ⟨a, ws, h1, h2, h3⟩ => ⟨a, ws, h1, e _ _ h2, RepT.mono e kvs ws h3⟩
  | .obj c fs, _, ⟨a, dx, ws, h1, h2, h3⟩ => ⟨a, dx, ws, h1, e _ _ h2, RepF.mono e fs ws h3⟩
  | .ty n, _, h => h
  | .cls n, _, h => h
  | .exo a dx fs, _, ⟨h1, ws, h2, h3⟩ => ⟨h1, ws, e _ _ h2, RepF.mono e fs ws h3⟩
  | .err c fs, _, ⟨a, dx, ws, h1, h0, h2, h3⟩ => ⟨a, dx, ws, h1, e _ _ h0, e _ _ h2, RepF.mono e fs ws h3⟩
  | .fn f c o u cv d, _, ⟨h1, h2, h3, h4, h5⟩ => ⟨h1, e _ _ h2, e _ _ h3, Rep.mono e d cv h4, h5⟩
theorem RepL.mono (e : Same F G) : ∀ (ds : List D) (vs : List V), RepL K cl F ds vs → RepL K cl G ds vs
  | [], _, h => h
  | d :: ds, _, ⟨v, r, h1, h2, h3⟩ => ⟨v, r, h1, Rep.mono e d v h2, RepL.mono e ds r h3⟩
theorem RepK.mono (e : Same F G) : ∀ (ds : List (Key × D)) (vs : List (Key × V)), RepK K cl F ds vs → RepK K cl G ds vs
  | [], _, h => h
  | (k, d) :: ds, _, ⟨v, r, h1, h2, h3⟩ => ⟨v, r, h1, Rep.mono e d v h2, RepK.mono e ds r h3⟩
theorem RepT.mono (e : Same F G) : ∀ (ds : List (List Key × D)) (vs : List (List Key × V)), RepT K cl F ds vs → RepT K cl G ds vs
  | [], _, h => h
  | (k, d) :: ds, _, ⟨v, r, h1, h2, h3⟩ => ⟨v, r, h1, Rep.mono e d v h2, RepT.mono e ds r h3⟩
theorem RepF.mono (e : Same F G) : ∀ (ds : List (Str × D)) (vs : List (Str × V)), RepF K cl F ds vs → RepF K cl G ds vs
  | [], _, h => h
  | (k, d) :: ds, _, ⟨v, r, h1, h2, h3⟩ => ⟨v, r, h1, Rep.mono e d v h2, RepF.mono e ds r h3⟩
end

theorem RepL.length : ∀ {ds : List D} {vs : List V}, RepL K cl F ds vs → ds.length = vs.length
  | [], _, h => by rw [RepL] at h; rw [h]; rfl
  | d :: ds, _, h => by
    rw [RepL] at h
    obtain ⟨v, r, rfl, _, h3⟩ := h
    simp only [List.length_cons, RepL.length h3]
theorem RepL.nil : RepL K cl F [] [] := by rw [RepL]
theorem RepL.cons {d : D} {v : V} {ds : List D} {vs : List V} (h : Rep K cl F d v) (t : RepL K cl F ds vs) : RepL K cl F (d :: ds) (v :: vs) := by
  rw [RepL]; exact ⟨v, vs, rfl, h, t⟩
theorem RepL.append : ∀ {ds es : List D} {vs us : List V}, RepL K cl F ds vs → RepL K cl F es us → RepL K cl F (ds ++ es) (vs ++ us)
  | [], _, _, _, h, q => by rw [RepL] at h; subst h; exact q
  | d :: ds, _, _, _, h, q => by
    rw [RepL] at h
    obtain ⟨v, r, rfl, h2, h3⟩ := h
    exact .cons h2 (RepL.append h3 q)
theorem RepL.get : ∀ {ds : List D} {vs : List V} {i : Nat} {d : D}, RepL K cl F ds vs → ds[i]? = some d → ∃ v, vs[i]? = some v ∧ Rep K cl F d v
  | [], _, _, _, _, e => by simp at e
  | d :: ds, _, 0, x, h, e => by
    rw [RepL] at h
    obtain ⟨v, r, rfl, h2, h3⟩ := h
    simp at e; subst e
    exact ⟨v, rfl, h2⟩
  | d :: ds, _, i + 1, x, h, e => by
    rw [RepL] at h
    obtain ⟨v, r, rfl, h2, h3⟩ := h
    obtain ⟨u, h4, h5⟩ := RepL.get (i := i) h3 (by simpa using e)
    exact ⟨u, by simpa using h4, h5⟩
theorem RepL.get' : ∀ {ds : List D} {vs : List V} {i : Nat} {v : V}, RepL K cl F ds vs → vs[i]? = some v → ∃ d, ds[i]? = some d ∧ Rep K cl F d v
  | [], _, _, _, h, e => by rw [RepL] at h; subst h; simp at e
  | d :: ds, _, 0, x, h, e => by
    rw [RepL] at h
    obtain ⟨v, r, rfl, h2, h3⟩ := h
    simp at e; subst e
    exact ⟨d, rfl, h2⟩
  | d :: ds, _, i + 1, x, h, e => by
    rw [RepL] at h
    obtain ⟨v, r, rfl, h2, h3⟩ := h
    obtain ⟨u, h4, h5⟩ := RepL.get' (i := i) h3 (by simpa using e)
    exact ⟨u, by simpa using h4, h5⟩
theorem RepL.set {x : D} {u : V} (hx : Rep K cl F x u) : ∀ {ds : List D} {vs : List V} (i : Nat), RepL K cl F ds vs → RepL K cl F (ds.set i x) (vs.set i u)
  | [], _, _, h => by rw [RepL] at h; subst h; exact .nil
  | d :: ds, _, 0, h => by
    rw [RepL] at h
    obtain ⟨v, r, rfl, h2, h3⟩ := h
    exact .cons hx h3
  | d :: ds, _, i + 1, h => by
    rw [RepL] at h
    obtain ⟨v, r, rfl, h2, h3⟩ := h
    exact .cons h2 (RepL.set hx i h3)
theorem RepL.take : ∀ {ds : List D} {vs : List V} (n : Nat), RepL K cl F ds vs → RepL K cl F (ds.take n) (vs.take n)
  | [], _, n, h => by rw [RepL] at h; subst h; simpa using RepL.nil
  | d :: ds, _, 0, h => by simpa using RepL.nil
  | d :: ds, _, n + 1, h => by
    rw [RepL] at h
    obtain ⟨v, r, rfl, h2, h3⟩ := h
    exact .cons h2 (RepL.take n h3)
theorem RepL.drop : ∀ {ds : List D} {vs : List V} (n : Nat), RepL K cl F ds vs → RepL K cl F (ds.drop n) (vs.drop n)
  | [], _, n, h => by rw [RepL] at h; subst h; simpa using RepL.nil
  | d :: ds, _, 0, h => h
  | d :: ds, _, n + 1, h => by
    rw [RepL] at h
    obtain ⟨v, r, rfl, h2, h3⟩ := h
    exact RepL.drop n h3
theorem RepL.dropLast {ds : List D} {vs : List V} (h : RepL K cl F ds vs) : RepL K cl F ds.dropLast vs.dropLast := by
  rw [List.dropLast_eq_take, List.dropLast_eq_take, h.length]
  exact h.take _
theorem RepL.eraseIdx : ∀ {ds : List D} {vs : List V} (i : Nat), RepL K cl F ds vs → RepL K cl F (ds.eraseIdx i) (vs.eraseIdx i)
  | [], _, n, h => by rw [RepL] at h; subst h; simpa using RepL.nil
  | d :: ds, _, 0, h => by
    rw [RepL] at h
    obtain ⟨v, r, rfl, h2, h3⟩ := h
    exact h3
  | d :: ds, _, n + 1, h => by
    rw [RepL] at h
    obtain ⟨v, r, rfl, h2, h3⟩ := h
    exact .cons h2 (RepL.eraseIdx n h3)
theorem RepL.reverse {ds : List D} {vs : List V} (h : RepL K cl F ds vs) : RepL K cl F ds.reverse vs.reverse := by
  induction ds generalizing vs with
  | nil => rw [RepL] at h; subst h; exact .nil
  | cons d ds ih =>
    rw [RepL] at h
    obtain ⟨v, r, rfl, h2, h3⟩ := h
    rw [List.reverse_cons, List.reverse_cons]
    exact (ih h3).append (.cons h2 .nil)
theorem RepL.rep {ds : List D} {vs : List V} (h : RepL K cl F ds vs) (k : Nat) : RepL K cl F (List.replicate k ds).flatten (List.replicate k vs).flatten := by
  induction k with
  | zero => exact .nil
  | succ k ih =>
    rw [List.replicate_succ, List.replicate_succ, List.flatten_cons, List.flatten_cons]
    exact h.append ih
theorem RepL.ints : ∀ {ns : List Int} {vs : List V}, RepL K cl F (ns.map D.int) vs → vs = ns.map V.int
  | [], vs, h => by rw [List.map_nil, RepL] at h; exact h
  | n :: ns, vs, h => by
    rw [List.map_cons, RepL] at h
    obtain ⟨v, r, rfl, h2, h3⟩ := h
    rw [Rep] at h2
    subst h2
    rw [RepL.ints h3]; rfl
theorem RepL.of_ints (F : Hp) : ∀ (ns : List Int), RepL K cl F (ns.map D.int) (ns.map V.int)
  | [] => .nil
  | n :: ns => .cons (by rw [Rep]) (RepL.of_ints F ns)
theorem RepL.strs : ∀ {ns : List Str} {vs : List V}, RepL K cl F (ns.map D.str) vs → vs = ns.map V.str
  | [], vs, h => by rw [List.map_nil, RepL] at h; exact h
  | n :: ns, vs, h => by
    rw [List.map_cons, RepL] at h
    obtain ⟨v, r, rfl, h2, h3⟩ := h
    rw [Rep] at h2
    subst h2
    rw [RepL.strs h3]; rfl
theorem RepL.of_strs (F : Hp) : ∀ (ns : List Str), RepL K cl F (ns.map D.str) (ns.map V.str)
  | [] => .nil
  | n :: ns => .cons (by rw [Rep]) (RepL.of_strs F ns)
theorem RepL.bls : ∀ {ns : List Bool} {vs : List V}, RepL K cl F (ns.map D.bl) vs → vs = ns.map V.bl
  | [], vs, h => by rw [List.map_nil, RepL] at h; exact h
  | n :: ns, vs, h => by
    rw [List.map_cons, RepL] at h
    obtain ⟨v, r, rfl, h2, h3⟩ := h
    rw [Rep] at h2
    subst h2
    rw [RepL.bls h3]; rfl
theorem RepF.lookup : ∀ {ds : List (Str × D)} {vs : List (Str × V)} {f : Str} {d : D}, RepF K cl F ds vs → ds.lookup f = some d → ∃ v, vs.lookup f = some v ∧ Rep K cl F d v
  | [], _, _, _, _, e => by simp at e
  | (k, x) :: ds, _, f, d, h, e => by
    rw [RepF] at h
    obtain ⟨v, r, rfl, h2, h3⟩ := h
    by_cases q : (f == k) = true
    · simp only [List.lookup, q] at e ⊢
      cases e
      exact ⟨v, rfl, h2⟩
    · have q' : (f == k) = false := by simpa using q
      simp only [List.lookup, q'] at e ⊢
      exact RepF.lookup h3 e
theorem RepF.lookup_none : ∀ {ds : List (Str × D)} {vs : List (Str × V)} {f : Str}, RepF K cl F ds vs → ds.lookup f = none → vs.lookup f = none
  | [], _, _, h, _ => by rw [RepF] at h; subst h; rfl
  | (k, x) :: ds, _, f, h, e => by
    rw [RepF] at h
    obtain ⟨v, r, rfl, h2, h3⟩ := h
    by_cases q : (f == k) = true
    · simp only [List.lookup, q] at e; cases e
    · have q' : (f == k) = false := by simpa using q
      simp only [List.lookup, q'] at e ⊢
      exact RepF.lookup_none h3 e
theorem RepF.length : ∀ {ds : List (Str × D)} {vs : List (Str × V)}, RepF K cl F ds vs → ds.length = vs.length
  | [], _, h => by rw [RepF] at h; subst h; rfl
  | (k, x) :: ds, _, h => by
    rw [RepF] at h
    obtain ⟨v, r, rfl, h2, h3⟩ := h
    simp only [List.length_cons, RepF.length h3]
def putD (f : Str) (v : D) : List (Str × D) → List (Str × D)
  | [] => [(f, v)]
  | (g, x) :: r => if g = f then (g, v) :: r else (g, x) :: putD f v r
theorem RepF.put {f : Str} {d : D} {v : V} (hd : Rep K cl F d v) : ∀ {ds : List (Str × D)} {vs : List (Str × V)}, RepF K cl F ds vs → RepF K cl F (putD f d ds) (putF f v vs)
  | [], _, h => by
    rw [RepF] at h; subst h
    rw [putD, putF, RepF]
    exact ⟨v, [], rfl, hd, by rw [RepF]⟩
  | (k, x) :: ds, _, h => by
    rw [RepF] at h
    obtain ⟨u, r, rfl, h2, h3⟩ := h
    rw [putD, putF]
    by_cases q : k = f
    · rw [if_pos q, if_pos q, RepF]
      exact ⟨v, r, rfl, hd, h3⟩
    · rw [if_neg q, if_neg q, RepF]
      exact ⟨u, _, rfl, h2, RepF.put hd h3⟩
end

/-! ### things of one's own -/
section
variable (K : PySem.W.Frag) (cl : Nat → Addr)
/-- what stands at a box -/
def CelK (H : Hp) (p : Addr) (vs : List V) : Kd → Prop
  | .lst => H p = some (.lst vs)
  | .obj c ns => ns.length = vs.length ∧ ∃ dx, H p = some (.ins (cl c) dx (ns.zip vs))
mutual
def CelE (F H : Hp) : El → V → List Addr → Prop
  | .d x, v, fp => fp = [] ∧ Rep K cl F x v
  | .n kd es, v, fp => ∃ p fq vs, v = .ref p ∧ fp = p :: fq ∧ CelK cl H p vs kd ∧ CelEs F H es vs fq
def CelEs (F H : Hp) : List El → List V → List Addr → Prop
  | [], vs, fp => vs = [] ∧ fp = []
  | e :: es, vs, fp => ∃ v r f1 f2, vs = v :: r ∧ fp = f1 ++ f2 ∧ CelE F H e v f1 ∧ CelEs F H es r f2
end
/-- the thing o stands at p, its objects at fp -/
def CellR (F H : Hp) (o : O) (p : Addr) (fp : List Addr) : Prop :=
  match o with
  | .lst xs => fp = [p] ∧ ∃ vs, H p = some (.lst vs) ∧ RepL K cl F xs vs
  | .dK kvs => fp = [p] ∧ ∃ ws, H p = some (.dK ws) ∧ RepK K cl F kvs ws
  | .dT kvs => fp = [p] ∧ ∃ ws, H p = some (.dT ws) ∧ RepT K cl F kvs ws
  | .obj c fs => fp = [p] ∧ ∃ dx ws, H p = some (.ins (cl c) dx ws) ∧ RepF K cl F fs ws
  | .box kd es => fp.Nodup ∧ CelE K cl F H (.n kd es) (.ref p) fp
  | .two d xs => ∃ q v vs, fp = [q] ∧ F p = some (.tup [v, .ref q]) ∧ Rep K cl F d v ∧ H q = some (.lst vs) ∧ RepL K cl F xs vs
end
/-- what stands at fp, too -/
def addF (F H : Hp) (fp : List Addr) : Hp := fun a => if a ∈ fp then H a else F a
section
variable {K : PySem.W.Frag} {cl : Nat → Addr} {F G H H' : Hp} {o : O} {p : Addr} {fp : List Addr}
theorem CelK.mono {vs : List V} {kd : Kd} (h : CelK cl H p vs kd) (hp : H' p = H p) : CelK cl H' p vs kd := by
  cases kd with
  | lst => exact hp.trans h
  | obj c ns => obtain ⟨h0, dx, h⟩ := h; exact ⟨h0, dx, hp.trans h⟩
mutual
theorem CelE.mono (e : Same F G) : ∀ (x : El) (v : V) (fp : List Addr), CelE K cl F H x v fp → (∀ a ∈ fp, H' a = H a) → CelE K cl G H' x v fp
  | .d x, v, fp, h, hh => by rw [CelE] at h ⊢; exact ⟨h.1, h.2.mono e⟩
  | .n kd es, v, fp, h, hh => by
    rw [CelE] at h ⊢
    obtain ⟨p, fq, vs, rfl, rfl, h1, h2⟩ := h
    exact ⟨p, fq, vs, rfl, rfl, h1.mono (hh p (by simp)), CelEs.mono e es vs fq h2 fun a ha => hh a (List.mem_cons_of_mem _ ha)⟩
theorem CelEs.mono (e : Same F G) : ∀ (xs : List El) (vs : List V) (fp : List Addr), CelEs K cl F H xs vs fp → (∀ a ∈ fp, H' a = H a) → CelEs K cl G H' xs vs fp
  | [], vs, fp, h, hh => by rw [CelEs] at h ⊢; exact h
  | x :: xs, vs, fp, h, hh => by
    rw [CelEs] at h ⊢
    obtain ⟨v, r, f1, f2, rfl, rfl, h1, h2⟩ := h
    exact ⟨v, r, f1, f2, rfl, rfl, CelE.mono e x v f1 h1 fun a ha => hh a (List.mem_append_left _ ha), CelEs.mono e xs r f2 h2 fun a ha => hh a (List.mem_append_right _ ha)⟩
end
theorem CelK.there {vs : List V} {kd : Kd} (h : CelK cl H p vs kd) : ∃ u, H p = some u ∧ ∀ ws, u ≠ .tup ws := by
  cases kd with
  | lst => exact ⟨_, h, fun ws z => by cases z⟩
  | obj c ns => obtain ⟨h0, dx, h⟩ := h; exact ⟨_, h, fun ws z => by cases z⟩
mutual
theorem CelE.there : ∀ (x : El) (v : V) (fp : List Addr), CelE K cl F H x v fp → ∀ a ∈ fp, ∃ u, H a = some u ∧ ∀ ws, u ≠ .tup ws
  | .d x, v, fp, h, a, ha => by rw [CelE] at h; rw [h.1] at ha; cases ha
  | .n kd es, v, fp, h, a, ha => by
    rw [CelE] at h
    obtain ⟨p, fq, vs, rfl, rfl, h1, h2⟩ := h
    rcases List.mem_cons.mp ha with z | z
    · rw [z]; exact h1.there
    · exact CelEs.there es vs fq h2 a z
theorem CelEs.there : ∀ (xs : List El) (vs : List V) (fp : List Addr), CelEs K cl F H xs vs fp → ∀ a ∈ fp, ∃ u, H a = some u ∧ ∀ ws, u ≠ .tup ws
  | [], vs, fp, h, a, ha => by rw [CelEs] at h; rw [h.2] at ha; cases ha
  | x :: xs, vs, fp, h, a, ha => by
    rw [CelEs] at h
    obtain ⟨v, r, f1, f2, rfl, rfl, h1, h2⟩ := h
    rcases List.mem_append.mp ha with z | z
    · exact CelE.there x v f1 h1 a z
    · exact CelEs.there xs r f2 h2 a z
end
theorem repF_zip {G : Hp} : ∀ {ns : List Str} {ds : List D} {vs : List V}, RepL K cl G ds vs → RepF K cl G (ns.zip ds) (ns.zip vs)
  | [], _, _, _ => by simp [RepF]
  | n :: ns, [], _, h => by rw [RepL] at h; subst h; simp [RepF]
  | n :: ns, d :: ds, _, h => by
    rw [RepL] at h
    obtain ⟨v, r, rfl, h1, h2⟩ := h
    rw [List.zip_cons_cons, List.zip_cons_cons, RepF]
    exact ⟨v, _, rfl, h1, repF_zip h2⟩
mutual
theorem CelE.frz (e : Same F G) : ∀ (x : El) (v : V) (fp : List Addr), CelE K cl F H x v fp → (∀ a ∈ fp, G a = H a) → Rep K cl G (frzE x) v
  | .d x, v, fp, h, hg => by rw [CelE] at h; rw [frzE]; exact h.2.mono e
  | .n .lst es, v, fp, h, hg => by
    rw [CelE] at h
    obtain ⟨p, fq, vs, rfl, rfl, h1, h2⟩ := h
    have h3 := CelEs.frz e es vs fq h2 fun a ha => hg a (List.mem_cons_of_mem _ ha)
    rw [frzE, Rep]
    exact ⟨p, vs, rfl, (hg p (by simp)).trans h1, h3⟩
  | .n (.obj c ns) es, v, fp, h, hg => by
    rw [CelE] at h
    obtain ⟨p, fq, vs, rfl, rfl, ⟨h0, dx, h1⟩, h2⟩ := h
    have h3 := CelEs.frz e es vs fq h2 fun a ha => hg a (List.mem_cons_of_mem _ ha)
    rw [frzE, Rep]
    exact ⟨p, dx, _, rfl, (hg p (by simp)).trans h1, repF_zip h3⟩
theorem CelEs.frz (e : Same F G) : ∀ (xs : List El) (vs : List V) (fp : List Addr), CelEs K cl F H xs vs fp → (∀ a ∈ fp, G a = H a) → RepL K cl G (frzEs xs) vs
  | [], vs, fp, h, hg => by rw [CelEs] at h; rw [frzEs, RepL]; exact h.1
  | x :: xs, vs, fp, h, hg => by
    rw [CelEs] at h
    obtain ⟨v, r, f1, f2, rfl, rfl, h1, h2⟩ := h
    rw [frzEs, RepL]
    exact ⟨v, r, rfl, CelE.frz e x v f1 h1 fun a ha => hg a (List.mem_append_left _ ha), CelEs.frz e xs r f2 h2 fun a ha => hg a (List.mem_append_right _ ha)⟩
end
theorem CellR.mono (h : CellR K cl F H o p fp) (e : Same F G) (hh : ∀ a ∈ fp, H' a = H a) : CellR K cl G H' o p fp := by
  cases o with
  | lst xs => obtain ⟨rfl, vs, h1, h2⟩ := h; exact ⟨rfl, vs, by rw [hh p (by simp)]; exact h1, h2.mono e⟩
  | dK xs => obtain ⟨rfl, vs, h1, h2⟩ := h; exact ⟨rfl, vs, by rw [hh p (by simp)]; exact h1, h2.mono e⟩
  | dT xs => obtain ⟨rfl, vs, h1, h2⟩ := h; exact ⟨rfl, vs, by rw [hh p (by simp)]; exact h1, h2.mono e⟩
  | obj c xs => obtain ⟨rfl, dx, vs, h1, h2⟩ := h; exact ⟨rfl, dx, vs, by rw [hh p (by simp)]; exact h1, h2.mono e⟩
  | box kd es => exact ⟨h.1, CelE.mono e _ _ _ h.2 hh⟩
  | two d xs => obtain ⟨q, v, vs, rfl, h0, hv, h1, h2⟩ := h; exact ⟨q, v, vs, rfl, e _ _ h0, hv.mono e, by rw [hh q (by simp)]; exact h1, h2.mono e⟩
theorem CellR.there (h : CellR K cl F H o p fp) : ∀ a ∈ fp, ∃ u, H a = some u := by
  intro a ha
  cases o with
  | lst xs => obtain ⟨rfl, vs, h1, h2⟩ := h; have e : a = p := by simpa using ha
              subst e; exact ⟨_, h1⟩
  | dK xs => obtain ⟨rfl, vs, h1, h2⟩ := h; have e : a = p := by simpa using ha
             subst e; exact ⟨_, h1⟩
  | dT xs => obtain ⟨rfl, vs, h1, h2⟩ := h; have e : a = p := by simpa using ha
             subst e; exact ⟨_, h1⟩
  | obj c xs => obtain ⟨rfl, dx, vs, h1, h2⟩ := h; have e : a = p := by simpa using ha
                subst e; exact ⟨_, h1⟩
  | box kd es => obtain ⟨u, h1, _⟩ := CelE.there _ _ _ h.2 a ha; exact ⟨u, h1⟩
  | two d xs => obtain ⟨q, v, vs, rfl, h0, hv, h1, h2⟩ := h; have e : a = q := by simpa using ha
                subst e; exact ⟨_, h1⟩
theorem addF_same (hf : ∀ a ∈ fp, F a = none) : Same F (addF F H fp) := fun a o e => by
  unfold addF
  by_cases q : a ∈ fp
  · rw [hf a q] at e; cases e
  · rw [if_neg q]; exact e
theorem addF_sub (h : Same F H) : Same (addF F H fp) H := fun a o e => by
  unfold addF at e
  by_cases q : a ∈ fp
  · rw [if_pos q] at e; exact e
  · rw [if_neg q] at e; exact h a o e
theorem CellR.frz (h : CellR K cl F H o p fp) (hf : ∀ a ∈ fp, F a = none) : Rep K cl (addF F H fp) (frzO o) (.ref p) := by
  have e : Same F (addF F H fp) := addF_same hf
  have q : ∀ b, b ∈ fp → addF F H fp b = H b := fun b hb => by unfold addF; rw [if_pos hb]
  cases o with
  | lst xs => obtain ⟨rfl, vs, h1, h2⟩ := h; rw [frzO, Rep]; exact ⟨p, vs, rfl, (q p (by simp)).trans h1, h2.mono e⟩
  | dK xs => obtain ⟨rfl, vs, h1, h2⟩ := h; rw [frzO, Rep]; exact ⟨p, _, vs, rfl, (q p (by simp)).trans h1, rfl, h2.mono e⟩
  | dT xs => obtain ⟨rfl, vs, h1, h2⟩ := h; rw [frzO, Rep]; exact ⟨p, vs, rfl, (q p (by simp)).trans h1, h2.mono e⟩
  | obj c xs => obtain ⟨rfl, dx, vs, h1, h2⟩ := h; rw [frzO, Rep]; exact ⟨p, dx, vs, rfl, (q p (by simp)).trans h1, h2.mono e⟩
  | two d xs =>
    obtain ⟨b, v, vs, rfl, h0, hv, h1, h2⟩ := h
    rw [frzO, Rep]
    refine ⟨p, [v, .ref b], rfl, e _ _ h0, ?_⟩
    rw [RepL]
    refine ⟨v, [.ref b], rfl, hv.mono e, ?_⟩
    rw [RepL]
    exact ⟨.ref b, [], rfl, by rw [Rep]; exact ⟨b, vs, rfl, (q b (by simp)).trans h1, h2.mono e⟩, by rw [RepL]⟩
  | box kd es => exact CelE.frz e _ _ _ h.2 fun a ha => by unfold addF; rw [if_pos ha]
end

/-! ### the table of the code objects -/
/-- the lambda's name -/
def lamQ : Str := ("striped.<locals>.<lambda>" : Str)
/-- a table; a thing known by what is true of it -/
def TX : HO → Prop
  | .tbl _ => True
  | .ext _ => True
  | _ => False
def NT (o : HO) : Prop := ∀ ps, o ≠ .tbl ps
/-- the table of the def that makes the lambda (cl 20 = cl 0: there is none); it never stands still -/
def tP (K : PySem.W.Frag) : Addr := match PySem.W.tabIn K ("striped" : Str) with
  | some (_, P) => P
  | none => 0
def Tab (K : PySem.W.Frag) (cl : Nat → Addr) (F H : Hp) : Prop := cl 20 = cl 0 ∨ (F (tP K) = none ∧ LamX.TabS H (tP K) lamQ)
theorem Tab.stay {K : PySem.W.Frag} {cl : Nat → Addr} {F F' H H' : Hp} (t : Tab K cl F H) (n : ∀ a o, H a = some o → TX o → F a = none → F' a = none) (e : ∀ a o, H a = some o → TX o → H' a = some o) : Tab K cl F' H' := by
  rcases t with t | ⟨t, ps, h1, h2, h3⟩
  · exact .inl t
  · refine .inr ⟨n _ _ h1 True.intro t, ps, e _ _ h1 True.intro, h2, fun pos cv hc => ?_⟩
    obtain ⟨c, e1, e2⟩ := h3 pos cv hc
    exact ⟨c, e1, e _ _ e2 (by unfold LamX.CodeO; exact True.intro)⟩
theorem Tab.same {K : PySem.W.Frag} {cl : Nat → Addr} {F H H' : Hp} (t : Tab K cl F H) (e : Same H H') : Tab K cl F H' := t.stay (fun _ _ _ _ z => z) fun a o h _ => e a o h
theorem Tab.upd {K : PySem.W.Frag} {cl : Nat → Addr} {F H : Hp} {p : Addr} {o : HO} (t : Tab K cl F H) (h : ∀ u, H p = some u → ¬ TX u) : Tab K cl F (L2.upd H p o) := t.stay (fun _ _ _ _ z => z) fun a u e x => by
  rw [upd_ne (fun z => h u (by rw [← z]; exact e) x)]; exact e
theorem Tab.new {K : PySem.W.Frag} {cl : Nat → Addr} {F H : Hp} {p : Addr} {o : HO} (t : Tab K cl F H) (h : H p = none) : Tab K cl F (L2.upd H p o) := t.upd fun u e => by rw [h] at e; cases e
/-- what stands still, but for the table -/
theorem Tab.split {K : PySem.W.Frag} {cl : Nat → Addr} {F H : Hp} (t : Tab K cl F H) (s : Same F H) : ∃ G, Same F G ∧ Same G H ∧ Tab K cl G H ∧ ∀ a o, H a = some o → (∀ ps, o ≠ .tbl ps) → G a = some o := by
  rcases t with t | ⟨t, h⟩
  · exact ⟨H, s, Same.refl H, .inl t, fun a o e _ => e⟩
  · refine ⟨fun a => if a = tP K then none else H a, fun a o e => ?_, fun a o e => ?_, .inr ⟨if_pos rfl, h⟩, fun a o e n => ?_⟩
    · show (if a = tP K then none else H a) = some o
      rw [if_neg fun z => by rw [z, t] at e; cases e]; exact s a o e
    · have e : (if a = tP K then none else H a) = some o := e
      by_cases z : a = tP K
      · rw [if_pos z] at e; cases e
      · rw [if_neg z] at e; exact e
    · show (if a = tP K then none else H a) = some o
      rw [if_neg fun z => ?_]
      · exact e
      · obtain ⟨ps, h1, _⟩ := h
        rw [z, h1] at e
        exact n ps (Option.some.inj e).symm
theorem Tab.by {K : PySem.W.Frag} {cl : Nat → Addr} {F F' H H' : Hp} (t : Tab K cl F H) (t' : Tab K cl F' H') : Tab K cl F H' := by
  rcases t with t | ⟨t, _⟩
  · exact .inl t
  · rcases t' with t' | ⟨_, t'⟩
    · exact .inl t'
    · exact .inr ⟨t, t'⟩
/-- all but tables stays -/
def SameN (H H' : Hp) : Prop := ∀ a o, H a = some o → NT o → H' a = some o
theorem nt_of {o : HO} (h : ¬ TX o) : NT o := fun ps z => h (by rw [z]; exact True.intro)
section
variable {K : PySem.W.Frag} {cl : Nat → Addr} {F G H H' : Hp} {o : O} {p : Addr} {fp : List Addr}
theorem CelK.there2 {vs : List V} {kd : Kd} (h : CelK cl H p vs kd) : ∃ u, H p = some u ∧ ¬ TX u := by
  cases kd with
  | lst => exact ⟨_, h, fun z => z⟩
  | obj c ns => obtain ⟨h0, dx, h⟩ := h; exact ⟨_, h, fun z => z⟩
mutual
theorem CelE.there2 : ∀ (x : El) (v : V) (fp : List Addr), CelE K cl F H x v fp → ∀ a ∈ fp, ∃ u, H a = some u ∧ ¬ TX u
  | .d x, v, fp, h, a, ha => by rw [CelE] at h; rw [h.1] at ha; cases ha
  | .n kd es, v, fp, h, a, ha => by
    rw [CelE] at h
    obtain ⟨p, fq, vs, rfl, rfl, h1, h2⟩ := h
    rcases List.mem_cons.mp ha with z | z
    · rw [z]; exact h1.there2
    · exact CelEs.there2 es vs fq h2 a z
theorem CelEs.there2 : ∀ (xs : List El) (vs : List V) (fp : List Addr), CelEs K cl F H xs vs fp → ∀ a ∈ fp, ∃ u, H a = some u ∧ ¬ TX u
  | [], vs, fp, h, a, ha => by rw [CelEs] at h; rw [h.2] at ha; cases ha
  | x :: xs, vs, fp, h, a, ha => by
    rw [CelEs] at h
    obtain ⟨v, r, f1, f2, rfl, rfl, h1, h2⟩ := h
    rcases List.mem_append.mp ha with z | z
    · exact CelE.there2 x v f1 h1 a z
    · exact CelEs.there2 xs r f2 h2 a z
end
theorem CellR.there2 (h : CellR K cl F H o p fp) : ∀ a ∈ fp, ∃ u, H a = some u ∧ ¬ TX u := by
  intro a ha
  cases o with
  | lst xs => obtain ⟨rfl, vs, h1, h2⟩ := h; have e : a = p := by simpa using ha
              subst e; exact ⟨_, h1, fun z => z⟩
  | dK xs => obtain ⟨rfl, vs, h1, h2⟩ := h; have e : a = p := by simpa using ha
             subst e; exact ⟨_, h1, fun z => z⟩
  | dT xs => obtain ⟨rfl, vs, h1, h2⟩ := h; have e : a = p := by simpa using ha
             subst e; exact ⟨_, h1, fun z => z⟩
  | obj c xs => obtain ⟨rfl, dx, vs, h1, h2⟩ := h; have e : a = p := by simpa using ha
                subst e; exact ⟨_, h1, fun z => z⟩
  | box kd es => exact CelE.there2 _ _ _ h.2 a ha
  | two d xs => obtain ⟨q, v, vs, rfl, h0, hv, h1, h2⟩ := h; have e : a = q := by simpa using ha
                subst e; exact ⟨_, h1, fun z => z⟩
end

theorem Tab.addF {K : PySem.W.Frag} {cl : Nat → Addr} {G F H : Hp} {o : O} {p : Addr} {fp : List Addr} (t : Tab K cl F H) (h : CellR K cl G H o p fp) : Tab K cl (Mv.addF F H fp) H := t.stay (fun a u e x z => by
  unfold Mv.addF
  rw [if_neg fun q => ?_]
  · exact z
  · obtain ⟨w, h1, h2⟩ := h.there2 a q
    rw [e] at h1; cases h1
    exact h2 x) fun _ _ e _ => e
/-! ### a frame over the heap -/
/-- the objects of the places of one's own -/
def Ow (S : Fm) (fp : Nat → List Addr) (a : Addr) : Prop := ∃ (i : Nat) (o : O), S[i]? = some (Sl.ow o) ∧ a ∈ fp i
structure EnvR (K : PySem.W.Frag) (cl : Nat → Addr) (F H : Hp) (σ : L2.St) (S : Fm) (fp : Nat → List Addr) : Prop where
  sub : Same F H
  len : S.length = σ.length
  fz : ∀ (i : Nat) (d : D), S[i]? = some (Sl.fz d) → ∃ v, σ[i]? = some (some v) ∧ Rep K cl F d v
  ow : ∀ (i : Nat) (o : O), S[i]? = some (Sl.ow o) → ∃ p, σ[i]? = some (some (V.ref p)) ∧ CellR K cl F H o p (fp i)
  nf : ∀ (i : Nat) (o : O), S[i]? = some (Sl.ow o) → ∀ a ∈ fp i, F a = none
  dj : ∀ (i j : Nat) (o u : O), i ≠ j → S[i]? = some (Sl.ow o) → S[j]? = some (Sl.ow u) → ∀ a ∈ fp i, a ∉ fp j
  tb : Tab K cl F H
/-- from one state to a later one -/
structure Stp (F H : Hp) (S : Fm) (fp : Nat → List Addr) (F' H' : Hp) (S' : Fm) (fp' : Nat → List Addr) : Prop where
  ff : Same F F'
  hh : ∀ a o, H a = some o → NT o → ¬ Ow S fp a → H' a = some o
  nn : ∀ a o, H a = some o → ¬ TX o → F a = none → ¬ Ow S fp a → F' a = none
  oo : ∀ a, Ow S' fp' a → Ow S fp a ∨ H a = none
  th : ∀ a, H' a = none → H a = none
theorem Stp.refl {F H : Hp} {S : Fm} {fp : Nat → List Addr} : Stp F H S fp F H S fp :=
  ⟨Same.refl F, fun _ _ h _ _ => h, fun _ _ _ _ h _ => h, fun _ h => .inl h, fun _ h => h⟩
theorem Stp.trans {F H F1 H1 F2 H2 : Hp} {S S1 S2 : Fm} {fp fp1 fp2 : Nat → List Addr} (a : Stp F H S fp F1 H1 S1 fp1) (b : Stp F1 H1 S1 fp1 F2 H2 S2 fp2) : Stp F H S fp F2 H2 S2 fp2 := by
  have no : ∀ c o, H c = some o → ¬ Ow S fp c → ¬ Ow S1 fp1 c := fun c o e n q => by
    rcases a.oo c q with z | z
    · exact n z
    · rw [e] at z; cases z
  refine ⟨a.ff.trans b.ff, fun c o e nt n => b.hh c o (a.hh c o e nt n) nt (no c o e n), fun c o e nx z n => ?_, fun c q => ?_, fun c q => a.th c (b.th c q)⟩
  · exact b.nn c o (a.hh c o e (nt_of nx) n) nx (a.nn c o e nx z n) (no c o e n)
  · rcases b.oo c q with z | z
    · exact a.oo c z
    · exact .inr (a.th c z)
/-- new objects alone -/
structure Small (F H F' H' : Hp) : Prop where
  ff : Same F F'
  hh : Same H H'
  nn : ∀ a o, H a = some o → F a = none → F' a = none
  sub : Same F' H'
/-- .. but for the tables -/
structure SmallW (K : PySem.W.Frag) (cl : Nat → Addr) (F H F' H' : Hp) : Prop where
  ff : Same F F'
  hh : SameN H H'
  nn : ∀ a o, H a = some o → F a = none → F' a = none
  sub : Same F' H'
  th : ∀ a, H' a = none → H a = none
  tb : Tab K cl F' H'
theorem Small.weak {K : PySem.W.Frag} {cl : Nat → Addr} {F H F' H' : Hp} (s : Small F H F' H') (t : Tab K cl F H) : SmallW K cl F H F' H' := ⟨s.ff, fun a o h _ => s.hh a o h, s.nn, s.sub, fun a h => s.hh.free h, t.stay (fun a o h _ => s.nn a o h) fun a o h _ => s.hh a o h⟩
theorem Small.refl {F H : Hp} (s : Same F H) : Small F H F H := ⟨Same.refl F, Same.refl H, fun _ _ _ h => h, s⟩
section
variable {K : PySem.W.Frag} {cl : Nat → Addr} {F H F' H' : Hp} {σ : St} {S S' : Fm} {fp fp' : Nat → List Addr}
theorem EnvR.owned (E : EnvR K cl F H σ S fp) {a : Addr} (h : Ow S fp a) : F a = none ∧ ∃ u, H a = some u := by
  obtain ⟨i, o, h1, h2⟩ := h
  obtain ⟨p, _, c⟩ := E.ow i o h1
  exact ⟨E.nf i o h1 a h2, c.there a h2⟩
theorem EnvR.owned2 (E : EnvR K cl F H σ S fp) {a : Addr} (h : Ow S fp a) : ∃ u, H a = some u ∧ ¬ TX u := by
  obtain ⟨i, o, h1, h2⟩ := h
  obtain ⟨p, _, c⟩ := E.ow i o h1
  exact c.there2 a h2
theorem EnvR.small (E : EnvR K cl F H σ S fp) (s : Small F H F' H') : EnvR K cl F' H' σ S fp := by
  refine ⟨s.sub, E.len, fun i d h => ?_, fun i o h => ?_, fun i o h a ha => ?_, E.dj, E.tb.stay (fun a o h _ => s.nn a o h) fun a o h _ => s.hh a o h⟩
  · obtain ⟨v, h1, h2⟩ := E.fz i d h
    exact ⟨v, h1, h2.mono s.ff⟩
  · obtain ⟨p, h1, h2⟩ := E.ow i o h
    refine ⟨p, h1, h2.mono s.ff fun a ha => ?_⟩
    obtain ⟨u, hu⟩ := h2.there a ha
    rw [hu]; exact s.hh a u hu
  · obtain ⟨p, _, c⟩ := E.ow i o h
    obtain ⟨u, hu⟩ := c.there a ha
    exact s.nn a u hu (E.nf i o h a ha)
theorem EnvR.smallW (E : EnvR K cl F H σ S fp) (s : SmallW K cl F H F' H') : EnvR K cl F' H' σ S fp := by
  refine ⟨s.sub, E.len, fun i d h => ?_, fun i o h => ?_, fun i o h a ha => ?_, E.dj, s.tb⟩
  · obtain ⟨v, h1, h2⟩ := E.fz i d h
    exact ⟨v, h1, h2.mono s.ff⟩
  · obtain ⟨p, h1, h2⟩ := E.ow i o h
    refine ⟨p, h1, h2.mono s.ff fun a ha => ?_⟩
    obtain ⟨u, hu, hx⟩ := h2.there2 a ha
    rw [hu]; exact s.hh a u hu (nt_of hx)
  · obtain ⟨p, _, c⟩ := E.ow i o h
    obtain ⟨u, hu⟩ := c.there a ha
    exact s.nn a u hu (E.nf i o h a ha)
theorem SmallW.step (s : SmallW K cl F H F' H') : Stp F H S fp F' H' S fp :=
  ⟨s.ff, fun a o h nt _ => s.hh a o h nt, fun a o h _ z _ => s.nn a o h z, fun _ h => .inl h, s.th⟩
theorem Small.step (s : Small F H F' H') : Stp F H S fp F' H' S fp :=
  ⟨s.ff, fun a o h _ _ => s.hh a o h, fun a o h _ z _ => s.nn a o h z, fun _ h => .inl h, fun a h => s.hh.free h⟩

/-- an expression's result over the heap; H0, S0, fp0: where it began -/
def RelR (K : PySem.W.Frag) (cl : Nat → Addr) (H0 : Hp) (S0 : Fm) (fp0 : Nat → List Addr) (F H : Hp) (σ : L2.St) (S : Fm) (fp : Nat → List Addr) (r : R) (v : V) : Prop :=
  match r with
  | .val d => Rep K cl F d v
  | .own o => ∃ p fq, v = .ref p ∧ CellR K cl F H o p fq ∧ ∀ a ∈ fq, F a = none ∧ ¬ Ow S fp a ∧ (H0 a = none ∨ Ow S0 fp0 a)
  | .slot i => σ[i]? = some (some v)
/-- a new thing comes to stand still -/
theorem RelR.frz {H0 : Hp} {S0 : Fm} {fp0 : Nat → List Addr} {F0 : Hp} {o : O} {v : V} (E : EnvR K cl F H σ S fp) (st : Stp F0 H0 S0 fp0 F H S fp) (r : RelR K cl H0 S0 fp0 F H σ S fp (.own o) v) :
    ∃ G, EnvR K cl G H σ S fp ∧ Stp F0 H0 S0 fp0 G H S fp ∧ Rep K cl G (frzO o) v := by
  obtain ⟨p, fq, rfl, c, hq⟩ := r
  have hf : ∀ a ∈ fq, F a = none := fun a ha => (hq a ha).1
  have sm := addF_same (H := H) hf
  refine ⟨addF F H fq, ⟨addF_sub E.sub, E.len, fun i d h => ?_, fun i u h => ?_, fun i u h a ha => ?_, E.dj, E.tb.addF c⟩, ⟨st.ff.trans sm, st.hh, fun a u h nx z n => ?_, st.oo, st.th⟩, c.frz hf⟩
  · obtain ⟨v, h1, h2⟩ := E.fz i d h
    exact ⟨v, h1, h2.mono sm⟩
  · obtain ⟨p, h1, h2⟩ := E.ow i u h
    exact ⟨p, h1, h2.mono sm fun _ _ => rfl⟩
  · unfold addF
    rw [if_neg fun z => (hq a z).2.1 ⟨i, u, h, ha⟩]
    exact E.nf i u h a ha
  · unfold addF
    rw [if_neg fun q => ?_]
    · exact st.nn a u h nx z n
    · rcases (hq a q).2.2 with w | w
      · rw [h] at w; cases w
      · exact n w
end
end Mv

/-! Mv: readings over data and how they lead to the readings over the heap. -/
namespace Mv
open PySem L2

abbrev EX := XD → Fm → Prop
abbrev ME := EX → (R → Fm → Prop) → Fm → Prop
abbrev MT := EX → (Bool → Fm → Prop) → Fm → Prop
abbrev MA := EX → (List R → Fm → Prop) → Fm → Prop
structure MEnds where
  nx : Fm → Prop
  rt : R → Fm → Prop
  bk : Fm → Prop
  ct : Fm → Prop
  ex : EX
abbrev MS := MEnds → Fm → Prop

theorem PE.imp {X : Cx} {e : Expr} {t u : TE} (h : PE X e t) (i : ∀ σ H Q, u σ H Q → t σ H Q) : PE X e u := ⟨fun pins s σ H Q I hw => h.run pins s σ H Q I (i σ H Q hw)⟩
theorem PT.imp {X : Cx} {e : Expr} {t u : TT} (h : PT X e t) (i : ∀ σ H Q, u σ H Q → t σ H Q) : PT X e u := ⟨fun pins s σ H Q I hw => h.run pins s σ H Q I (i σ H Q hw)⟩
theorem PW.imp {X : Cx} {e : Expr} {t u : TT} (h : PW X e t) (i : ∀ σ H Q, u σ H Q → t σ H Q) : PW X e u := ⟨fun wh pins s σ H Q I hw => h.run wh pins s σ H Q I (i σ H Q hw)⟩
theorem PA.imp {X : Cx} {e : List Expr} {t u : TA} (h : PA X e t) (i : ∀ σ H Q, u σ H Q → t σ H Q) : PA X e u := ⟨fun pos pins s σ H Q I hw => h.run pos pins s σ H Q I (i σ H Q hw)⟩
theorem PS.imp {X : Cx} {e : Stmt} {t u : TS} (h : PS X e t) (i : ∀ D σ H, u D σ H → t D σ H) : PS X e u := ⟨fun pins s σ H D I hw => h.run pins s σ H D I (i D σ H hw)⟩
theorem PSs.imp {X : Cx} {e : List Stmt} {t u : TS} (h : PSs X e t) (i : ∀ D σ H, u D σ H → t D σ H) : PSs X e u := ⟨fun pins s σ H D I hw => h.run pins s σ H D I (i D σ H hw)⟩
theorem PI.imp {X : Cx} {tg e : Expr} {t u : TI} (h : PI X tg e t) (i : ∀ σ H Q, u σ H Q → t σ H Q) : PI X tg e u := ⟨fun pins s σ H Q I hw => h.run pins s σ H Q I (i σ H Q hw)⟩
theorem PG.imp {X : Cx} {e : Expr} {t u : TG} (h : PG X e t) (i : ∀ v σ H Q, u v σ H Q → t v σ H Q) : PG X e u := ⟨fun pins s σ H v w Q I r hw => h.run pins s σ H v w Q I r (i v σ H Q hw)⟩

section
variable (K : PySem.W.Frag) (cl : Nat → Addr)
/-- an error over the heap -/
def XRel (F : Hp) (xd : XD) (c : Value) (d : Option Addr) : Prop := c = .ref (cl xd.c) ∧ ∃ dx ws, d = some dx ∧ F dx = some (.xd ws) ∧ RepF K cl F xd.fs ws
/-- what is wanted of errors from here on -/
def Exl (W : WX) (pin : List Nat) (σ : L2.St) (F H : Hp) (S : Fm) (fp : Nat → List Addr) (E0 : EX) : Prop :=
  ∀ xd S', E0 xd S' → ∀ c d σ' F' H' fp', (∀ i ∈ pin, σ'[i]? = σ[i]?) → Stp F H S fp F' H' S' fp' → EnvR K cl F' H' σ' S' fp' → XRel K cl F' xd c d → W c d σ' H'
def LE (W : WX) (pin : List Nat) (m : ME) : TE := fun σ H Q => ∃ S F fp E0 Q0, EnvR K cl F H σ S fp ∧ m E0 Q0 S ∧ Exl K cl W pin σ F H S fp E0 ∧
  ∀ r S', Q0 r S' → ∀ v F' H' fp', Stp F H S fp F' H' S' fp' → EnvR K cl F' H' σ S' fp' → RelR K cl H S fp F' H' σ S' fp' r v → Q v H'
def LT (W : WX) (pin : List Nat) (m : MT) : TT := fun σ H Q => ∃ S F fp E0 Q0, EnvR K cl F H σ S fp ∧ m E0 Q0 S ∧ Exl K cl W pin σ F H S fp E0 ∧
  ∀ b S', Q0 b S' → ∀ F' H' fp', Stp F H S fp F' H' S' fp' → EnvR K cl F' H' σ S' fp' → Q b H'
/-- an argument: data or the thing of a place -/
def RelA (F : Hp) (σ : L2.St) : R → V → Prop
  | .val d, v => Rep K cl F d v
  | .own _, _ => False
  | .slot i, v => σ[i]? = some (some v)
def RelAs (F : Hp) (σ : L2.St) : List R → List V → Prop
  | [], vs => vs = []
  | r :: rs, vs => ∃ v us, vs = v :: us ∧ RelA K cl F σ r v ∧ RelAs F σ rs us
def LA (W : WX) (pin : List Nat) (m : MA) : TA := fun σ H Q => ∃ S F fp E0 Q0, EnvR K cl F H σ S fp ∧ m E0 Q0 S ∧ Exl K cl W pin σ F H S fp E0 ∧
  ∀ rs S', Q0 rs S' → ∀ vs F' H' fp', Stp F H S fp F' H' S' fp' → EnvR K cl F' H' σ S' fp' → RelAs K cl F' σ rs vs → Q vs H'
def LS (W : WX) (pin : List Nat) (m : MS) : TS := fun D σ H => ∃ S F fp D0, EnvR K cl F H σ S fp ∧ m D0 S ∧ Exl K cl W pin σ F H S fp D0.ex ∧
  (∀ S', D0.nx S' → ∀ σ' F' H' fp', (∀ i ∈ pin, σ'[i]? = σ[i]?) → Stp F H S fp F' H' S' fp' → EnvR K cl F' H' σ' S' fp' → D.nx σ' H') ∧
  (∀ S', D0.bk S' → ∀ σ' F' H' fp', (∀ i ∈ pin, σ'[i]? = σ[i]?) → Stp F H S fp F' H' S' fp' → EnvR K cl F' H' σ' S' fp' → D.bk σ' H') ∧
  (∀ S', D0.ct S' → ∀ σ' F' H' fp', (∀ i ∈ pin, σ'[i]? = σ[i]?) → Stp F H S fp F' H' S' fp' → EnvR K cl F' H' σ' S' fp' → D.ct σ' H') ∧
  (∀ r S', D0.rt r S' → ∀ v σ' F' H' fp', (∀ i ∈ pin, σ'[i]? = σ[i]?) → Stp F H S fp F' H' S' fp' → EnvR K cl F' H' σ' S' fp' → RelR K cl H S fp F' H' σ' S' fp' r v → D.rt v H')
end

section
variable {K : PySem.W.Frag} {cl : Nat → Addr} {W : WX} {pin : List Nat} {σ σ1 : L2.St} {F H F1 H1 : Hp} {S S1 : Fm} {fp fp1 : Nat → List Addr} {E0 : EX} {m : ME} {mt : MT} {ma : MA}
theorem Exl.step (x : Exl K cl W pin σ F H S fp E0) (st : Stp F H S fp F1 H1 S1 fp1) (hp : ∀ i ∈ pin, σ1[i]? = σ[i]?) : Exl K cl W pin σ1 F1 H1 S1 fp1 E0 :=
  fun xd S' h c d σ' F' H' fp' p s e r => x xd S' h c d σ' F' H' fp' (fun i hi => (p i hi).trans (hp i hi)) (st.trans s) e r
theorem LE.mk {Q0 : R → Fm → Prop} {Q : VK} (E : EnvR K cl F H σ S fp) (h : m E0 Q0 S) (x : Exl K cl W pin σ F H S fp E0)
    (k : ∀ r S' v F' H' fp', Q0 r S' → Stp F H S fp F' H' S' fp' → EnvR K cl F' H' σ S' fp' → RelR K cl H S fp F' H' σ S' fp' r v → Exl K cl W pin σ F' H' S' fp' E0 → Q v H') : LE K cl W pin m σ H Q :=
  ⟨S, F, fp, E0, Q0, E, h, x, fun r S' q v F' H' fp' st e rr => k r S' v F' H' fp' q st e rr (x.step st fun _ _ => rfl)⟩
theorem LT.mk {Q0 : Bool → Fm → Prop} {Q : Bool → Hp → Prop} (E : EnvR K cl F H σ S fp) (h : mt E0 Q0 S) (x : Exl K cl W pin σ F H S fp E0)
    (k : ∀ r S' F' H' fp', Q0 r S' → Stp F H S fp F' H' S' fp' → EnvR K cl F' H' σ S' fp' → Exl K cl W pin σ F' H' S' fp' E0 → Q r H') : LT K cl W pin mt σ H Q :=
  ⟨S, F, fp, E0, Q0, E, h, x, fun r S' q F' H' fp' st e => k r S' F' H' fp' q st e (x.step st fun _ _ => rfl)⟩
theorem LA.mk {Q0 : List R → Fm → Prop} {Q : List V → Hp → Prop} (E : EnvR K cl F H σ S fp) (h : ma E0 Q0 S) (x : Exl K cl W pin σ F H S fp E0)
    (k : ∀ r S' v F' H' fp', Q0 r S' → Stp F H S fp F' H' S' fp' → EnvR K cl F' H' σ S' fp' → RelAs K cl F' σ r v → Exl K cl W pin σ F' H' S' fp' E0 → Q v H') : LA K cl W pin ma σ H Q :=
  ⟨S, F, fp, E0, Q0, E, h, x, fun r S' q v F' H' fp' st e rr => k r S' v F' H' fp' q st e rr (x.step st fun _ _ => rfl)⟩
theorem RelA.mono {r : R} {v : V} (h : RelA K cl F σ r v) (e : Same F F1) : RelA K cl F1 σ r v := by
  cases r with
  | val d => exact Rep.mono e d v h
  | own o => exact h
  | slot i => exact h
theorem RelAs.mono : ∀ {rs : List R} {vs : List V}, RelAs K cl F σ rs vs → Same F F1 → RelAs K cl F1 σ rs vs
  | [], _, h, _ => h
  | r :: rs, _, ⟨v, us, e, h, t⟩, s => ⟨v, us, e, h.mono s, RelAs.mono t s⟩
/-- a result, made ready to be kept: a new thing stands still -/
def fzR : R → R
  | .own o => .val (frzO o)
  | r => r
theorem RelR.ready {H0 F0 : Hp} {S0 : Fm} {fp0 : Nat → List Addr} {r : R} {v : V} (E : EnvR K cl F H σ S fp) (st : Stp F0 H0 S0 fp0 F H S fp) (h : RelR K cl H0 S0 fp0 F H σ S fp r v) :
    ∃ G, EnvR K cl G H σ S fp ∧ Stp F0 H0 S0 fp0 G H S fp ∧ Same F G ∧ RelA K cl G σ (fzR r) v := by
  cases r with
  | val d => exact ⟨F, E, st, Same.refl F, h⟩
  | own o =>
    obtain ⟨p, fq, rfl, c, hq⟩ := id h
    obtain ⟨G, h1, h2, h3⟩ := RelR.frz E st h
    refine ⟨addF F H fq, ?_⟩
    have hf : ∀ a ∈ fq, F a = none := fun a ha => (hq a ha).1
    have sm := addF_same (H := H) hf
    refine ⟨⟨addF_sub E.sub, E.len, fun i d h => ?_, fun i u h => ?_, fun i u h a ha => ?_, E.dj, E.tb.addF c⟩, ⟨st.ff.trans sm, st.hh, fun a u h nx z n => ?_, st.oo, st.th⟩, sm, c.frz hf⟩
    · obtain ⟨v, h1, h2⟩ := E.fz i d h
      exact ⟨v, h1, h2.mono sm⟩
    · obtain ⟨p, h1, h2⟩ := E.ow i u h
      exact ⟨p, h1, h2.mono sm fun _ _ => rfl⟩
    · unfold addF
      rw [if_neg fun z => (hq a z).2.1 ⟨i, u, h, ha⟩]
      exact E.nf i u h a ha
    · unfold addF
      rw [if_neg fun q => ?_]
      · exact st.nn a u h nx z n
      · rcases (hq a q).2.2 with w | w
        · rw [h] at w; cases w
        · exact n w
  | slot i => exact ⟨F, E, st, Same.refl F, h⟩
/-- a thing that is no box -/
def CellN (K : PySem.W.Frag) (cl : Nat → Addr) (F H : Hp) (o : O) (p : Addr) (fq : List Addr) : Prop := match o with
  | .box _ _ => False
  | .two _ _ => False
  | .lst xs => CellR K cl F H (.lst xs) p fq
  | .dK xs => CellR K cl F H (.dK xs) p fq
  | .dT xs => CellR K cl F H (.dT xs) p fq
  | .obj c xs => CellR K cl F H (.obj c xs) p fq
def nbQ (o : O) (k : D → Prop) : Prop := match o with
  | .box _ _ => False
  | .two _ _ => False
  | .lst xs => k (.lst xs)
  | .dK xs => k (.dK xs)
  | .dT xs => k (.dT xs)
  | .obj c xs => k (.obj c xs)
theorem nbQ_ok {o : O} {k : D → Prop} {p : Addr} {fq : List Addr} (q : nbQ o k) (c : CellR K cl F H o p fq) : CellN K cl F H o p fq ∧ k (frzO o) := by
  cases o with
  | box _ _ => exact False.elim q
  | two _ _ => exact False.elim q
  | _ => exact ⟨c, q⟩
/-- what is read: data, or a thing that may be changed elsewhere -/
def Pk (K : PySem.W.Frag) (cl : Nat → Addr) (F H : Hp) (d : D) (v : V) : Prop := Rep K cl F d v ∨ ∃ o p fq, d = frzO o ∧ v = .ref p ∧ CellN K cl F H o p fq ∧ ∀ a ∈ fq, F a = none
def PkL (K : PySem.W.Frag) (cl : Nat → Addr) (F H : Hp) : List D → List V → Prop
  | [], vs => vs = []
  | d :: ds, vs => ∃ v us, vs = v :: us ∧ Pk K cl F H d v ∧ PkL K cl F H ds us
def pkQ (S : Fm) (r : R) (k : D → Prop) : Prop :=
  match r with
  | .val d => k d
  | .own o => nbQ o k
  | .slot i => ∃ o, S[i]? = some (Sl.ow o) ∧ nbQ o k
def pkQs (S : Fm) : List R → (List D → Prop) → Prop
  | [], k => k []
  | r :: rs, k => pkQ S r fun d => pkQs S rs fun ds => k (d :: ds)
theorem RelA.pk {r : R} {v : V} {k : D → Prop} (E : EnvR K cl F H σ S fp) (h : RelA K cl F σ r v) (q : pkQ S r k) : ∃ d, Pk K cl F H d v ∧ k d := by
  cases r with
  | val d => exact ⟨d, .inl h, q⟩
  | own o => exact h.elim
  | slot i =>
    obtain ⟨o, h1, h2⟩ := q
    obtain ⟨p, e, c⟩ := E.ow i o h1
    have e2 : σ[i]? = some (some v) := h
    rw [e] at e2; cases e2
    exact ⟨_, .inr ⟨o, p, _, rfl, rfl, (nbQ_ok h2 c).1, E.nf i o h1⟩, (nbQ_ok h2 c).2⟩
theorem RelAs.pk (E : EnvR K cl F H σ S fp) : ∀ {rs : List R} {vs : List V} {k : List D → Prop}, RelAs K cl F σ rs vs → pkQs S rs k → ∃ ds, PkL K cl F H ds vs ∧ k ds
  | [], _, _, h, q => ⟨[], h, q⟩
  | r :: rs, _, _, ⟨v, us, e, h, t⟩, q => by
    obtain ⟨d, h1, h2⟩ := h.pk E q
    obtain ⟨ds, h3, h4⟩ := RelAs.pk E t h2
    exact ⟨d :: ds, ⟨v, us, e, h1, h3⟩, h4⟩
theorem RelR.pk {H0 : Hp} {S0 : Fm} {fp0 : Nat → List Addr} {r : R} {v : V} {k : D → Prop} (E : EnvR K cl F H σ S fp) (h : RelR K cl H0 S0 fp0 F H σ S fp r v) (q : pkQ S r k) : ∃ d, Pk K cl F H d v ∧ k d := by
  cases r with
  | val d => exact ⟨d, .inl h, q⟩
  | own o =>
    obtain ⟨p, fq, rfl, c, hq⟩ := h
    exact ⟨_, .inr ⟨o, p, fq, rfl, rfl, (nbQ_ok q c).1, fun a ha => (hq a ha).1⟩, (nbQ_ok q c).2⟩
  | slot i =>
    obtain ⟨o, h1, h2⟩ := q
    obtain ⟨p, e, c⟩ := E.ow i o h1
    have e2 : σ[i]? = some (some v) := h
    rw [e] at e2; cases e2
    exact ⟨_, .inr ⟨o, p, _, rfl, rfl, (nbQ_ok h2 c).1, E.nf i o h1⟩, (nbQ_ok h2 c).2⟩
/-- a result of an operation that makes new objects alone -/
def Res0 (K : PySem.W.Frag) (cl : Nat → Addr) (H F' H' : Hp) (r : R) (z : V) : Prop :=
  match r with
  | .val d => Rep K cl F' d z
  | .own o => ∃ p fq, z = .ref p ∧ CellR K cl F' H' o p fq ∧ ∀ a ∈ fq, F' a = none ∧ H a = none
  | .slot _ => False
theorem Res0.rel {F' H' : Hp} {H0 F0 : Hp} {S0 : Fm} {fp0 : Nat → List Addr} {r : R} {z : V} (E : EnvR K cl F H σ S fp) (st : Stp F0 H0 S0 fp0 F H S fp) (h : Res0 K cl H F' H' r z) : RelR K cl H0 S0 fp0 F' H' σ S fp r z := by
  cases r with
  | val d => exact h
  | own o =>
    obtain ⟨p, fq, e, c, hq⟩ := h
    refine ⟨p, fq, e, c, fun a ha => ⟨(hq a ha).1, fun w => ?_, .inl (st.th a (hq a ha).2)⟩⟩
    obtain ⟨_, u, hu⟩ := E.owned w
    rw [(hq a ha).2] at hu; cases hu
  | slot i => exact h.elim
end

/-! ### operations over data -/
abbrev DOp2 := D → D → (R → Prop) → Prop
abbrev DOp1 := D → (R → Prop) → Prop
abbrev DOpL := List D → (R → Prop) → Prop
section
variable (K : PySem.W.Frag) (cl : Nat → Addr)
structure Post0 (F H : Hp) (Q0 : R → Prop) (Q : VK) : Prop where
  tb : Tab K cl F H
  run : ∀ r, Q0 r → ∀ z F' H', SmallW K cl F H F' H' → Res0 K cl H F' H' r z → Q z H'
theorem Post0.of {F H : Hp} {Q0 : R → Prop} {Q : VK} (P : Post0 K cl F H Q0 Q) : ∀ r, Q0 r → ∀ z F' H', Small F H F' H' → Res0 K cl H F' H' r z → Q z H' := fun r q z F' H' sm rs => P.run r q z F' H' (sm.weak P.tb) rs
instance Post0.fn {F H : Hp} {Q0 : R → Prop} {Q : VK} : CoeFun (Post0 K cl F H Q0 Q) (fun _ => ∀ r, Q0 r → ∀ z F' H', Small F H F' H' → Res0 K cl H F' H' r z → Q z H') := ⟨fun P r q z F' H' sm rs => P.run r q z F' H' (sm.weak P.tb) rs⟩
def r2 (dop : DOp2) : R2 := fun x y H Q => ∃ F d e Q0, Same F H ∧ Pk K cl F H d x ∧ Pk K cl F H e y ∧ dop d e Q0 ∧ Post0 K cl F H Q0 Q
def r1 (dop : DOp1) : V → Hp → VK → Prop := fun x H Q => ∃ F d Q0, Same F H ∧ Pk K cl F H d x ∧ dop d Q0 ∧ Post0 K cl F H Q0 Q
def rL (dop : DOpL) : List V → Hp → VK → Prop := fun xs H Q => ∃ F ds Q0, Same F H ∧ PkL K cl F H ds xs ∧ dop ds Q0 ∧ Post0 K cl F H Q0 Q
end

/-! ### expressions -/
def mVar (i : Nat) : ME := fun _ Q S => ∃ d, S[i]? = some (Sl.fz d) ∧ Q (.val d) S
def mOwn (i : Nat) : ME := fun _ Q S => (∃ o, S[i]? = some (Sl.ow o) ∧ Q (.slot i) S) ∨ ∃ d, S[i]? = some (Sl.fz d) ∧ Q (.val d) S
def mC (d : D) : ME := fun _ Q S => Q (.val d) S
/-- the result stands still from now on -/
def mFz (m : ME) : ME := fun E Q S => m E (fun r S1 => match r with
  | .val d => Q (.val d) S1
  | .own o => Q (.val (frzO o)) S1
  | .slot i => ∃ o, S1[i]? = some (Sl.ow o) ∧ Q (.val (frzO o)) (S1.set i (.fz (frzO o)))) S
def mBin (dop : DOp2) (a b : ME) : ME := fun E Q S => a E (fun x S1 => b E (fun y S2 => pkQ S2 (fzR x) fun d => pkQ S2 (fzR y) fun e => dop d e fun r => Q r S2) S1) S
def mUn (dop : DOp1) (a : ME) : ME := fun E Q S => a E (fun x S1 => pkQ S1 (fzR x) fun d => dop d fun r => Q r S1) S
def mNil : MA := fun _ Q S => Q [] S
def mCons (a : ME) (r : MA) : MA := fun E Q S => a E (fun x S1 => r E (fun xs S2 => Q (fzR x :: xs) S2) S1) S
def mBi (dop : DOpL) (a : MA) : ME := fun E Q S => a E (fun rs S1 => pkQs S1 rs fun ds => dop ds fun r => Q r S1) S
def mIf (c : MT) (a b : ME) : ME := fun E Q S => c E (fun k S1 => if k = true then a E Q S1 else b E Q S1) S
/-- tests -/
def mTe (a : ME) : MT := fun E Q S => a E (fun x S1 => match x with
  | .val (.bl k) => Q k S1
  | _ => False) S
def mAnd (a b : MT) : MT := fun E Q S => a E (fun k S1 => if k = true then b E Q S1 else Q false S1) S
def mOr (a b : MT) : MT := fun E Q S => a E (fun k S1 => if k = true then Q true S1 else b E Q S1) S
def mNot (a : MT) : MT := fun E Q S => a E (fun k S1 => Q (!k) S1) S
/-- .. as values of truth values -/
def mAndV (a b : ME) : ME := fun E Q S => a E (fun x S1 => match x with
  | .val (.bl k) => if k = true then b E Q S1 else Q (.val (.bl false)) S1
  | _ => False) S
def mOrV (a b : ME) : ME := fun E Q S => a E (fun x S1 => match x with
  | .val (.bl k) => if k = true then Q (.val (.bl true)) S1 else b E Q S1
  | _ => False) S
def mNotV (a : ME) : ME := fun E Q S => a E (fun x S1 => match x with
  | .val (.bl k) => Q (.val (.bl (!k))) S1
  | _ => False) S

section
variable {X : Cx} {cl : Nat → Addr} {W : WX} {pin : List Nat}
abbrev PM (X : Cx) (cl : Nat → Addr) (W : WX) (pin : List Nat) (e : Expr) (m : ME) : Prop := PE X e (LE X.K cl W pin m)
abbrev PMT (X : Cx) (cl : Nat → Addr) (W : WX) (pin : List Nat) (e : Expr) (m : MT) : Prop := PT X e (LT X.K cl W pin m)
abbrev PMW (X : Cx) (cl : Nat → Addr) (W : WX) (pin : List Nat) (e : Expr) (m : MT) : Prop := PW X e (LT X.K cl W pin m)
abbrev PMA (X : Cx) (cl : Nat → Addr) (W : WX) (pin : List Nat) (e : List Expr) (m : MA) : Prop := PA X e (LA X.K cl W pin m)
abbrev PMS (X : Cx) (cl : Nat → Addr) (W : WX) (pin : List Nat) (e : Stmt) (m : MS) : Prop := PS X e (LS X.K cl W pin m)
abbrev PMSs (X : Cx) (cl : Nat → Addr) (W : WX) (pin : List Nat) (e : List Stmt) (m : MS) : Prop := PSs X e (LS X.K cl W pin m)

variable {a b c : Expr} {ma mb : ME} {mc : MT} {pos : Pos}
theorem qVar {e : Expr} {i : Nat} (h : PE X e (tVar i)) : PM X cl W pin e (mVar i) := PE.imp h fun σ H Q ⟨S, F, fp, E0, Q0, E, ⟨d, h1, h2⟩, x, k⟩ => by
  obtain ⟨v, e1, r⟩ := E.fz i d h1
  exact ⟨v, e1, k _ _ h2 v F H fp Stp.refl E r⟩
theorem qOwn {e : Expr} {i : Nat} (h : PE X e (tVar i)) : PM X cl W pin e (mOwn i) := PE.imp h fun σ H Q ⟨S, F, fp, E0, Q0, E, h, x, k⟩ => by
  rcases h with ⟨d, h1, h2⟩ | ⟨d, h1, h2⟩
  · obtain ⟨v, e1, r⟩ := E.ow i d h1
    exact ⟨_, e1, k _ _ h2 _ F H fp Stp.refl E e1⟩
  · obtain ⟨v, e1, r⟩ := E.fz i d h1
    exact ⟨v, e1, k _ _ h2 v F H fp Stp.refl E r⟩
theorem qC {e : Expr} {d : D} {v : V} (h : PE X e (tC v)) (r : ∀ F, Rep X.K cl F d v) : PM X cl W pin e (mC d) := PE.imp h fun σ H Q ⟨S, F, fp, E0, Q0, E, h2, x, k⟩ =>
  k _ _ h2 v F H fp Stp.refl E (r F)
theorem le_fz {K : PySem.W.Frag} {σ : L2.St} {H : Hp} {Q : VK} (hh : LE K cl W pin (mFz ma) σ H Q) : LE K cl W pin ma σ H Q := by
  obtain ⟨S, F, fp, E0, Q0, E, h2, x, k⟩ := hh
  refine .mk E h2 x fun r S' v F' H' fp' q st e rr x' => ?_
  cases r with
  | val d => exact k _ _ q v F' H' fp' st e rr
  | own o =>
    obtain ⟨G, e1, st1, _, ra⟩ := RelR.ready e st rr
    exact k _ _ q v G H' fp' st1 e1 ra
  | slot i =>
    obtain ⟨o, h1, h3⟩ := q
    obtain ⟨p, e1, c⟩ := e.ow i o h1
    have e2 : σ[i]? = some (some v) := rr
    rw [e1] at e2; cases e2
    have hf := e.nf i o h1
    have sm := addF_same (H := H') hf
    have il : i < S'.length := (List.getElem?_eq_some_iff.mp h1).1
    have od : ∀ j u, (S'.set i (.fz (frzO o)))[j]? = some (Sl.ow u) → j ≠ i ∧ S'[j]? = some (Sl.ow u) := fun j u hj => by
      by_cases z : i = j
      · subst z; rw [List.getElem?_set_self il] at hj; cases hj
      · rw [List.getElem?_set_ne z] at hj; exact ⟨fun w => z w.symm, hj⟩
    have nOw : ∀ a, Ow (S'.set i (.fz (frzO o))) fp' a → Ow S' fp' a := fun a ⟨j, u, hj, ha⟩ => ⟨j, u, (od j u hj).2, ha⟩
    refine k _ _ h3 _ (addF F' H' (fp' i)) H' fp' ⟨st.ff.trans sm, st.hh, fun a u h nx z n => ?_, fun a ha => st.oo a (nOw a ha), st.th⟩ ⟨addF_sub e.sub, by simpa using e.len, fun j d hj => ?_, fun j u hj => ?_, fun j u hj a ha => ?_, fun j l u w ne hj hl => e.dj j l u w ne (od j u hj).2 (od l w hl).2, e.tb.addF c⟩ (c.frz hf)
    · unfold addF
      rw [if_neg fun q => ?_]
      · exact st.nn a u h nx z n
      · rcases st.oo a ⟨i, o, h1, q⟩ with w | w
        · exact n w
        · rw [h] at w; cases w
    · by_cases z : i = j
      · subst z; rw [List.getElem?_set_self il] at hj; cases hj; exact ⟨_, e1, c.frz hf⟩
      · rw [List.getElem?_set_ne z] at hj
        obtain ⟨v, h4, h5⟩ := e.fz j d hj
        exact ⟨v, h4, h5.mono sm⟩
    · obtain ⟨p, h4, h5⟩ := e.ow j u (od j u hj).2
      exact ⟨p, h4, h5.mono sm fun _ _ => rfl⟩
    · unfold addF
      rw [if_neg fun z => e.dj i j o u (fun w => (od j u hj).1 w.symm) h1 (od j u hj).2 a z ha]
      exact e.nf j u (od j u hj).2 a ha
/-- two operands -/
theorem qFz (h : PM X cl W pin a ma) : PM X cl W pin a (mFz ma) := PE.imp h fun _ _ _ hh => le_fz hh
theorem le_bin {dop : DOp2} {σ : L2.St} {H : Hp} {Q : VK} (h : LE X.K cl W pin (mBin dop ma mb) σ H Q) : tOp (r2 X.K cl dop) (LE X.K cl W pin ma) (LE X.K cl W pin mb) σ H Q := by
  obtain ⟨S, F, fp, E0, Q0, E, h2, x, k⟩ := h
  refine .mk E h2 x fun r1 S1 v1 F1 H1 fp1 q1 st1 e1 rr1 x1 => ?_
  obtain ⟨G1, e1', st1', sg, ra1⟩ := RelR.ready e1 st1 rr1
  have x1' : Exl X.K cl W pin σ G1 H1 S1 fp1 E0 := x.step st1' fun _ _ => rfl
  refine .mk e1' q1 x1' fun r2 S2 v2 F2 H2 fp2 q2 st2 e2 rr2 x2 => ?_
  obtain ⟨G2, e2', st2', sg2, ra2⟩ := RelR.ready e2 st2 rr2
  obtain ⟨d, p1, q3⟩ := (ra1.mono st2'.ff).pk e2' q2
  obtain ⟨d', p2, q4⟩ := ra2.pk e2' q3
  refine ⟨G2, d, d', _, e2'.sub, p1, p2, q4, ⟨e2'.tb, fun r hr z F' H' sm rs => ?_⟩⟩
  have st := st1'.trans st2'
  exact k _ _ hr z F' H' fp2 (st.trans sm.step) (e2'.smallW sm) (rs.rel e2' st)
theorem qBin {op : Operator} {dop : DOp2} (ho : OpR X (binaryOp op) (r2 X.K cl dop)) (ha : PM X cl W pin a ma) (hb : PM X cl W pin b mb) : PM X cl W pin (.BinOp a op b pos) (mBin dop ma mb) :=
  PE.imp (pe_op ho ha hb) fun _ _ _ h => le_bin h
theorem qCmp {op : CmpOp} {dop : DOp2} (ho : OpR X (compareOp op) (r2 X.K cl dop)) (ha : PM X cl W pin a ma) (hb : PM X cl W pin b mb) (hm : behindInMarks op b = false) : PM X cl W pin (.Compare a [op] [b] pos) (mBin dop ma mb) :=
  PE.imp (pe_cmpR ho ha hb hm) fun _ _ _ h => le_bin h
theorem tOp_mono {r : R2} {ta tb : TE} : True := trivial
theorem qUn {op : UnaryOp} {dop : DOp1} (ho : UnR X (unaryOp op) (r1 X.K cl dop)) (ha : PM X cl W pin a ma) : PM X cl W pin (.UnaryOp op a pos) (mUn dop ma) :=
  PE.imp (pe_un ho ha) fun σ H Q ⟨S, F, fp, E0, Q0, E, h2, x, k⟩ => by
    refine LE.mk E h2 x fun r1 S1 v1 F1 H1 fp1 q1 st1 e1 rr1 x1 => ?_
    obtain ⟨G1, e1', st1', sg, ra1⟩ := RelR.ready e1 st1 rr1
    obtain ⟨d, p1, q3⟩ := ra1.pk e1' q1
    refine ⟨G1, d, _, e1'.sub, p1, q3, ⟨e1'.tb, fun r hr z F' H' sm rs => ?_⟩⟩
    exact k _ _ hr z F' H' fp1 (st1'.trans sm.step) (e1'.smallW sm) (rs.rel e1' st1')
/-- argument lists -/
theorem aNil : PMA X cl W pin [] mNil := PA.imp pa_nil fun σ H Q ⟨S, F, fp, E0, Q0, E, h2, x, k⟩ => k _ _ h2 [] F H fp Stp.refl E rfl
theorem aCons {e : Expr} {es : List Expr} {m : ME} {ms : MA} (h : PM X cl W pin e m) (t : PMA X cl W pin es ms) (hs : starEach (e :: es) X.env = (false, eval e X.env) :: starEach es X.env := by rfl) : PMA X cl W pin (e :: es) (mCons m ms) :=
  PA.imp (pa_cons h t hs) fun σ H Q ⟨S, F, fp, E0, Q0, E, h2, x, k⟩ => by
    refine LE.mk E h2 x fun r1 S1 v1 F1 H1 fp1 q1 st1 e1 rr1 x1 => ?_
    obtain ⟨G1, e1', st1', sg, ra1⟩ := RelR.ready e1 st1 rr1
    have x1' : Exl X.K cl W pin σ G1 H1 S1 fp1 E0 := x.step st1' fun _ _ => rfl
    refine LA.mk e1' q1 x1' fun rs S2 vs F2 H2 fp2 q2 st2 e2 rr2 x2 => ?_
    exact k _ _ q2 (v1 :: vs) F2 H2 fp2 (st1'.trans st2) e2 ⟨v1, vs, rfl, ra1.mono st2.ff, rr2⟩
theorem la_bi {dop : DOpL} {mm : MA} {σ : L2.St} {H : Hp} {Q : VK} (h : LE X.K cl W pin (mBi dop mm) σ H Q) : tCB (rL X.K cl dop) (LA X.K cl W pin mm) σ H Q := by
  obtain ⟨S, F, fp, E0, Q0, E, h2, x, k⟩ := h
  refine LA.mk E h2 x fun rs S1 vs F1 H1 fp1 q1 st1 e1 rr1 x1 => ?_
  obtain ⟨ds, p1, q3⟩ := rr1.pk e1 q1
  refine ⟨F1, ds, _, e1.sub, p1, q3, ⟨e1.tb, fun r hr z F' H' sm rs => ?_⟩⟩
  exact k _ _ hr z F' H' fp1 (st1.trans sm.step) (e1.smallW sm) (rs.rel e1 st1)
/-- a conditional expression -/
theorem qIf (hc : PMT X cl W pin c mc) (ha : PM X cl W pin a ma) (hb : PM X cl W pin b mb) : PM X cl W pin (.IfExp c a b pos) (mIf mc ma mb) :=
  PE.imp (pe_ifExp hc ha hb) fun σ H Q ⟨S, F, fp, E0, Q0, E, h2, x, k⟩ => by
    refine LT.mk E h2 x fun r1 S1 F1 H1 fp1 q1 st1 e1 x1 => ?_
    cases r1 with
    | true => exact ⟨S1, F1, fp1, E0, Q0, e1, q1, x1, fun r S' q v F' H' fp' st e rr => k r S' q v F' H' fp' (st1.trans st) e (by
        cases r with
        | val d => exact rr
        | own o =>
          obtain ⟨p, fq, e5, c5, hq⟩ := rr
          refine ⟨p, fq, e5, c5, fun a ha => ⟨(hq a ha).1, (hq a ha).2.1, ?_⟩⟩
          rcases (hq a ha).2.2 with w | w
          · exact .inl (st1.th a w)
          · exact (st1.oo a w).symm
        | slot i => exact rr)⟩
    | false => exact ⟨S1, F1, fp1, E0, Q0, e1, q1, x1, fun r S' q v F' H' fp' st e rr => k r S' q v F' H' fp' (st1.trans st) e (by
        cases r with
        | val d => exact rr
        | own o =>
          obtain ⟨p, fq, e5, c5, hq⟩ := rr
          refine ⟨p, fq, e5, c5, fun a ha => ⟨(hq a ha).1, (hq a ha).2.1, ?_⟩⟩
          rcases (hq a ha).2.2 with w | w
          · exact .inl (st1.th a w)
          · exact (st1.oo a w).symm
        | slot i => exact rr)⟩
end
end Mv

/-! Mv: tests, targets, statements. -/
namespace Mv
open PySem L2

section
variable {K : PySem.W.Frag} {cl : Nat → Addr} {F0 H0 F1 H1 F H : Hp} {S0 S1 S : Fm} {fp0 fp1 fp : Nat → List Addr} {σ : L2.St} {r : R} {v : V}
theorem RelR.from (st : Stp F0 H0 S0 fp0 F1 H1 S1 fp1) (h : RelR K cl H1 S1 fp1 F H σ S fp r v) : RelR K cl H0 S0 fp0 F H σ S fp r v := by
  cases r with
  | val d => exact h
  | own o =>
    obtain ⟨p, fq, e5, c5, hq⟩ := h
    refine ⟨p, fq, e5, c5, fun a ha => ⟨(hq a ha).1, (hq a ha).2.1, ?_⟩⟩
    rcases (hq a ha).2.2 with w | w
    · exact .inl (st.th a w)
    · exact (st.oo a w).symm
  | slot i => exact h
end

section
variable {K : PySem.W.Frag} {cl : Nat → Addr} {W : WX} {pin : List Nat} {σ : L2.St} {F H F1 H1 : Hp} {S S1 : Fm} {fp fp1 : Nat → List Addr} {E0 : EX}
/-- the same, asked from a later state -/
theorem LE.at {m : ME} {Q0 : R → Fm → Prop} {Q : VK} (st : Stp F H S fp F1 H1 S1 fp1) (E : EnvR K cl F1 H1 σ S1 fp1) (h : m E0 Q0 S1) (x : Exl K cl W pin σ F1 H1 S1 fp1 E0)
    (k : ∀ r S', Q0 r S' → ∀ v F' H' fp', Stp F H S fp F' H' S' fp' → EnvR K cl F' H' σ S' fp' → RelR K cl H S fp F' H' σ S' fp' r v → Q v H') : LE K cl W pin m σ H1 Q :=
  ⟨S1, F1, fp1, E0, Q0, E, h, x, fun r S' q v F' H' fp' s e rr => k r S' q v F' H' fp' (st.trans s) e (rr.from st)⟩
theorem LT.at {m : MT} {Q0 : Bool → Fm → Prop} {Q : Bool → Hp → Prop} (st : Stp F H S fp F1 H1 S1 fp1) (E : EnvR K cl F1 H1 σ S1 fp1) (h : m E0 Q0 S1) (x : Exl K cl W pin σ F1 H1 S1 fp1 E0)
    (k : ∀ r S', Q0 r S' → ∀ F' H' fp', Stp F H S fp F' H' S' fp' → EnvR K cl F' H' σ S' fp' → Q r H') : LT K cl W pin m σ H1 Q :=
  ⟨S1, F1, fp1, E0, Q0, E, h, x, fun r S' q F' H' fp' s e => k r S' q F' H' fp' (st.trans s) e⟩
/-- what is wanted behind a statement, kept from a state on -/
structure Goal (K : PySem.W.Frag) (cl : Nat → Addr) (W : WX) (pin : List Nat) (σ : L2.St) (F H : Hp) (S : Fm) (fp : Nat → List Addr) (D0 : MEnds) (D : Ends) : Prop where
  ex : Exl K cl W pin σ F H S fp D0.ex
  nx : ∀ S', D0.nx S' → ∀ σ' F' H' fp', (∀ i ∈ pin, σ'[i]? = σ[i]?) → Stp F H S fp F' H' S' fp' → EnvR K cl F' H' σ' S' fp' → D.nx σ' H'
  bk : ∀ S', D0.bk S' → ∀ σ' F' H' fp', (∀ i ∈ pin, σ'[i]? = σ[i]?) → Stp F H S fp F' H' S' fp' → EnvR K cl F' H' σ' S' fp' → D.bk σ' H'
  ct : ∀ S', D0.ct S' → ∀ σ' F' H' fp', (∀ i ∈ pin, σ'[i]? = σ[i]?) → Stp F H S fp F' H' S' fp' → EnvR K cl F' H' σ' S' fp' → D.ct σ' H'
  rt : ∀ r S', D0.rt r S' → ∀ v σ' F' H' fp', (∀ i ∈ pin, σ'[i]? = σ[i]?) → Stp F H S fp F' H' S' fp' → EnvR K cl F' H' σ' S' fp' → RelR K cl H S fp F' H' σ' S' fp' r v → D.rt v H'
theorem LS.iff {m : MS} {D : Ends} : LS K cl W pin m D σ H ↔ ∃ S F fp D0, EnvR K cl F H σ S fp ∧ m D0 S ∧ Goal K cl W pin σ F H S fp D0 D :=
  ⟨fun ⟨S, F, fp, D0, e, h, a, b, c, d, f⟩ => ⟨S, F, fp, D0, e, h, a, b, c, d, f⟩, fun ⟨S, F, fp, D0, e, h, a⟩ => ⟨S, F, fp, D0, e, h, a.ex, a.nx, a.bk, a.ct, a.rt⟩⟩
theorem Goal.step {D0 : MEnds} {D : Ends} {σ1 : L2.St} (g : Goal K cl W pin σ F H S fp D0 D) (st : Stp F H S fp F1 H1 S1 fp1) (hp : ∀ i ∈ pin, σ1[i]? = σ[i]?) : Goal K cl W pin σ1 F1 H1 S1 fp1 D0 D :=
  ⟨g.ex.step st hp, fun S' q σ' F' H' fp' p s e => g.nx S' q σ' F' H' fp' (fun i hi => (p i hi).trans (hp i hi)) (st.trans s) e,
   fun S' q σ' F' H' fp' p s e => g.bk S' q σ' F' H' fp' (fun i hi => (p i hi).trans (hp i hi)) (st.trans s) e,
   fun S' q σ' F' H' fp' p s e => g.ct S' q σ' F' H' fp' (fun i hi => (p i hi).trans (hp i hi)) (st.trans s) e,
   fun r S' q v σ' F' H' fp' p s e rr => g.rt r S' q v σ' F' H' fp' (fun i hi => (p i hi).trans (hp i hi)) (st.trans s) e (rr.from st)⟩
end

/-! ### tests -/
def truQ (d : D) (k : Bool → Prop) : Prop := match d with
  | .non => k false
  | .bl b => k b
  | .int i => k (i != 0)
  | .str x => x.length ≤ 16777216 ∧ k ((x.length : Int) != 0)
  | .lst xs => k (!xs.isEmpty)
  | .rol xs => k (!xs.isEmpty)
  | .tup xs => k (!xs.isEmpty)
  | .rot xs => k (!xs.isEmpty)
  | _ => False
def mTr (m : ME) : MT := fun E Q S => m E (fun x S1 => pkQ S1 x fun d => truQ d fun b => Q b S1) S
/-- a chain of two comparisons -/
def mChain (o1 o2 : DOp2) (a b c : ME) : ME := fun E Q S => a E (fun x S1 => b E (fun y S2 => pkQ S2 (fzR x) fun d => pkQ S2 (fzR y) fun e => o1 d e fun r => match r with
  | .val (.bl k) => if k = true then c E (fun z S3 => pkQ S3 (fzR y) fun e => pkQ S3 (fzR z) fun f => o2 e f fun r => Q r S3) S2 else Q (.val (.bl false)) S2
  | _ => False) S1) S

section
variable {X : Cx} {cl : Nat → Addr} {W : WX} {pin : List Nat} {a b c : Expr} {ma mb mc : ME} {ta tb : MT} {pos : Pos} {rest : List Expr}
theorem lt_te {σ : L2.St} {H : Hp} {Q : Bool → Hp → Prop} (h : LT X.K cl W pin (mTe ma) σ H Q) : LE X.K cl W pin ma σ H fun x H' => ∃ k, x = .bl k ∧ Q k H' := by
  obtain ⟨S, F, fp, E0, Q0, E, h2, x, k⟩ := h
  refine .mk E h2 x fun r S' v F' H' fp' q st e rr x' => ?_
  cases r with
  | val d =>
    cases d with
    | bl b =>
      have e2 : v = V.bl b := by have z : Rep X.K cl F' (.bl b) v := rr; rwa [Rep] at z
      exact ⟨b, e2, k _ _ q F' H' fp' st e⟩
    | _ => exact q.elim
  | _ => exact q.elim
theorem tCmp {op : CmpOp} {dop : DOp2} (ho : OpR X (compareOp op) (r2 X.K cl dop)) (ha : PM X cl W pin a ma) (hb : PM X cl W pin b mb) (hm : behindInMarks op b = false) : PMT X cl W pin (.Compare a [op] [b] pos) (mTe (mBin dop ma mb)) :=
  PT.imp (pt_cmpR ho ha hb hm) fun _ _ _ h => le_bin (lt_te h)
/-- an expression that gives a truth value -/
theorem tVal (ha : PM X cl W pin a ma) (he : ∀ whole, isTrue a X.env whole = (do let v ← whole; standAt a.pos; holding [v] (truthy v)) := by intro _; rfl) : PMT X cl W pin a (mTe ma) :=
  PT.imp (pt_val ha he) fun _ _ _ h => lt_te h
theorem pk_tru {F H : Hp} {d : D} {v : V} {k : Bool → Prop} (p : Pk X.K cl F H d v) (s : Same F H) (q : truQ d k) : ∃ b, TruV X.K v H b ∧ k b := by
  have hs : sizeLine = 16777216 := sizeLine_eq
  have seq : ∀ {xs : List D} {vs : List V} {G : Hp}, RepL X.K cl G xs vs → (!vs.isEmpty) = !xs.isEmpty := fun {xs vs G} h => by
    cases xs with
    | nil => rw [RepL] at h; subst h; rfl
    | cons d ds => rw [RepL] at h; obtain ⟨v, r, rfl, _⟩ := h; rfl
  rcases p with p | ⟨o, a, fq, rfl, rfl, c, _⟩
  · cases d with
    | non => rw [Rep] at p; subst p; exact ⟨false, rfl, q⟩
    | bl b => rw [Rep] at p; subst p; exact ⟨b, rfl, q⟩
    | int i => rw [Rep] at p; subst p; exact ⟨_, rfl, q⟩
    | str x => rw [Rep] at p; subst p; exact ⟨_, ⟨by rw [hs]; exact q.1, rfl⟩, q.2⟩
    | lst xs =>
      rw [Rep] at p; obtain ⟨a, vs, rfl, h1, h2⟩ := p
      exact ⟨!vs.isEmpty, .inl ⟨vs, SqL.of (s _ _ h1), rfl⟩, by rw [seq h2]; exact q⟩
    | rol xs =>
      rw [Rep] at p; obtain ⟨a, vs, rfl, h1, h2⟩ := p
      exact ⟨!vs.isEmpty, .inl ⟨vs, s.seq h1, rfl⟩, by rw [seq h2]; exact q⟩
    | tup xs =>
      rw [Rep] at p; obtain ⟨a, vs, rfl, h1, h2⟩ := p
      exact ⟨!vs.isEmpty, .inr (.inl ⟨vs, SqT.of (s _ _ h1), rfl⟩), by rw [seq h2]; exact q⟩
    | rot xs =>
      rw [Rep] at p; obtain ⟨a, vs, rfl, h1, h2⟩ := p
      exact ⟨!vs.isEmpty, .inr (.inl ⟨vs, Same.sqt s h1, rfl⟩), by rw [seq h2]; exact q⟩
    | _ => exact q.elim
  · cases o with
    | lst xs =>
      obtain ⟨_, vs, h1, h2⟩ := c
      exact ⟨!vs.isEmpty, .inl ⟨vs, SqL.of h1, rfl⟩, by rw [seq h2]; exact q⟩
    | box kd es => exact False.elim c
    | two d xs => exact False.elim c
    | _ => exact q.elim
theorem tTru (ha : PM X cl W pin a ma) (he : ∀ whole, isTrue a X.env whole = (do let v ← whole; standAt a.pos; holding [v] (truthy v)) := by intro _; rfl) : PMT X cl W pin a (mTr ma) :=
  PT.imp (pt_truth ha he) fun σ H Q ⟨S, F, fp, E0, Q0, E, h2, x, k⟩ => LE.mk E h2 x fun r S' v F' H' fp' q st e rr x' => by
    obtain ⟨d, p, q⟩ := rr.pk e q
    obtain ⟨b, t, q⟩ := pk_tru p e.sub q
    exact ⟨b, t, k b S' q F' H' fp' st e⟩
theorem wAnd1 (ha : PMT X cl W pin a ta) : PMW X cl W pin (.BoolOp .And [a] pos) ta := pw_and1 ha
theorem wOr1 (ha : PMT X cl W pin a ta) : PMW X cl W pin (.BoolOp .Or [a] pos) ta := pw_or1 ha
theorem wAnd (ha : PMT X cl W pin a ta) (hb : PMW X cl W pin (.BoolOp .And (b :: rest) pos) tb) : PMW X cl W pin (.BoolOp .And (a :: b :: rest) pos) (mAnd ta tb) :=
  PW.imp (pw_and ha hb) fun σ H Q ⟨S, F, fp, E0, Q0, E, h2, x, k⟩ => LT.mk E h2 x fun r S1 F1 H1 fp1 q1 st1 e1 x1 => by
    cases r with
    | true => exact .at st1 e1 q1 x1 k
    | false => exact k _ _ q1 F1 H1 fp1 st1 e1
theorem wOr (ha : PMT X cl W pin a ta) (hb : PMW X cl W pin (.BoolOp .Or (b :: rest) pos) tb) : PMW X cl W pin (.BoolOp .Or (a :: b :: rest) pos) (mOr ta tb) :=
  PW.imp (pw_or ha hb) fun σ H Q ⟨S, F, fp, E0, Q0, E, h2, x, k⟩ => LT.mk E h2 x fun r S1 F1 H1 fp1 q1 st1 e1 x1 => by
    cases r with
    | false => exact .at st1 e1 q1 x1 k
    | true => exact k _ _ q1 F1 H1 fp1 st1 e1
theorem tBo {e : Expr} (h : PMW X cl W pin e ta) : PMT X cl W pin e ta := h.pt
theorem tNot (ha : PMT X cl W pin a ta) : PMT X cl W pin (.UnaryOp .Not a pos) (mNot ta) :=
  PT.imp (pt_not ha) fun σ H Q ⟨S, F, fp, E0, Q0, E, h2, x, k⟩ => LT.mk E h2 x fun r S1 F1 H1 fp1 q1 st1 e1 x1 => k _ _ q1 F1 H1 fp1 st1 e1
/-- and, or, not as values of truth values -/
theorem qOne {op} (h : PM X cl W pin a ma) : PM X cl W pin (.BoolOp op [a] pos) ma := pe_one h
theorem qAnd (ha : PM X cl W pin a ma) (hb : PM X cl W pin (.BoolOp .And (b :: rest) pos) mb) : PM X cl W pin (.BoolOp .And (a :: b :: rest) pos) (mAndV ma mb) :=
  PE.imp (pe_and ha hb) fun σ H Q ⟨S, F, fp, E0, Q0, E, h2, x, k⟩ => LE.mk E h2 x fun r S1 v F1 H1 fp1 q1 st1 e1 rr x1 => by
    cases r with
    | val d =>
      cases d with
      | bl t =>
        have e2 : v = V.bl t := by have z : Rep X.K cl F1 (.bl t) v := rr; rwa [Rep] at z
        refine ⟨t, e2, ?_⟩
        cases t with
        | true => exact .at st1 e1 q1 x1 k
        | false => exact k _ _ q1 _ F1 H1 fp1 st1 e1 (by show Rep _ _ _ _ _; rw [Rep])
      | _ => exact q1.elim
    | _ => exact q1.elim
theorem qOr (ha : PM X cl W pin a ma) (hb : PM X cl W pin (.BoolOp .Or (b :: rest) pos) mb) : PM X cl W pin (.BoolOp .Or (a :: b :: rest) pos) (mOrV ma mb) :=
  PE.imp (pe_or ha hb) fun σ H Q ⟨S, F, fp, E0, Q0, E, h2, x, k⟩ => LE.mk E h2 x fun r S1 v F1 H1 fp1 q1 st1 e1 rr x1 => by
    cases r with
    | val d =>
      cases d with
      | bl t =>
        have e2 : v = V.bl t := by have z : Rep X.K cl F1 (.bl t) v := rr; rwa [Rep] at z
        refine ⟨t, e2, ?_⟩
        cases t with
        | false => exact .at st1 e1 q1 x1 k
        | true => exact k _ _ q1 _ F1 H1 fp1 st1 e1 (by show Rep _ _ _ _ _; rw [Rep])
      | _ => exact q1.elim
    | _ => exact q1.elim
theorem qNot (ha : PM X cl W pin a ma) : PM X cl W pin (.UnaryOp .Not a pos) (mNotV ma) :=
  PE.imp (pe_not ha) fun σ H Q ⟨S, F, fp, E0, Q0, E, h2, x, k⟩ => LE.mk E h2 x fun r S1 v F1 H1 fp1 q1 st1 e1 rr x1 => by
    cases r with
    | val d =>
      cases d with
      | bl t =>
        have e2 : v = V.bl t := by have z : Rep X.K cl F1 (.bl t) v := rr; rwa [Rep] at z
        exact ⟨t, e2, k _ _ q1 _ F1 H1 fp1 st1 e1 (by show Rep _ _ _ _ _; rw [Rep])⟩
      | _ => exact q1.elim
    | _ => exact q1.elim
/-- a chain a op b op' c -/
theorem le_chain {o1 o2 : DOp2} {σ : L2.St} {H : Hp} {Q : VK} (h : LE X.K cl W pin (mChain o1 o2 ma mb mc) σ H Q) : tChain (r2 X.K cl o1) (r2 X.K cl o2) (LE X.K cl W pin ma) (LE X.K cl W pin mb) (LE X.K cl W pin mc) σ H Q := by
  obtain ⟨S, F, fp, E0, Q0, E, h2, x, k⟩ := h
  refine .mk E h2 x fun r1 S1 v1 F1 H1 fp1 q1 st1 e1 rr1 x1 => ?_
  obtain ⟨G1, e1', st1', sg, ra1⟩ := RelR.ready e1 st1 rr1
  have x1' : Exl X.K cl W pin σ G1 H1 S1 fp1 E0 := x.step st1' fun _ _ => rfl
  refine .mk e1' q1 x1' fun r2 S2 v2 F2 H2 fp2 q2 st2 e2 rr2 x2 => ?_
  obtain ⟨G2, e2', st2', sg2, ra2⟩ := RelR.ready e2 st2 rr2
  obtain ⟨d, p1, q3⟩ := (ra1.mono st2'.ff).pk e2' q2
  obtain ⟨d', p2, q4⟩ := ra2.pk e2' q3
  refine ⟨G2, d, d', _, e2'.sub, p1, p2, q4, ⟨e2'.tb, fun r hr z F' H' sm rs => ?_⟩⟩
  have st := st1'.trans st2'
  cases r with
  | val u =>
    cases u with
    | bl t =>
      have ez : z = V.bl t := by have z' : Rep X.K cl F' (.bl t) z := rs; rwa [Rep] at z'
      refine ⟨t, ez, ?_⟩
      cases t with
      | true =>
        have e3 := e2'.smallW sm
        have st3 := st.trans (sm.step (S := S2) (fp := fp2))
        show LE X.K cl W pin mc σ H' _
        refine LE.mk e3 hr (x.step st3 fun _ _ => rfl) fun r4 S4 v4 F4 H4 fp4 q5 st4 e4 rr4 x4 => ?_
        obtain ⟨G4, e4', st4', sg4, ra4⟩ := RelR.ready e4 st4 rr4
        obtain ⟨f, p5, q6⟩ := (ra2.mono ((Same.trans sm.ff st4'.ff))).pk e4' q5
        obtain ⟨f', p6, q7⟩ := ra4.pk e4' q6
        refine ⟨G4, f, f', _, e4'.sub, p5, p6, q7, ⟨e4'.tb, fun r hr z F' H' sm rs => ?_⟩⟩
        have st5 := st3.trans st4'
        exact k _ _ hr z F' H' fp4 (st5.trans sm.step) (e4'.smallW sm) (rs.rel e4' st5)
      | false => exact k _ _ hr _ F' H' fp2 (st.trans sm.step) (e2'.smallW sm) (by show Rep _ _ _ _ _; rw [Rep])
    | _ => exact hr.elim
  | _ => exact hr.elim
theorem qChain {op op' : CmpOp} {o1 o2 : DOp2} (ho : OpR X (compareOp op) (r2 X.K cl o1)) (ho' : OpR X (compareOp op') (r2 X.K cl o2)) (ha : PM X cl W pin a ma) (hb : PM X cl W pin b mb) (hc : PM X cl W pin c mc)
    (hm : lastMarks [op, op'] [b, c] = false := by with_unfolding_all rfl) : PM X cl W pin (.Compare a [op, op'] [b, c] pos) (mChain o1 o2 ma mb mc) := PE.imp (pe_chain ho ho' ha hb hc hm) fun _ _ _ h => le_chain h
theorem tChain {op op' : CmpOp} {o1 o2 : DOp2} (ho : OpR X (compareOp op) (r2 X.K cl o1)) (ho' : OpR X (compareOp op') (r2 X.K cl o2)) (ha : PM X cl W pin a ma) (hb : PM X cl W pin b mb) (hc : PM X cl W pin c mc)
    (hm : lastMarks [op, op'] [b, c] = false := by with_unfolding_all rfl) : PMT X cl W pin (.Compare a [op, op'] [b, c] pos) (mTe (mChain o1 o2 ma mb mc)) := PT.imp (pt_chain ho ho' ha hb hc hm) fun _ _ _ h => le_chain (lt_te h)
end

/-! ### statements -/
def sNext : MS := fun D S => D.nx S
def sSeq (a b : MS) : MS := fun D S => a { D with nx := b D } S
def sExpr (m : ME) : MS := fun D S => m D.ex (fun _ S1 => D.nx S1) S
def sRet (m : ME) : MS := fun D S => m D.ex D.rt S
def sRetN : MS := fun D S => D.rt (.val .non) S
def sIf (c : MT) (a b : MS) : MS := fun D S => c D.ex (fun k S1 => if k = true then a D S1 else b D S1) S
def sBrk : MS := fun D S => D.bk S
def sCnt : MS := fun D S => D.ct S
/-- name = value -/
def sSet (i : Nat) (m : ME) : MS := fun D S => m D.ex (fun r S1 => match r with
  | .val d => D.nx (S1.set i (.fz d))
  | .own o => D.nx (S1.set i (.ow o))
  | .slot _ => False) S
section
variable {X : Cx} {cl : Nat → Addr} {W : WX} {pin : List Nat} {e : Expr} {st : Stmt} {rest : List Stmt} {m : ME} {a b : MS} {tc : MT} {pos : Pos}
theorem cNil : PMSs X cl W pin [] sNext := PSs.imp pss_nil fun D σ H h => by
  obtain ⟨S, F, fp, D0, E, h2, g⟩ := LS.iff.mp h
  exact g.nx S h2 σ F H fp (fun _ _ => rfl) Stp.refl E
theorem ls_seq {D : Ends} {σ : L2.St} {H : Hp} (h : LS X.K cl W pin (sSeq a b) D σ H) : tSeq (LS X.K cl W pin a) (LS X.K cl W pin b) D σ H := by
  obtain ⟨S, F, fp, D0, E, h2, g⟩ := LS.iff.mp h
  refine LS.iff.mpr ⟨S, F, fp, { D0 with nx := b D0 }, E, h2, g.ex, fun S1 q σ1 F1 H1 fp1 p st e => ?_, g.bk, g.ct, g.rt⟩
  exact LS.iff.mpr ⟨S1, F1, fp1, D0, e, q, g.step st p⟩
theorem cCons (h1 : PMS X cl W pin st a) (h2 : PMSs X cl W pin rest b) : PMSs X cl W pin (st :: rest) (sSeq a b) := PSs.imp (pss_cons h1 h2) fun _ _ _ h => ls_seq h
theorem cOne (h1 : PMS X cl W pin st a) : PMSs X cl W pin [st] a := pss_one h1
theorem sPass_ok : PMS X cl W pin (.Pass pos) sNext := PS.imp ps_pass fun D σ H h => by
  obtain ⟨S, F, fp, D0, E, h2, g⟩ := LS.iff.mp h
  exact g.nx S h2 σ F H fp (fun _ _ => rfl) Stp.refl E
theorem kBrk : PMS X cl W pin (.Break pos) sBrk := PS.imp ps_break fun D σ H h => by
  obtain ⟨S, F, fp, D0, E, h2, g⟩ := LS.iff.mp h
  exact g.bk S h2 σ F H fp (fun _ _ => rfl) Stp.refl E
theorem kCnt : PMS X cl W pin (.Continue pos) sCnt := PS.imp ps_continue fun D σ H h => by
  obtain ⟨S, F, fp, D0, E, h2, g⟩ := LS.iff.mp h
  exact g.ct S h2 σ F H fp (fun _ _ => rfl) Stp.refl E
theorem kExpr (he : PM X cl W pin e m) (hs : swapsWith e none pos.line X.env = pure false := by rfl) : PMS X cl W pin (.Expr e pos) (sExpr m) := PS.imp (ps_expr he hs) fun D σ H h => by
  obtain ⟨S, F, fp, D0, E, h2, g⟩ := LS.iff.mp h
  exact LE.mk E h2 g.ex fun r S' v F' H' fp' q st e rr x => g.nx S' q σ F' H' fp' (fun _ _ => rfl) st e
theorem kRet (he : PM X cl W pin e m) : PMS X cl W pin (.Return (some e) pos) (sRet m) := PS.imp (ps_ret he) fun D σ H h => by
  obtain ⟨S, F, fp, D0, E, h2, g⟩ := LS.iff.mp h
  exact LE.mk E h2 g.ex fun r S' v F' H' fp' q st e rr x => g.rt r S' q v σ F' H' fp' (fun _ _ => rfl) st e rr
theorem kRetN : PMS X cl W pin (.Return none pos) sRetN := PS.imp ps_retN fun D σ H h => by
  obtain ⟨S, F, fp, D0, E, h2, g⟩ := LS.iff.mp h
  exact g.rt _ S h2 _ σ F H fp (fun _ _ => rfl) Stp.refl E (by show Rep _ _ _ _ _; rw [Rep])
theorem kIf {c : Expr} {sa sb : List Stmt} (hc : PMT X cl W pin c tc) (ha : PMSs X cl W pin sa a) (hb : PMSs X cl W pin sb b) : PMS X cl W pin (.If c sa sb pos) (sIf tc a b) := PS.imp (ps_if hc ha hb) fun D σ H h => by
  obtain ⟨S, F, fp, D0, E, h2, g⟩ := LS.iff.mp h
  refine LT.mk E h2 g.ex fun r S1 F1 H1 fp1 q st e x => ?_
  cases r with
  | true => exact LS.iff.mpr ⟨S1, F1, fp1, D0, e, q, g.step st fun _ _ => rfl⟩
  | false => exact LS.iff.mpr ⟨S1, F1, fp1, D0, e, q, g.step st fun _ _ => rfl⟩
end
section
variable {K : PySem.W.Frag} {cl : Nat → Addr} {F H F0 H0 : Hp} {σ : L2.St} {S S0 : Fm} {fp fp0 : Nat → List Addr}
/-- a place takes data -/
theorem EnvR.setFz {i : Nat} {d : D} {v : V} (E : EnvR K cl F H σ S fp) (r : Rep K cl F d v) : EnvR K cl F H (σ.set i (some v)) (S.set i (.fz d)) fp := by
  by_cases il : i < S.length
  · have il' : i < σ.length := Nat.lt_of_lt_of_eq il E.len
    have od : ∀ (j : Nat) (u : O), (S.set i (.fz d))[j]? = some (Sl.ow u) → i ≠ j ∧ S[j]? = some (Sl.ow u) := fun j u hj => by
      by_cases z : i = j
      · subst z; rw [List.getElem?_set_self il] at hj; cases hj
      · rw [List.getElem?_set_ne z] at hj; exact ⟨z, hj⟩
    refine ⟨E.sub, by simpa using E.len, fun j x hj => ?_, fun j u hj => ?_, fun j u hj => E.nf j u (od j u hj).2, fun j l u w ne hj hl => E.dj j l u w ne (od j u hj).2 (od l w hl).2, E.tb⟩
    · by_cases z : i = j
      · subst z; rw [List.getElem?_set_self il] at hj; cases hj
        exact ⟨v, by rw [List.getElem?_set_self il'], r⟩
      · rw [List.getElem?_set_ne z] at hj ⊢; exact E.fz j x hj
    · obtain ⟨z, q⟩ := od j u hj
      rw [List.getElem?_set_ne z]; exact E.ow j u q
  · rw [List.set_eq_of_length_le (Nat.le_trans (Nat.le_of_eq E.len.symm) (by omega)), List.set_eq_of_length_le (by omega)]; exact E
theorem Ow.setFz {i : Nat} {d : D} {a : Addr} (h : Ow (S.set i (.fz d)) fp a) : Ow S fp a := by
  obtain ⟨j, u, hj, ha⟩ := h
  refine ⟨j, u, ?_, ha⟩
  by_cases z : i = j
  · subst z
    by_cases il : i < S.length
    · rw [List.getElem?_set_self il] at hj; cases hj
    · rw [List.set_eq_of_length_le (by omega)] at hj; exact hj
  · rwa [List.getElem?_set_ne z] at hj
theorem Stp.setFz {i : Nat} {d : D} (st : Stp F0 H0 S0 fp0 F H S fp) : Stp F0 H0 S0 fp0 F H (S.set i (.fz d)) fp := ⟨st.ff, st.hh, st.nn, fun a h => st.oo a h.setFz, st.th⟩
def fpSet (fp : Nat → List Addr) (i : Nat) (fq : List Addr) : Nat → List Addr := fun j => if j = i then fq else fp j
/-- a place takes a thing of its own -/
theorem EnvR.setOw {i : Nat} {o : O} {p : Addr} {fq : List Addr} (E : EnvR K cl F H σ S fp) (c : CellR K cl F H o p fq) (hq : ∀ a ∈ fq, F a = none ∧ ¬ Ow S fp a) (il : i < S.length) : EnvR K cl F H (σ.set i (some (.ref p))) (S.set i (.ow o)) (fpSet fp i fq) := by
  have il' : i < σ.length := Nat.lt_of_lt_of_eq il E.len
  refine ⟨E.sub, by simpa using E.len, fun j x hj => ?_, fun j u hj => ?_, fun j u hj a ha => ?_, fun j l u w ne hj hl a ha => ?_, E.tb⟩
  · by_cases z : i = j
    · subst z; rw [List.getElem?_set_self il] at hj; cases hj
    · rw [List.getElem?_set_ne z] at hj ⊢; exact E.fz j x hj
  · by_cases z : i = j
    · subst z; rw [List.getElem?_set_self il] at hj; cases hj
      exact ⟨p, by rw [List.getElem?_set_self il'], by unfold fpSet; rw [if_pos rfl]; exact c⟩
    · rw [List.getElem?_set_ne z] at hj ⊢
      obtain ⟨q, h1, h2⟩ := E.ow j u hj
      exact ⟨q, h1, by unfold fpSet; rw [if_neg (Ne.symm z)]; exact h2⟩
  · unfold fpSet at ha
    by_cases z : i = j
    · subst z; rw [if_pos rfl] at ha; exact (hq a ha).1
    · rw [if_neg (Ne.symm z)] at ha
      rw [List.getElem?_set_ne z] at hj
      exact E.nf j u hj a ha
  · unfold fpSet at ha ⊢
    by_cases z : i = j
    · subst z
      rw [if_pos rfl] at ha
      rw [if_neg (Ne.symm ne)]
      rw [List.getElem?_set_ne ne] at hl
      exact fun w' => (hq a ha).2 ⟨l, w, hl, w'⟩
    · rw [if_neg (Ne.symm z)] at ha
      rw [List.getElem?_set_ne z] at hj
      by_cases y : i = l
      · subst y
        rw [if_pos rfl]
        exact fun w' => (hq a w').2 ⟨j, u, hj, ha⟩
      · rw [if_neg (Ne.symm y)]
        rw [List.getElem?_set_ne y] at hl
        exact E.dj j l u w ne hj hl a ha
theorem Ow.setOw {i : Nat} {o : O} {fq : List Addr} {a : Addr} (h : Ow (S.set i (.ow o)) (fpSet fp i fq) a) (il : i < S.length) : Ow S fp a ∨ a ∈ fq := by
  obtain ⟨j, u, hj, ha⟩ := h
  unfold fpSet at ha
  by_cases z : i = j
  · subst z
    rw [if_pos rfl] at ha; exact .inr ha
  · rw [if_neg (Ne.symm z)] at ha
    rw [List.getElem?_set_ne z] at hj
    exact .inl ⟨j, u, hj, ha⟩
theorem Stp.setOw {i : Nat} {o : O} {fq : List Addr} (st : Stp F0 H0 S0 fp0 F H S fp) (il : i < S.length) (hq : ∀ a ∈ fq, H0 a = none ∨ Ow S0 fp0 a) : Stp F0 H0 S0 fp0 F H (S.set i (.ow o)) (fpSet fp i fq) :=
  ⟨st.ff, st.hh, st.nn, fun a h => by
    rcases h.setOw il with w | w
    · exact st.oo a w
    · exact (hq a w).symm, st.th⟩
theorem pin_set {i : Nat} {v : Option V} {pin : List Nat} (hi : i ∉ pin) : ∀ j ∈ pin, (σ.set i v)[j]? = σ[j]? := fun j hj => by
  exact List.getElem?_set_ne fun z => hi (by rw [z]; exact hj)
end
section
variable {X : Cx} {cl : Nat → Addr} {W : WX} {pin : List Nat} {e : Expr} {m : ME} {pos : Pos}
theorem ls_set {i : Nat} {D : Ends} {σ : L2.St} {H : Hp} (hi : i ∉ pin) (h : LS X.K cl W pin (sSet i m) D σ H) : tAsg (LE X.K cl W pin m) (gName i) D σ H := by
  obtain ⟨S, F, fp, D0, E, h2, g⟩ := LS.iff.mp h
  refine LE.mk E h2 g.ex fun r S' v F' H' fp' q st e rr x => ?_
  cases r with
  | val d => exact g.nx _ q (σ.set i (some v)) F' H' fp' (pin_set hi) st.setFz (e.setFz rr)
  | own o =>
    obtain ⟨p, fq, rfl, c, hq⟩ := rr
    by_cases il : i < S'.length
    · exact g.nx _ q _ F' H' _ (pin_set hi) (st.setOw il fun a ha => (hq a ha).2.2) (e.setOw c (fun a ha => ⟨(hq a ha).1, (hq a ha).2.1⟩) il)
    · have q' : D0.nx S' := by
        have q0 : D0.nx (S'.set i (.ow o)) := q
        rwa [List.set_eq_of_length_le (by omega)] at q0
      show D.nx (σ.set i (some _)) H'
      rw [List.set_eq_of_length_le (Nat.le_trans (Nat.le_of_eq e.len.symm) (by omega))]
      exact g.nx _ q' σ F' H' fp' (fun _ _ => rfl) st e
  | slot j => exact q.elim
theorem kSet {i : Nat} {x : Str} {pos' : Pos} (hN : X.N.Nodup) (hi : X.N[i]? = some x) (hx : Loc X.env.scope x) (hp : i ∉ pin) (he : PM X cl W pin e m) (hs : swapsWith e (some (.Name x pos')) pos.line X.env = pure false := by rfl)
    (hf : X.fn x = true ∨ X.env.scope.names.lookup x = some .local := by first | exact .inl rfl | exact .inr rfl | assumption) : PMS X cl W pin (.Assign [.Name x pos'] e pos) (sSet i m) :=
  PS.imp (ps_set hN hi hx he hs hf) fun _ _ _ h => ls_set hp h
end
end Mv

/-! Mv: defs and calls. -/
namespace Mv
open PySem L2

/-- what a def does: of its arguments, with the wish about errors and the wish about results and the parameters' places behind it -/
abbrev FS := List Sl → EX → (R → Fm → Prop) → Prop
def ioOk (pin : List Nat) : Nat → List Sl → Prop
  | _, [] => True
  | i, .ow _ :: r => i ∈ pin ∧ ioOk pin (i + 1) r
  | i, .fz _ :: r => ioOk pin (i + 1) r
  | _, .un :: _ => False
def outP (pin : List Nat) (k : Nat) (S : Fm) : Fm := (List.range k).map fun i => if i ∈ pin then S.getD i .un else .un
/-- a def of n places, k of them parameters, by its body -/
def fnSem (n k : Nat) (pin : List Nat) (ms : MS) : FS := fun as E Q => as.length = k ∧ ioOk pin 0 as ∧
  ms { nx := fun S => Q (.val .non) (outP pin k S), bk := fun _ => False, ct := fun _ => False, ex := fun xd S => E xd (outP pin k S),
       rt := fun r S => match r with
         | .val d => Q (.val d) (outP pin k S)
         | .own o => Q (.own o) (outP pin k S)
         | .slot i => ∃ o, S[i]? = some (Sl.ow o) ∧ Q (.own o) (outP pin k (S.set i .un)) } (as ++ List.replicate (n - k) .un)
def spF (K : PySem.W.Frag) (cl : Nat → Addr) (fs : FS) : Sp := fun vs H Q E => ∃ as F fp E0 Q0, EnvR K cl F H (vs.map some) as fp ∧ fs as E0 Q0 ∧
  (∀ r ps, Q0 r ps → ∀ v F' H' fp', Stp F H as fp F' H' ps fp' → EnvR K cl F' H' (vs.map some) ps fp' → RelR K cl H as fp F' H' (vs.map some) ps fp' r v → (∀ i, r ≠ .slot i) → Q v H') ∧
  (∀ xd ps, E0 xd ps → ∀ c d F' H' fp', Stp F H as fp F' H' ps fp' → EnvR K cl F' H' (vs.map some) ps fp' → XRel K cl F' xd c d → E c d H')

section
variable {K : PySem.W.Frag} {cl : Nat → Addr} {F H : Hp} {fp : Nat → List Addr}
theorem ioOk_get {pin : List Nat} : ∀ {as : List Sl} {i j : Nat}, ioOk pin j as → (∀ o, as[i]? = some (Sl.ow o) → j + i ∈ pin) ∧ as[i]? ≠ some Sl.un
  | [], i, j, _ => ⟨fun o e => by simp at e, by simp⟩
  | .ow u :: r, 0, j, h => ⟨fun o _ => h.1, by simp⟩
  | .fz u :: r, 0, j, h => ⟨fun o e => by simp at e, by simp⟩
  | .un :: r, _, j, h => h.elim
  | .ow u :: r, i + 1, j, h => by
    have q := ioOk_get (i := i) h.2
    refine ⟨fun o e => ?_, by simpa using q.2⟩
    have := q.1 o (by simpa using e)
    rwa [show j + (i + 1) = j + 1 + i by omega]
  | .fz u :: r, i + 1, j, h => by
    have q := ioOk_get (i := i) (j := j + 1) h
    refine ⟨fun o e => ?_, by simpa using q.2⟩
    have := q.1 o (by simpa using e)
    rwa [show j + (i + 1) = j + 1 + i by omega]
theorem outP_get {pin : List Nat} {k : Nat} {S : Fm} {i : Nat} {s : Sl} (h : (outP pin k S)[i]? = some s) : s = .un ∨ (i < k ∧ i ∈ pin ∧ S[i]? = some s) := by
  unfold outP at h
  rw [List.getElem?_map] at h
  cases e : (List.range k)[i]? with
  | none => rw [e] at h; cases h
  | some j =>
    rw [e] at h
    have ej : i < k ∧ i = j := by
      by_cases q : i < k
      · rw [List.getElem?_range q] at e
        exact ⟨q, Option.some.inj e⟩
      · rw [List.getElem?_eq_none (by simpa using q)] at e; cases e
    obtain ⟨hk, rfl⟩ := ej
    have h' : (if i ∈ pin then S.getD i .un else .un) = s := Option.some.inj h
    by_cases hp : i ∈ pin
    · rw [if_pos hp] at h'
      cases q : S[i]? with
      | none => left; rw [List.getD_eq_getElem?_getD, q] at h'; exact h'.symm
      | some t => right; rw [List.getD_eq_getElem?_getD, q] at h'; exact ⟨hk, hp, by rw [← h']; rfl⟩
    · rw [if_neg hp] at h'; exact .inl h'.symm
theorem outP_length {pin : List Nat} {k : Nat} {S : Fm} : (outP pin k S).length = k := by unfold outP; simp
theorem start_get {N : List Str} {vs : List V} {i : Nat} (h : i < vs.length) : (L2.start N vs)[i]? = (vs.map some)[i]? := by
  unfold L2.start; rw [List.getElem?_append_left (by simpa using h)]
/-- the frame at a def's entry -/
theorem EnvR.start {N : List Str} {vs : List V} {as : List Sl} (E : EnvR K cl F H (vs.map some) as fp) (hk : as.length ≤ N.length) : EnvR K cl F H (L2.start N vs) (as ++ List.replicate (N.length - as.length) .un) fp := by
  have hl : as.length = vs.length := by have := E.len; simpa using this
  have od : ∀ (i : Nat) (s : Sl), (as ++ List.replicate (N.length - as.length) Sl.un)[i]? = some s → s ≠ .un → i < vs.length ∧ as[i]? = some s := fun i s h n => by
    by_cases q : i < as.length
    · rw [List.getElem?_append_left q] at h; exact ⟨hl ▸ q, h⟩
    · rw [List.getElem?_append_right (by omega), List.getElem?_replicate] at h
      split at h
      · cases h; exact absurd rfl n
      · cases h
  refine ⟨E.sub, ?_, fun i d h => ?_, fun i o h => ?_, fun i o h => E.nf i o (od i _ h (by simp)).2, fun i j o u ne h1 h2 => E.dj i j o u ne (od i _ h1 (by simp)).2 (od j _ h2 (by simp)).2, E.tb⟩
  · unfold L2.start
    simp only [List.length_append, List.length_replicate, List.length_map]
    omega
  · obtain ⟨l, q⟩ := od i _ h (by simp)
    obtain ⟨v, e, r⟩ := E.fz i d q
    exact ⟨v, (start_get l).trans e, r⟩
  · obtain ⟨l, q⟩ := od i _ h (by simp)
    obtain ⟨v, e, r⟩ := E.ow i o q
    exact ⟨v, (start_get l).trans e, r⟩
theorem Ow.start {n : Nat} {as : List Sl} {a : Addr} (h : Ow as fp a) : Ow (as ++ List.replicate n .un) fp a := by
  obtain ⟨i, o, h1, h2⟩ := h
  exact ⟨i, o, by rw [List.getElem?_append_left (List.getElem?_eq_some_iff.mp h1).1]; exact h1, h2⟩
theorem Ow.unstart {n : Nat} {as : List Sl} {a : Addr} (h : Ow (as ++ List.replicate n .un) fp a) : Ow as fp a := by
  obtain ⟨i, o, h1, h2⟩ := h
  refine ⟨i, o, ?_, h2⟩
  by_cases q : i < as.length
  · rwa [List.getElem?_append_left q] at h1
  · rw [List.getElem?_append_right (by omega), List.getElem?_replicate] at h1
    split at h1 <;> cases h1
theorem Ow.outP {pin : List Nat} {k : Nat} {S : Fm} {a : Addr} (h : Ow (outP pin k S) fp a) : Ow S fp a := by
  obtain ⟨i, o, h1, h2⟩ := h
  rcases outP_get h1 with q | ⟨_, _, q⟩
  · cases q
  · exact ⟨i, o, q, h2⟩
/-- the parameters' places at a def's end -/
theorem EnvR.outP {N : List Str} {vs : List V} {pin : List Nat} {S : Fm} {σ : L2.St} (E : EnvR K cl F H σ S fp) (hp : ∀ i ∈ pin, σ[i]? = (L2.start N vs)[i]?) : EnvR K cl F H (vs.map some) (outP pin vs.length S) fp := by
  refine ⟨E.sub, by rw [outP_length]; simp, fun i d h => ?_, fun i o h => ?_, fun i o h => ?_, fun i j o u ne h1 h2 => ?_, E.tb⟩
  · rcases outP_get h with q | ⟨l, p, q⟩
    · cases q
    · obtain ⟨v, e, r⟩ := E.fz i d q
      exact ⟨v, ((start_get l).symm.trans (hp i p).symm).trans e, r⟩
  · rcases outP_get h with q | ⟨l, p, q⟩
    · cases q
    · obtain ⟨v, e, r⟩ := E.ow i o q
      exact ⟨v, ((start_get l).symm.trans (hp i p).symm).trans e, r⟩
  · rcases outP_get h with q | ⟨l, p, q⟩
    · cases q
    · exact E.nf i o q
  · rcases outP_get h1 with q | ⟨l, p, q⟩
    · cases q
    · rcases outP_get h2 with q' | ⟨l', p', q'⟩
      · cases q'
      · exact E.dj i j o u ne q q'
theorem EnvR.setUn {σ : L2.St} {S : Fm} {i : Nat} (E : EnvR K cl F H σ S fp) : EnvR K cl F H σ (S.set i .un) fp := by
  have od : ∀ (j : Nat) (s : Sl), (S.set i .un)[j]? = some s → s ≠ .un → i ≠ j ∧ S[j]? = some s := fun j s h n => by
    by_cases z : i = j
    · subst z
      by_cases l : i < S.length
      · rw [List.getElem?_set_self l] at h; cases h; exact absurd rfl n
      · rw [List.getElem?_eq_none (by simpa using l)] at h; cases h
    · rw [List.getElem?_set_ne z] at h; exact ⟨z, h⟩
  exact ⟨E.sub, by simpa using E.len, fun j d h => E.fz j d (od j _ h (by simp)).2, fun j o h => E.ow j o (od j _ h (by simp)).2, fun j o h => E.nf j o (od j _ h (by simp)).2, fun j l o u ne h1 h2 => E.dj j l o u ne (od j _ h1 (by simp)).2 (od l _ h2 (by simp)).2, E.tb⟩
theorem Ow.setUn {S : Fm} {i : Nat} {a : Addr} (h : Ow (S.set i .un) fp a) : Ow S fp a ∧ ∃ (j : Nat) (o : O), j ≠ i ∧ S[j]? = some (Sl.ow o) ∧ a ∈ fp j := by
  obtain ⟨j, o, h1, h2⟩ := h
  by_cases z : i = j
  · subst z
    by_cases l : i < S.length
    · rw [List.getElem?_set_self l] at h1; cases h1
    · rw [List.getElem?_eq_none (by simpa using l)] at h1; cases h1
  · rw [List.getElem?_set_ne z] at h1
    exact ⟨⟨j, o, h1, h2⟩, j, o, fun w => z w.symm, h1, h2⟩
end

/-- what a body may lean on -/
structure Good (X : Cx) (W : WX) (k : Nat) : Prop where
  calm : X.calm = true
  room : Room k X.A
  takes : Takes X W
  nd : X.N.Nodup
  pass : PassesOwn (model X.prog X.w) X.A X.env X.xe

section
variable {P : Program} {w : World} {K : PySem.W.Frag} {mg : Str → Option Value} {base : Heap} {cl : Nat → Addr}
theorem spF_len {fs : FS} {n k : Nat} {pin : List Nat} {ms : MS} (e : fs = fnSem n k pin ms) : ∀ vs H Q E, spF K cl fs vs H Q E → vs.length = k := fun vs H Q E ⟨as, F, fp, E0, Q0, h1, h2, _⟩ => by
  subst e
  have := h1.len
  rw [List.length_map] at this
  exact this.symm.trans h2.1
/-- a def keeps its reading -/
theorem fn_ok {x qual : Str} {params : Arguments} {body : List Stmt} {scope : Scope} {dvs : List V} {kws : List (Str × V)} {f : Addr} {fd : FuncData} {N ps : List Str} {k : Nat} {pin : List Nat} {ms : MS}
    (F : FunD K x qual params body scope dvs kws f fd) (S : FnScope N ps scope)
    (h : ∀ (cdv : Value) (A : Around) (outer : List Env) (s : Shared) (H : Hp) (E : XK), Good (cxOf (L2.CX P w) P w K mg base N qual scope f cdv A outer s H E) (fun c d _ H' => E c d H') k →
      PMSs (cxOf (L2.CX P w) P w K mg base N qual scope f cdv A outer s H E) cl (fun c d _ H' => E c d H') pin body ms) :
    FnOk P w K mg base (L2.CX P w) (k + 1) f fd ps (spF K cl (fnSem N.length ps.length pin ms)) := by
  refine F.ok S (spF_len rfl) fun cdv A outer s H vs Q E hr ⟨as, F0, fp, E0, Q0, e, hb, hQ, hE⟩ => ?_
  obtain ⟨hl, hio, hm⟩ := hb
  have hlv : as.length = vs.length := by have := e.len; simpa using this
  have hN : ps.length ≤ N.length := by have := congrArg List.length S.pre; rw [List.length_take] at this; omega
  refine ⟨LS K cl (fun c d _ H => E c d H) pin ms, h cdv A outer s H E ⟨rfl, hr, takes_of rfl rfl rfl rfl, S.nd, passes_of rfl⟩, ?_⟩
  rw [← hl] at hm
  have E1 := e.start (N := N) (by omega)
  have fin : ∀ {S' : Fm} {σ' : L2.St} {F' H' : Hp} {fp' : Nat → List Addr}, (∀ i ∈ pin, σ'[i]? = (L2.start N vs)[i]?) → Stp F0 H (as ++ List.replicate (N.length - as.length) .un) fp F' H' S' fp' → EnvR K cl F' H' σ' S' fp' →
      Stp F0 H as fp F' H' (outP pin as.length S') fp' ∧ EnvR K cl F' H' (vs.map some) (outP pin as.length S') fp' := fun {S' σ' F' H' fp'} p st e' =>
    ⟨⟨st.ff, fun a o q nt n => st.hh a o q nt fun z => n z.unstart, fun a o q nx z n => st.nn a o q nx z fun z => n z.unstart, fun a z => (st.oo a z.outP).imp_left Ow.unstart, st.th⟩, by rw [hlv]; exact e'.outP p⟩
  refine LS.iff.mpr ⟨_, F0, fp, _, E1, hm, ⟨fun xd S' q c d σ' F' H' fp' p st e' xr => ?_, fun S' q σ' F' H' fp' p st e' => ?_, fun S' q => q.elim, fun S' q => q.elim, fun r S' q v σ' F' H' fp' p st e' rr => ?_⟩⟩
  · obtain ⟨s1, e1⟩ := fin p st e'
    exact hE _ _ q c d F' H' fp' s1 e1 xr
  · obtain ⟨s1, e1⟩ := fin p st e'
    exact hQ _ _ q _ F' H' fp' s1 e1 (by show Rep _ _ _ _ _; rw [Rep]) (fun i z => by cases z)
  · obtain ⟨s1, e1⟩ := fin p st e'
    cases r with
    | val d => exact hQ _ _ q v F' H' fp' s1 e1 rr (fun i z => by cases z)
    | own o =>
      obtain ⟨p', fq, ev, c, hq⟩ := rr
      exact hQ _ _ q v F' H' fp' s1 e1 ⟨p', fq, ev, c, fun a ha => ⟨(hq a ha).1, fun z => (hq a ha).2.1 z.outP, (hq a ha).2.2.imp_right Ow.unstart⟩⟩ (fun i z => by cases z)
    | slot i =>
      obtain ⟨o, h1, h2⟩ := q
      obtain ⟨p', e2, c⟩ := e'.ow i o h1
      have e3 : σ'[i]? = some (some v) := rr
      rw [e2] at e3; cases e3
      have s2 : Stp F0 H (as ++ List.replicate (N.length - as.length) .un) fp F' H' (S'.set i .un) fp' := ⟨st.ff, st.hh, st.nn, fun a z => st.oo a z.setUn.1, st.th⟩
      obtain ⟨s3, e4⟩ := fin p s2 e'.setUn
      refine hQ _ _ h2 _ F' H' fp' s3 e4 ⟨p', fp' i, rfl, c, fun a ha => ⟨e'.nf i o h1 a ha, fun z => ?_, ?_⟩⟩ (fun i z => by cases z)
      · obtain ⟨_, j, u, ne, h5, h6⟩ := z.outP.setUn
        exact e'.dj j i u o ne h5 h1 a h6 ha
      · rcases st.oo a ⟨i, o, h1, ha⟩ with z | z
        · exact .inr z.unstart
        · exact .inl z
/-- a def of the text, its reading, by its name -/
structure Fnc (P : Program) (w : World) (K : PySem.W.Frag) (mg : Str → Option Value) (base : Heap) (cl : Nat → Addr) (k : Nat) (x : Str) (st : Stmt) (ps : List Str) (fs : FS) : Prop where
  ex : ∃ f fd, FnOk P w K mg base (L2.CX P w) k f fd ps (spF K cl fs) ∧ mg x = some (.ref f) ∧ FunD K x x (defArgs st) (defBody st) (defScope st) [] [] f fd ∧ Binds K fd ps []
theorem Fnc.mono {j k : Nat} {x : Str} {st : Stmt} {ps : List Str} {fs : FS} (F : Fnc P w K mg base cl j x st ps fs) (h : j ≤ k) : Fnc P w K mg base cl k x st ps fs :=
  let ⟨f, fd, a, b⟩ := F.ex; ⟨f, fd, a.mono h, b⟩
end

/-- a reading that asks for what is never so -/
def fsNo : FS := fun _ _ _ => False
theorem fnOk_no {P : Program} {w : World} {K : PySem.W.Frag} {mg : Str → Option Value} {base : Heap} {cl : Nat → Addr} {CX : CXT} {k : Nat} {f : Addr} {fd : FuncData} {ps : List Str} : FnOk P w K mg base CX k f fd ps (spF K cl fsNo) :=
  ⟨fun _ _ _ _ ⟨_, _, _, _, _, _, h, _⟩ => h.elim, fun _ _ _ _ _ _ _ _ _ _ _ _ _ ⟨_, _, _, _, _, _, h, _⟩ => h.elim⟩
/-! ### calls -/
def asl (S : Fm) : List R → (List Sl → Prop) → Prop
  | [], k => k []
  | .val d :: rs, k => asl S rs fun as => k (.fz d :: as)
  | .slot i :: rs, k => ∃ o, S[i]? = some (Sl.ow o) ∧ asl S rs fun as => k (.ow o :: as)
  | .own _ :: _, _ => False
def backS : List R → Fm → Fm → Fm
  | [], _, S => S
  | _ :: _, [], S => S
  | .slot i :: rs, p :: ps, S => backS rs ps (S.set i p)
  | .val _ :: rs, _ :: ps, S => backS rs ps S
  | .own _ :: rs, _ :: ps, S => backS rs ps S
def slotsOf : List R → List Nat
  | [] => []
  | .slot i :: rs => i :: slotsOf rs
  | _ :: rs => slotsOf rs
def mCall (fs : FS) (ma : MA) : ME := fun E Q S => ma E (fun rs S1 => (slotsOf rs).Nodup ∧ asl S1 rs fun as => fs as (fun xd ps => E xd (backS rs ps S1)) (fun r ps => Q r (backS rs ps S1))) S

section
variable {K : PySem.W.Frag} {cl : Nat → Addr} {F H F' H' : Hp} {S : Fm} {fp : Nat → List Addr} {σ : L2.St}
/-- where the arguments' own objects stand -/
def fpA (fp : Nat → List Addr) (rs : List R) : Nat → List Addr := fun j => match rs[j]? with
  | some (.slot i) => fp i
  | _ => []
/-- which argument a place is -/
def argOf : List R → Nat → Nat → Option Nat
  | [], _, _ => none
  | .slot i :: rs, j, n => if i = n then some j else argOf rs (j + 1) n
  | _ :: rs, j, n => argOf rs (j + 1) n
theorem slot_in : ∀ {rs : List R} {j i : Nat}, rs[j]? = some (R.slot i) → i ∈ slotsOf rs
  | [], j, i, h => by simp at h
  | .slot l :: rs, 0, i, h => by simp at h; subst h; simp [slotsOf]
  | .slot l :: rs, j + 1, i, h => by simp [slotsOf, slot_in (rs := rs) (j := j) (by simpa using h)]
  | .val d :: rs, 0, i, h => by simp at h
  | .val d :: rs, j + 1, i, h => by simp [slotsOf, slot_in (rs := rs) (j := j) (by simpa using h)]
  | .own d :: rs, 0, i, h => by simp at h
  | .own d :: rs, j + 1, i, h => by simp [slotsOf, slot_in (rs := rs) (j := j) (by simpa using h)]
theorem slot_one : ∀ {rs : List R} {j l i : Nat}, (slotsOf rs).Nodup → rs[j]? = some (R.slot i) → rs[l]? = some (R.slot i) → j = l
  | [], j, l, i, _, h, _ => by simp at h
  | .slot m :: rs, 0, 0, i, _, _, _ => rfl
  | .slot m :: rs, 0, l + 1, i, nd, h, q => by
    simp at h; subst h
    simp only [slotsOf, List.nodup_cons] at nd
    exact absurd (slot_in (rs := rs) (j := l) (by simpa using q)) nd.1
  | .slot m :: rs, j + 1, 0, i, nd, h, q => by
    simp at q; subst q
    simp only [slotsOf, List.nodup_cons] at nd
    exact absurd (slot_in (rs := rs) (j := j) (by simpa using h)) nd.1
  | .slot m :: rs, j + 1, l + 1, i, nd, h, q => by
    simp only [slotsOf, List.nodup_cons] at nd
    rw [slot_one (rs := rs) (j := j) (l := l) nd.2 (by simpa using h) (by simpa using q)]
  | .val d :: rs, 0, l, i, _, h, _ => by simp at h
  | .val d :: rs, j + 1, 0, i, _, _, h => by simp at h
  | .val d :: rs, j + 1, l + 1, i, nd, h, q => by
    rw [slot_one (rs := rs) (j := j) (l := l) nd (by simpa using h) (by simpa using q)]
  | .own d :: rs, 0, l, i, _, h, _ => by simp at h
  | .own d :: rs, j + 1, 0, i, _, _, h => by simp at h
  | .own d :: rs, j + 1, l + 1, i, nd, h, q => by
    rw [slot_one (rs := rs) (j := j) (l := l) nd (by simpa using h) (by simpa using q)]
theorem asl_get {S : Fm} : ∀ {rs : List R} {k : List Sl → Prop}, asl S rs k → ∃ as, k as ∧ as.length = rs.length ∧ ∀ (j : Nat), (∀ (d : D), rs[j]? = some (R.val d) → as[j]? = some (Sl.fz d)) ∧ (∀ (i : Nat), rs[j]? = some (R.slot i) → ∃ o, S[i]? = some (Sl.ow o) ∧ as[j]? = some (Sl.ow o)) ∧ ∀ (o : O), rs[j]? ≠ some (R.own o)
  | [], k, h => ⟨[], h, rfl, fun j => ⟨fun d e => by simp at e, fun i e => by simp at e, by simp⟩⟩
  | .val d :: rs, k, h => by
    obtain ⟨as, h1, h2, h3⟩ := asl_get (rs := rs) h
    refine ⟨.fz d :: as, h1, by simp [h2], fun j => ?_⟩
    cases j with
    | zero => exact ⟨fun d e => by simpa using e, fun i e => by simp at e, by simp⟩
    | succ j => simpa using h3 j
  | .slot i :: rs, k, h => by
    obtain ⟨o, h0, h⟩ := h
    obtain ⟨as, h1, h2, h3⟩ := asl_get (rs := rs) h
    refine ⟨.ow o :: as, h1, by simp [h2], fun j => ?_⟩
    cases j with
    | zero => exact ⟨fun d e => by simp at e, fun l e => by simp at e; subst e; exact ⟨o, h0, by simp⟩, by simp⟩
    | succ j => simpa using h3 j
  | .own o :: rs, k, h => h.elim
theorem backS_len : ∀ {rs : List R} {ps S : Fm}, (backS rs ps S).length = S.length
  | [], ps, S => by cases ps <;> rfl
  | .slot i :: rs, [], S => rfl
  | .slot i :: rs, p :: ps, S => by rw [backS, backS_len]; simp
  | .val i :: rs, [], S => rfl
  | .val i :: rs, p :: ps, S => by rw [backS, backS_len]
  | .own i :: rs, [], S => rfl
  | .own i :: rs, p :: ps, S => by rw [backS, backS_len]
/-- what stands at a place behind a call -/
theorem backS_get : ∀ {rs : List R} {ps S : Fm} {n : Nat}, (slotsOf rs).Nodup → ps.length = rs.length →
    (∀ (j : Nat), rs[j]? = some (R.slot n) → n < S.length → (backS rs ps S)[n]? = ps[j]?) ∧ ((∀ (j : Nat), rs[j]? ≠ some (R.slot n)) → (backS rs ps S)[n]? = S[n]?)
  | [], ps, S, n, _, _ => ⟨fun j e => by simp at e, fun _ => by cases ps <;> rfl⟩
  | .slot i :: rs, [], S, n, _, hl => by simp at hl
  | .slot i :: rs, p :: ps, S, n, nd, hl => by
    simp only [slotsOf, List.nodup_cons] at nd
    obtain ⟨h1, h2⟩ := backS_get (rs := rs) (ps := ps) (S := S.set i p) (n := n) nd.2 (by simpa using hl)
    refine ⟨fun j e lt => ?_, fun e => ?_⟩
    · rw [backS]
      cases j with
      | zero =>
        simp at e; subst e
        rw [h2 fun j z => nd.1 (slot_in z), List.getElem?_set_self lt]; rfl
      | succ j => rw [h1 j (by simpa using e) (by simpa using lt)]; rfl
    · rw [backS, h2 fun j z => e (j + 1) (by simpa using z), List.getElem?_set_ne fun z => e 0 (by simp [z])]
  | .val i :: rs, [], S, n, _, hl => by simp at hl
  | .val i :: rs, p :: ps, S, n, nd, hl => by
    obtain ⟨h1, h2⟩ := backS_get (rs := rs) (ps := ps) (S := S) (n := n) nd (by simpa using hl)
    refine ⟨fun j e lt => ?_, fun e => ?_⟩
    · rw [backS]
      cases j with
      | zero => simp at e
      | succ j => rw [h1 j (by simpa using e) lt]; rfl
    · rw [backS, h2 fun j z => e (j + 1) (by simpa using z)]
  | .own i :: rs, [], S, n, _, hl => by simp at hl
  | .own i :: rs, p :: ps, S, n, nd, hl => by
    obtain ⟨h1, h2⟩ := backS_get (rs := rs) (ps := ps) (S := S) (n := n) nd (by simpa using hl)
    refine ⟨fun j e lt => ?_, fun e => ?_⟩
    · rw [backS]
      cases j with
      | zero => simp at e
      | succ j => rw [h1 j (by simpa using e) lt]; rfl
    · rw [backS, h2 fun j z => e (j + 1) (by simpa using z)]
end
end Mv

/-! Mv: calls of defs. -/
namespace Mv
open PySem L2

section
variable {K : PySem.W.Frag} {cl : Nat → Addr} {F H F' H' : Hp} {S ps : Fm} {fp fp' : Nat → List Addr} {σ : L2.St} {rs : List R} {vs : List V} {as : List Sl}
theorem RelAs.get : ∀ {rs : List R} {vs : List V} {j : Nat} {r : R}, RelAs K cl F σ rs vs → rs[j]? = some r → ∃ v, vs[j]? = some v ∧ RelA K cl F σ r v
  | [], _, j, r, _, e => by simp at e
  | x :: rs, _, 0, r, ⟨v, us, e1, h, t⟩, e => by simp at e; subst e; subst e1; exact ⟨v, rfl, h⟩
  | x :: rs, _, j + 1, r, ⟨v, us, e1, h, t⟩, e => by
    subst e1
    obtain ⟨u, h1, h2⟩ := RelAs.get (j := j) t (by simpa using e)
    exact ⟨u, by simpa using h1, h2⟩
theorem RelAs.length : ∀ {rs : List R} {vs : List V}, RelAs K cl F σ rs vs → rs.length = vs.length
  | [], _, h => by have e : _ = _ := h; subst e; rfl
  | x :: rs, _, ⟨v, us, e1, h, t⟩ => by subst e1; simp [RelAs.length t]
/-- how the arguments' places lie over the caller's -/
structure Args (S : Fm) (rs : List R) (as : List Sl) : Prop where
  nd : (slotsOf rs).Nodup
  len : as.length = rs.length
  at_ : ∀ (j : Nat), (∀ (d : D), rs[j]? = some (R.val d) → as[j]? = some (Sl.fz d)) ∧ (∀ (i : Nat), rs[j]? = some (R.slot i) → ∃ o, S[i]? = some (Sl.ow o) ∧ as[j]? = some (Sl.ow o)) ∧ ∀ (o : O), rs[j]? ≠ some (R.own o)
theorem Args.ow (A : Args S rs as) {j : Nat} {o : O} (h : as[j]? = some (Sl.ow o)) : ∃ i, rs[j]? = some (R.slot i) ∧ S[i]? = some (Sl.ow o) := by
  have hl : j < rs.length := by rw [← A.len]; exact (List.getElem?_eq_some_iff.mp h).1
  obtain ⟨h1, h2, h3⟩ := A.at_ j
  cases e : rs[j]? with
  | none => rw [List.getElem?_eq_none_iff] at e; omega
  | some r =>
    cases r with
    | val d => rw [h1 d e] at h; cases h
    | own o => exact absurd e (h3 o)
    | slot i =>
      obtain ⟨u, q1, q2⟩ := h2 i e
      rw [q2] at h; cases h
      exact ⟨i, rfl, q1⟩
theorem Args.fz (A : Args S rs as) {j : Nat} {d : D} (h : as[j]? = some (Sl.fz d)) : rs[j]? = some (R.val d) := by
  have hl : j < rs.length := by rw [← A.len]; exact (List.getElem?_eq_some_iff.mp h).1
  obtain ⟨h1, h2, h3⟩ := A.at_ j
  cases e : rs[j]? with
  | none => rw [List.getElem?_eq_none_iff] at e; omega
  | some r =>
    cases r with
    | val u => rw [h1 u e] at h; cases h; rfl
    | own o => exact absurd e (h3 o)
    | slot i =>
      obtain ⟨u, q1, q2⟩ := h2 i e
      rw [q2] at h; cases h
theorem fpA_slot {i j : Nat} (h : rs[j]? = some (R.slot i)) : fpA fp rs j = fp i := by unfold fpA; rw [h]
theorem Args.own (A : Args S rs as) {a : Addr} (h : Ow as (fpA fp rs) a) : ∃ (i j : Nat) (o : O), rs[j]? = some (R.slot i) ∧ S[i]? = some (Sl.ow o) ∧ a ∈ fp i := by
  obtain ⟨j, o, h1, h2⟩ := h
  obtain ⟨i, q1, q2⟩ := A.ow h1
  rw [fpA_slot q1] at h2
  exact ⟨i, j, o, q1, q2, h2⟩
/-- the frame that a callee finds -/
theorem Args.env (A : Args S rs as) (E : EnvR K cl F H σ S fp) (r : RelAs K cl F σ rs vs) : EnvR K cl F H (vs.map some) as (fpA fp rs) := by
  refine ⟨E.sub, by rw [A.len, r.length]; simp, fun j d h => ?_, fun j o h => ?_, fun j o h a ha => ?_, fun j l o u ne h1 h2 a ha => ?_, E.tb⟩
  · obtain ⟨v, e, q⟩ := r.get (A.fz h)
    exact ⟨v, by rw [List.getElem?_map, e]; rfl, q⟩
  · obtain ⟨i, q1, q2⟩ := A.ow h
    obtain ⟨v, e, q⟩ := r.get q1
    obtain ⟨p, e2, c⟩ := E.ow i o q2
    have e3 : σ[i]? = some (some v) := q
    rw [e2] at e3; cases e3
    exact ⟨p, by rw [List.getElem?_map, e]; rfl, by rw [fpA_slot q1]; exact c⟩
  · obtain ⟨i, q1, q2⟩ := A.ow h
    rw [fpA_slot q1] at ha
    exact E.nf i o q2 a ha
  · obtain ⟨i, q1, q2⟩ := A.ow h1
    obtain ⟨k, q3, q4⟩ := A.ow h2
    rw [fpA_slot q1] at ha
    rw [fpA_slot q3]
    exact E.dj i k o u (fun z => ne (by subst z; exact slot_one A.nd q1 q3)) q2 q4 a ha
open Classical in
/-- the objects of the caller's places behind a call -/
noncomputable def fpB (fp fp' : Nat → List Addr) (rs : List R) (n : Nat) : List Addr := if h : ∃ j : Nat, rs[j]? = some (R.slot n) then fp' h.choose else fp n
theorem fpB_slot {n j : Nat} (nd : (slotsOf rs).Nodup) (h : rs[j]? = some (R.slot n)) : fpB fp fp' rs n = fp' j := by
  unfold fpB
  have q : ∃ j : Nat, rs[j]? = some (R.slot n) := ⟨j, h⟩
  rw [dif_pos q, slot_one nd q.choose_spec h]
theorem fpB_none {n : Nat} (h : ∀ (j : Nat), rs[j]? ≠ some (R.slot n)) : fpB fp fp' rs n = fp n := by
  unfold fpB
  rw [dif_neg fun ⟨j, q⟩ => h j q]
/-- the caller's frame behind a call -/
theorem Args.back (A : Args S rs as) (E : EnvR K cl F H σ S fp) (r : RelAs K cl F σ rs vs) (st : Stp F H as (fpA fp rs) F' H' ps fp') (E' : EnvR K cl F' H' (vs.map some) ps fp') :
    EnvR K cl F' H' σ (backS rs ps S) (fpB fp fp' rs) ∧ Stp F H S fp F' H' (backS rs ps S) (fpB fp fp' rs) ∧
    (∀ {as0 : Fm} {r0 : R} {v : V}, RelR K cl H as (fpA fp rs) F' H' (vs.map some) ps fp' r0 v → (∀ i, r0 ≠ .slot i) → RelR K cl H S fp F' H' σ (backS rs ps S) (fpB fp fp' rs) r0 v) := by
  have hl : ps.length = rs.length := by have := E'.len; rw [List.length_map, ← r.length] at this; exact this
  have arg : ∀ (n : Nat), (∃ (j : Nat) (o : O), rs[j]? = some (R.slot n) ∧ S[n]? = some (Sl.ow o) ∧ (backS rs ps S)[n]? = ps[j]? ∧ fpB fp fp' rs n = fp' j ∧ ∃ v, vs[j]? = some v ∧ σ[n]? = some (some v)) ∨
      ((∀ (j : Nat), rs[j]? ≠ some (R.slot n)) ∧ (backS rs ps S)[n]? = S[n]? ∧ fpB fp fp' rs n = fp n) := fun n => by
    by_cases q : ∃ j : Nat, rs[j]? = some (R.slot n)
    · obtain ⟨j, q⟩ := q
      obtain ⟨o, h1, h2⟩ := (A.at_ j).2.1 n q
      obtain ⟨v, h3, h4⟩ := r.get q
      exact .inl ⟨j, o, q, h1, (backS_get A.nd hl).1 j q (List.getElem?_eq_some_iff.mp h1).1, fpB_slot A.nd q, v, h3, h4⟩
    · have q' : ∀ (j : Nat), rs[j]? ≠ some (R.slot n) := fun j z => q ⟨j, z⟩
      exact .inr ⟨q', (backS_get A.nd hl).2 q', fpB_none q'⟩
  have sOw : ∀ a, Ow as (fpA fp rs) a → Ow S fp a := fun a h => by
    obtain ⟨i, j, o, _, h2, h3⟩ := A.own h
    exact ⟨i, o, h2, h3⟩
  -- a place that is no argument keeps its objects
  have out : ∀ (n : Nat) (o : O), (∀ (j : Nat), rs[j]? ≠ some (R.slot n)) → S[n]? = some (Sl.ow o) → ∀ a ∈ fp n, ¬ Ow as (fpA fp rs) a ∧ ∃ u, H a = some u ∧ ¬ TX u := fun n o hn hS a ha => by
    obtain ⟨p, _, c⟩ := E.ow n o hS
    refine ⟨fun w => ?_, c.there2 a ha⟩
    obtain ⟨i, j, u, h1, h2, h3⟩ := A.own w
    exact E.dj n i o u (fun z => hn j (z ▸ h1)) hS h2 a ha h3
  have pOw : ∀ a, Ow (backS rs ps S) (fpB fp fp' rs) a → Ow ps fp' a ∨ ∃ (n : Nat) (o : O), (∀ (j : Nat), rs[j]? ≠ some (R.slot n)) ∧ S[n]? = some (Sl.ow o) ∧ a ∈ fp n := fun a ⟨n, o, h1, h2⟩ => by
    rcases arg n with ⟨j, u, _, _, e1, e2, _⟩ | ⟨hn, e1, e2⟩
    · rw [e1] at h1; rw [e2] at h2; exact .inl ⟨j, o, h1, h2⟩
    · rw [e1] at h1; rw [e2] at h2; exact .inr ⟨n, o, hn, h1, h2⟩
  refine ⟨⟨E'.sub, by rw [backS_len]; exact E.len, fun n d h => ?_, fun n o h => ?_, fun n o h a ha => ?_, fun n m o u ne h1 h2 a ha => ?_, E'.tb⟩, ⟨st.ff, fun a o h nt n => st.hh a o h nt fun w => n (sOw a w), fun a o h nx z n => st.nn a o h nx z fun w => n (sOw a w), fun a h => ?_, st.th⟩, fun {as0 r0 v} h n0 => ?_⟩
  · rcases arg n with ⟨j, u, _, _, e1, _, v, h3, h4⟩ | ⟨hn, e1, _⟩
    · rw [e1] at h
      obtain ⟨w, e5, q⟩ := E'.fz j d h
      rw [List.getElem?_map, h3] at e5
      cases e5
      exact ⟨v, h4, q⟩
    · rw [e1] at h
      obtain ⟨w, e5, q⟩ := E.fz n d h
      exact ⟨w, e5, q.mono st.ff⟩
  · rcases arg n with ⟨j, u, _, _, e1, e2, v, h3, h4⟩ | ⟨hn, e1, e2⟩
    · rw [e1] at h
      obtain ⟨w, e5, q⟩ := E'.ow j o h
      rw [List.getElem?_map, h3] at e5
      cases e5
      exact ⟨w, h4, by rw [e2]; exact q⟩
    · rw [e1] at h
      obtain ⟨w, e5, q⟩ := E.ow n o h
      refine ⟨w, e5, ?_⟩
      rw [e2]
      refine q.mono st.ff fun a ha => ?_
      obtain ⟨n1, u, hu, hx⟩ := out n o hn h a ha
      rw [hu]; exact st.hh a u hu (nt_of hx) n1
  · rcases arg n with ⟨j, u, _, _, e1, e2, _⟩ | ⟨hn, e1, e2⟩
    · rw [e1] at h; rw [e2] at ha; exact E'.nf j o h a ha
    · rw [e1] at h; rw [e2] at ha
      obtain ⟨n1, u, hu, hx⟩ := out n o hn h a ha
      exact st.nn a u hu hx (E.nf n o h a ha) n1
  · have mix : ∀ (l k : Nat) (o u : O), ps[l]? = some (Sl.ow o) → a ∈ fp' l → (∀ (j : Nat), rs[j]? ≠ some (R.slot k)) → S[k]? = some (Sl.ow u) → a ∉ fp k := fun l k o u g1 g2 g3 g4 g5 => by
      obtain ⟨n1, w, hw, _⟩ := out k u g3 g4 a g5
      rcases st.oo a ⟨l, o, g1, g2⟩ with z | z
      · exact n1 z
      · rw [hw] at z; cases z
    rcases arg n with ⟨j, u1, f1, _, e1, e2, _⟩ | ⟨hn, e1, e2⟩ <;> rcases arg m with ⟨l, u2, f2, _, e3, e4, _⟩ | ⟨hm, e3, e4⟩
    · rw [e1] at h1; rw [e3] at h2; rw [e2] at ha; rw [e4]
      exact E'.dj j l o u (fun z => ne (by subst z; rw [f1] at f2; cases f2; rfl)) h1 h2 a ha
    · rw [e1] at h1; rw [e3] at h2; rw [e2] at ha; rw [e4]
      exact mix j m o u h1 ha hm h2
    · rw [e1] at h1; rw [e3] at h2; rw [e2] at ha; rw [e4]
      exact fun z => mix l n u o h2 z hn h1 ha
    · rw [e1] at h1; rw [e3] at h2; rw [e2] at ha; rw [e4]
      exact E.dj n m o u ne h1 h2 a ha
  · rcases pOw a h with w | ⟨n, o, hn, h1, h2⟩
    · exact (st.oo a w).imp_left (sOw a)
    · exact .inl ⟨n, o, h1, h2⟩
  · cases r0 with
    | val d => exact h
    | slot i => exact absurd rfl (n0 i)
    | own o =>
      obtain ⟨p, fq, e, c, hq⟩ := h
      refine ⟨p, fq, e, c, fun a ha => ⟨(hq a ha).1, fun w => ?_, (hq a ha).2.2.imp_right (sOw a)⟩⟩
      rcases pOw a w with w | ⟨n, u, hn, h1, h2⟩
      · exact (hq a ha).2.1 w
      · obtain ⟨n1, x, hx, _⟩ := out n u hn h1 a h2
        rcases (hq a ha).2.2 with z | z
        · rw [hx] at z; cases z
        · exact n1 z
end

section
variable {X : Cx} {cl : Nat → Addr} {W : WX} {pin : List Nat} {fs : FS} {ma : MA}
theorem sp_call {σ : L2.St} {F H : Hp} {S : Fm} {fp : Nat → List Addr} {E0 : EX} {Q0 : R → Fm → Prop} {Q : VK} {rs : List R} {vs : List V} (e1 : EnvR X.K cl F H σ S fp) (rr : RelAs X.K cl F σ rs vs) (x1 : Exl X.K cl W pin σ F H S fp E0)
    (h : (slotsOf rs).Nodup ∧ asl S rs fun as => fs as (fun xd ps => E0 xd (backS rs ps S)) (fun r ps => Q0 r (backS rs ps S)))
    (k : ∀ r S', Q0 r S' → ∀ v F' H' fp', Stp F H S fp F' H' S' fp' → EnvR X.K cl F' H' σ S' fp' → RelR X.K cl H S fp F' H' σ S' fp' r v → Q v H') : spF X.K cl fs vs H Q (WE W σ) := by
  obtain ⟨nd, h⟩ := h
  obtain ⟨as, h1, h2, h3⟩ := asl_get h
  have A : Args S rs as := ⟨nd, h2, h3⟩
  refine ⟨as, F, _, _, _, A.env e1 rr, h1, fun r ps q v F' H' fp' st e' rel n0 => ?_, fun xd ps q c d F' H' fp' st e' xr => ?_⟩
  · obtain ⟨b1, b2, b3⟩ := A.back e1 rr st e'
    exact k _ _ q v F' H' _ b2 b1 (b3 (as0 := as) rel n0)
  · obtain ⟨b1, b2, b3⟩ := A.back e1 rr st e'
    exact x1 _ _ q c d σ F' H' _ (fun _ _ => rfl) b2 b1 xr
theorem le_call {σ : L2.St} {H : Hp} {Q : VK} (h : LE X.K cl W pin (mCall fs ma) σ H Q) : LA X.K cl W pin ma σ H fun vs H1 => spF X.K cl fs vs H1 Q (WE W σ) := by
  obtain ⟨S, F, fp, E0, Q0, E, h2, x, k⟩ := h
  refine LA.mk E h2 x fun rs S1 vs F1 H1 fp1 q1 st1 e1 rr1 x1 => ?_
  exact sp_call e1 rr1 x1 q1 fun r S' q v F' H' fp' st e rel => k r S' q v F' H' fp' (st1.trans st) e (rel.from st1)
variable {k : Nat} {x : Str} {st : Stmt} {ps : List Str} {p pos : Pos} {e : Expr} {es : List Expr} {j : Nat}
/-- f(e, ..) -/
theorem qCall (F : Fnc X.prog X.w X.K X.mg X.base cl k x st ps fs) (g : Good X W j) (hk : k ≤ j) (hg : Gl X x) (ha : PMA X cl W pin (e :: es) ma)
    (hdb : (x == ("__debug__" : Str)) = false := by decide) (he : starEach (e :: es) X.env = (false, eval e X.env) :: starEach es X.env := by rfl) (hpl : (backTo pos (starEach es X.env)).any (·.1) = false := by rfl) :
    PM X cl W pin (.Call (.Name x p) (e :: es) [] pos) (mCall fs ma) := by
  obtain ⟨f, fd, F1, hm, FD, hb⟩ := F.ex
  exact PE.imp (pe_callS F1 (g.room.mono hk) hg hm FD.kp hb (fun σ => passAt g.takes σ) ha hdb he hpl) fun _ _ _ h => le_call h
theorem qCall0 (F : Fnc X.prog X.w X.K X.mg X.base cl k x st [] fs) (g : Good X W j) (hk : k ≤ j) (hg : Gl X x) (hdb : (x == ("__debug__" : Str)) = false := by decide) : PM X cl W pin (.Call (.Name x p) [] [] pos) (mCall fs mNil) := by
  obtain ⟨f, fd, F1, hm, FD, hb⟩ := F.ex
  refine ⟨fun pins s σ H Q I h => ?_⟩
  refine wpAny_Call_Name_kw (ld_glob I hg hm ?_ hdb)
  have h' := le_call h
  obtain ⟨S, F, fp, E0, Q0, E, h2, x, k⟩ := h'
  exact PySem.W.callWith_K0 I.kIn FD.kp (run_fnS (us := []) (E := WE W) F1 (g.room.mono hk) hb (passAt g.takes σ) I .nil (k _ _ h2 [] F H fp Stp.refl E rfl))
end
end Mv

/-! Mv: the built-in operations over data. -/
namespace Mv
open PySem L2

section
variable {K : PySem.W.Frag} {cl : Nat → Addr} {F H : Hp} {v : V}
theorem Pk.int {i : Int} (p : Pk K cl F H (.int i) v) : v = .int i := by
  rcases p with p | ⟨o, a, fq, e, _, c, _⟩
  · rwa [Rep] at p
  · cases o <;> first | exact False.elim c | cases e
theorem Pk.bl {i : Bool} (p : Pk K cl F H (.bl i) v) : v = .bl i := by
  rcases p with p | ⟨o, a, fq, e, _, c, _⟩
  · rwa [Rep] at p
  · cases o <;> first | exact False.elim c | cases e
theorem Pk.str {i : Str} (p : Pk K cl F H (.str i) v) : v = .str i := by
  rcases p with p | ⟨o, a, fq, e, _, c, _⟩
  · rwa [Rep] at p
  · cases o <;> first | exact False.elim c | cases e
theorem Pk.non (p : Pk K cl F H .non v) : v = .non := by
  rcases p with p | ⟨o, a, fq, e, _, c, _⟩
  · rwa [Rep] at p
  · cases o <;> first | exact False.elim c | cases e
theorem Pk.ty {n : String} (p : Pk K cl F H (.ty n) v) : v = .ty n := by
  rcases p with p | ⟨o, a, fq, e, _, c, _⟩
  · rwa [Rep] at p
  · cases o <;> first | exact False.elim c | cases e
theorem Pk.cls {n : Nat} (p : Pk K cl F H (.cls n) v) : v = .ref (cl n) := by
  rcases p with p | ⟨o, a, fq, e, _, c, _⟩
  · rwa [Rep] at p
  · cases o <;> first | exact False.elim c | cases e
theorem Pk.lst {xs : List D} (p : Pk K cl F H (.lst xs) v) (s : Same F H) : ∃ a vs, v = .ref a ∧ H a = some (.lst vs) ∧ RepL K cl F xs vs := by
  rcases p with p | ⟨o, a, fq, e, rfl, c, _⟩
  · rw [Rep] at p; obtain ⟨a, vs, rfl, h1, h2⟩ := p
    exact ⟨a, vs, rfl, s _ _ h1, h2⟩
  · cases o <;> first | exact False.elim c | cases e
    obtain ⟨_, vs, h1, h2⟩ := c
    exact ⟨a, vs, rfl, h1, h2⟩
theorem Pk.rol {xs : List D} (p : Pk K cl F H (.rol xs) v) (s : Same F H) : ∃ a vs, v = .ref a ∧ SqL K H a vs ∧ RepL K cl F xs vs := by
  rcases p with p | ⟨o, a, fq, e, rfl, c, _⟩
  · rw [Rep] at p; obtain ⟨a, vs, rfl, h1, h2⟩ := p
    exact ⟨a, vs, rfl, s.seq h1, h2⟩
  · cases o <;> first | exact False.elim c | cases e
theorem Pk.tup {xs : List D} (p : Pk K cl F H (.tup xs) v) (s : Same F H) : ∃ a vs, v = .ref a ∧ H a = some (.tup vs) ∧ RepL K cl F xs vs ∧ Rep K cl F (.tup xs) v := by
  rcases p with p | ⟨o, a, fq, e, rfl, c, _⟩
  · have p' := p
    rw [Rep] at p; obtain ⟨a, vs, rfl, h1, h2⟩ := p
    exact ⟨a, vs, rfl, s _ _ h1, h2, p'⟩
  · cases o <;> first | exact False.elim c | cases e
theorem Pk.rot {xs : List D} (p : Pk K cl F H (.rot xs) v) (s : Same F H) : ∃ a vs, v = .ref a ∧ SqT K H a vs ∧ RepL K cl F xs vs ∧ Rep K cl F (.rot xs) v := by
  rcases p with p | ⟨o, a, fq, e, rfl, c, _⟩
  · have p' := p
    rw [Rep] at p; obtain ⟨a, vs, rfl, h1, h2⟩ := p
    exact ⟨a, vs, rfl, Same.sqt s h1, h2, p'⟩
  · cases o <;> first | exact False.elim c | cases e
theorem RepK.len : ∀ {ds : List (Key × D)} {ws : List (Key × V)}, RepK K cl F ds ws → ds.length = ws.length
  | [], _, h => by rw [RepK] at h; subst h; rfl
  | (j, d) :: ds, _, h => by
    rw [RepK] at h
    obtain ⟨v, r, rfl, h1, h2⟩ := h
    simp [RepK.len h2]
theorem dks_rd {a : Addr} {o : HO} {ws : List (Key × V)} (h : H a = some o) (e : dks o = some ws) : Rd H a (.dK ws) := by
  unfold dks at e
  split at e
  · cases e; exact .inl h
  · cases e; exact .inr ⟨_, h⟩
  · cases e
theorem Pk.dK {xs : List (Key × D)} (p : Pk K cl F H (.dK xs) v) (s : Same F H) : ∃ a vs, v = .ref a ∧ Rd H a (.dK vs) ∧ RepK K cl F xs vs := by
  rcases p with p | ⟨o, a, fq, e, rfl, c, _⟩
  · rw [Rep] at p; obtain ⟨a, o, vs, rfl, h1, h2, h3⟩ := p
    exact ⟨a, vs, rfl, dks_rd (s _ _ h1) h2, h3⟩
  · cases o <;> first | exact False.elim c | cases e
    obtain ⟨_, vs, h1, h2⟩ := c
    exact ⟨a, vs, rfl, .inl h1, h2⟩
theorem PkL.one {d : D} {vs : List V} (p : PkL K cl F H [d] vs) : ∃ v, vs = [v] ∧ Pk K cl F H d v := by
  obtain ⟨v, us, rfl, h, e⟩ := p
  have e' : us = [] := e
  subst e'
  exact ⟨v, rfl, h⟩
theorem PkL.two {d e : D} {vs : List V} (p : PkL K cl F H [d, e] vs) : ∃ v w, vs = [v, w] ∧ Pk K cl F H d v ∧ Pk K cl F H e w := by
  obtain ⟨v, us, rfl, h, t⟩ := p
  obtain ⟨w, rfl, h2⟩ := PkL.one t
  exact ⟨v, w, rfl, h, h2⟩
variable {Q0 : R → Prop} {Q : VK}
theorem Post0.val (P : Post0 K cl F H Q0 Q) (s : Same F H) {d : D} (q : Q0 (.val d)) (r : Rep K cl F d v) : Q v H := P _ q v F H (.refl s) r
theorem Post0.int (P : Post0 K cl F H Q0 Q) (s : Same F H) {i : Int} (q : Q0 (.val (.int i))) : Q (.int i) H := P.val s q (by rw [Rep])
theorem Post0.bl (P : Post0 K cl F H Q0 Q) (s : Same F H) {i : Bool} (q : Q0 (.val (.bl i))) : Q (.bl i) H := P.val s q (by rw [Rep])
theorem Post0.str (P : Post0 K cl F H Q0 Q) (s : Same F H) {i : Str} (q : Q0 (.val (.str i))) : Q (.str i) H := P.val s q (by rw [Rep])
theorem Post0.non (P : Post0 K cl F H Q0 Q) (s : Same F H) (q : Q0 (.val .non)) : Q .non H := P.val s q (by rw [Rep])
theorem same_upd {p : Addr} {o : HO} (hp : H p = none) : Same H (upd H p o) := fun a u e => by rw [upd_ne (ne_of_none e hp)]; exact e
theorem Post0.lst (P : Post0 K cl F H Q0 Q) (s : Same F H) {xs : List D} {vs : List V} {p : Addr} (q : Q0 (.own (.lst xs))) (r : RepL K cl F xs vs) (hp : H p = none) : Q (.ref p) (upd H p (.lst vs)) :=
  P _ q _ F _ ⟨Same.refl F, same_upd hp, fun _ _ _ z => z, s.trans (same_upd hp)⟩ ⟨p, [p], rfl, ⟨rfl, vs, upd_same, r⟩, fun a ha => by
    have e : a = p := by simpa using ha
    subst e
    exact ⟨s.free hp, hp⟩⟩
theorem Post0.tup (P : Post0 K cl F H Q0 Q) (s : Same F H) {xs : List D} {vs : List V} {p : Addr} (q : Q0 (.val (.tup xs))) (r : RepL K cl F xs vs) (hp : H p = none) : Q (.ref p) (upd H p (.tup vs)) := by
  have sf : Same F (upd F p (.tup vs)) := same_upd (s.free hp)
  refine P _ q _ (upd F p (.tup vs)) _ ⟨sf, same_upd hp, fun a u h z => by rw [upd_ne (ne_of_none h hp)]; exact z, fun a u e => ?_⟩ ?_
  · by_cases z : a = p
    · subst z; rw [upd_same] at e ⊢; exact e
    · rw [upd_ne z] at e ⊢; exact s a u e
  · show Rep _ _ _ _ _
    rw [Rep]
    exact ⟨p, vs, rfl, upd_same, r.mono sf⟩
end

/-! ### arithmetic -/
def dI2 (C : Int → Int → Prop) (g : Int → Int → Int) : DOp2 := fun d e k => match d, e with
  | .int i, .int j => C i j ∧ k (.val (.int (g i j)))
  | _, _ => False
def dSub : DOp2 := dI2 (fun _ _ => True) fun i j => i - j
def dFdiv : DOp2 := dI2 (fun _ j => 0 < j ∧ j.natAbs.log2 < 9000) fun i j => i / j
def dMod : DOp2 := dI2 (fun _ j => 0 < j) fun i j => i % j
def dPow : DOp2 := dI2 (fun i j => 0 ≤ j ∧ j ≤ 1000000 ∧ i.natAbs < 2 ^ 64) fun i j => i ^ j.toNat
def dShl : DOp2 := dI2 (fun i j => 0 ≤ j ∧ j ≤ 1000000 ∧ i.natAbs < 2 ^ 64) fun i j => i * 2 ^ j.toNat
def dShr : DOp2 := dI2 (fun _ j => 0 ≤ j) fun i j => i / 2 ^ j.toNat
def dAnd : DOp2 := dI2 (fun _ _ => True) Builtin.bitAnd
def dOr : DOp2 := dI2 (fun _ _ => True) Builtin.bitOr
def dXor : DOp2 := dI2 (fun _ _ => True) Builtin.bitXor
def dAdd : DOp2 := fun d e k => match d, e with
  | .int i, .int j => k (.val (.int (i + j)))
  | .str x, .str y => x.length + y.length ≤ 16777216 ∧ k (.val (.str (x ++ y)))
  | .lst xs, .lst ys => xs.length + ys.length ≤ 16777216 ∧ k (.own (.lst (xs ++ ys)))
  | .tup xs, .tup ys => xs.length + ys.length ≤ 16777216 ∧ k (.val (.tup (xs ++ ys)))
  | _, _ => False
/-- a text some times -/
def mulS (z : Str) (n : Nat) : Str := ⟨(List.replicate n z.cps).foldl (· ++ ·) #[]⟩
def dMul : DOp2 := fun d e k => match d, e with
  | .int i, .int j => ((-(2 ^ 64) < i ∧ i < 2 ^ 64) ∨ (-(2 ^ 64) < j ∧ j < 2 ^ 64) ∨ i.natAbs.log2 + j.natAbs.log2 < 1000000) ∧ k (.val (.int (i * j)))
  | .lst xs, .int j => -(2 ^ 63) ≤ j ∧ j < 2 ^ 63 ∧ xs.length * j.toNat ≤ 16777216 ∧ k (.own (.lst (List.replicate j.toNat xs).flatten))
  | .str z, .int j => -(2 ^ 63) ≤ j ∧ j < 2 ^ 63 ∧ z.length * j.toNat ≤ 16777216 ∧ k (.val (.str (mulS z j.toNat)))
  | _, _ => False
def dNeg : DOp1 := fun d k => match d with
  | .int i => k (.val (.int (-i)))
  | _ => False
section
variable {X : Cx} {cl : Nat → Addr}
theorem oI {f : Value → Value → Sem Value} {C : Int → Int → Prop} {g : Int → Int → Int} (h : OpR X f (rI C fun i j => .int (g i j))) : OpR X f (r2 X.K cl (dI2 C g)) := by
  intro pins s σ H x y v u Q I rx ry ⟨F, d, e, Q0, sm, p1, p2, q, P⟩
  cases d with
  | int i =>
    cases e with
    | int j => exact h pins s σ H x y v u Q I rx ry ⟨i, j, p1.int, p2.int, q.1, P.int sm q.2⟩
    | _ => exact q.elim
  | _ => exact q.elim
theorem oI0 {f : Value → Value → Sem Value} {g : Int → Int → Int} (h : OpR X f (rI0 fun i j => .int (g i j))) : OpR X f (r2 X.K cl (dI2 (fun _ _ => True) g)) :=
  oI fun pins s σ H x y v u Q I rx ry ⟨i, j, e1, e2, _, q⟩ => h pins s σ H x y v u Q I rx ry ⟨i, j, e1, e2, q⟩
theorem o_sub : OpR X (binaryOp .Sub) (r2 X.K cl dSub) := oI0 op_sub
theorem o_fdiv : OpR X (binaryOp .FloorDiv) (r2 X.K cl dFdiv) := oI op_fdivW
theorem o_mod : OpR X (binaryOp .Mod) (r2 X.K cl dMod) := oI op_mod
theorem o_pow : OpR X (binaryOp .Pow) (r2 X.K cl dPow) := oI op_pow
theorem o_shl : OpR X (binaryOp .LShift) (r2 X.K cl dShl) := oI op_shl
theorem o_shr : OpR X (binaryOp .RShift) (r2 X.K cl dShr) := oI op_shr
theorem o_and : OpR X (binaryOp .BitAnd) (r2 X.K cl dAnd) := oI0 op_and
theorem o_or : OpR X (binaryOp .BitOr) (r2 X.K cl dOr) := oI0 op_or
theorem o_xor : OpR X (binaryOp .BitXor) (r2 X.K cl dXor) := oI0 op_xor
theorem o_add : OpR X (binaryOp .Add) (r2 X.K cl dAdd) := by
  have hz : sizeLine = 16777216 := sizeLine_eq
  intro pins s σ H x y v u Q I rx ry ⟨F, d, e, Q0, sm, p1, p2, q, P⟩
  cases d with
  | int i =>
    cases e with
    | int j => exact op_add pins s σ H x y v u Q I rx ry ⟨i, j, p1.int, p2.int, P.int sm q⟩
    | _ => exact q.elim
  | str i =>
    cases e with
    | str j => exact op_add_str pins s σ H x y v u Q I rx ry ⟨i, j, p1.str, p2.str, by rw [hz]; exact q.1, P.str sm q.2⟩
    | _ => exact q.elim
  | lst xs =>
    cases e with
    | lst ys =>
      obtain ⟨a, vs, e1, h1, g1⟩ := p1.lst sm
      obtain ⟨b, ws, e2, h2, g2⟩ := p2.lst sm
      exact op_cat pins s σ H x y v u Q I rx ry ⟨a, b, vs, ws, e1, e2, h1, h2, by rw [hz, ← g1.length, ← g2.length]; exact q.1, fun p hp => P.lst sm q.2 (g1.append g2) hp⟩
    | _ => exact q.elim
  | tup xs =>
    cases e with
    | tup ys =>
      obtain ⟨a, vs, e1, h1, g1, z1⟩ := p1.tup sm
      obtain ⟨b, ws, e2, h2, g2, z2⟩ := p2.tup sm
      refine op_catA pins s σ H x y v u Q I rx ry ⟨a, b, vs, ws, e1, e2, SqT.of h1, SqT.of h2, by rw [hz, ← g1.length, ← g2.length]; exact q.1, fun e => ?_, fun _ e => ?_, fun _ _ p hp => P.tup sm q.2 (g1.append g2) hp⟩
      · have e' : xs = [] := by have := g1.length; rw [e] at this; simpa using this
        subst e'
        rw [← e2]
        exact P.val sm (by simpa using q.2) z2
      · have e' : ys = [] := by have := g2.length; rw [e] at this; simpa using this
        subst e'
        rw [← e1]
        exact P.val sm (by simpa using q.2) z1
    | _ => exact q.elim
  | _ => exact q.elim
theorem o_mul : OpR X (binaryOp .Mult) (r2 X.K cl dMul) := by
  have hz : sizeLine = 16777216 := sizeLine_eq
  intro pins s σ H x y v u Q I rx ry ⟨F, d, e, Q0, sm, p1, p2, q, PQ⟩
  cases d with
  | int i =>
    cases e with
    | int j =>
      rcases q.1 with c | c | c
      · exact op_mul pins s σ H x y v u Q I rx ry ⟨i, j, p1.int, p2.int, .inl c, PQ.int sm q.2⟩
      · exact op_mul pins s σ H x y v u Q I rx ry ⟨i, j, p1.int, p2.int, .inr c, PQ.int sm q.2⟩
      · exact op_mulW pins s σ H x y v u Q I rx ry ⟨i, j, p1.int, p2.int, c, PQ.int sm q.2⟩
    | _ => exact q.elim
  | lst xs =>
    cases e with
    | int j =>
      obtain ⟨a, vs, e1, h1, g1⟩ := p1.lst sm
      exact op_rep pins s σ H x y v u Q I rx ry ⟨a, j, vs, e1, p2.int, h1, q.1, q.2.1, by rw [hz, ← g1.length]; exact q.2.2.1, fun p hp => PQ.lst sm q.2.2.2 (g1.rep _) hp⟩
    | _ => exact q.elim
  | str z =>
    cases e with
    | int j =>
      obtain ⟨q1, q2, q3, q4⟩ := q
      have e1 := p1.str
      have e2 := p2.int
      subst e1 e2
      obtain ⟨t, rfl⟩ := rx
      obtain ⟨t2, rfl⟩ := ry
      have fin : ∀ (w : Str) (tk : Tok) (s' : Shared), w = mulS z j.toNat → Inv X pins σ H s' → EP X pins σ Q (.str w tk) s' := fun w tk s' e I' => ⟨.str w, H, I', ⟨_, rfl⟩, by rw [e]; exact PQ.str sm q4⟩
      have hs : sizeLine = 16777216 := sizeLine_eq
      have jn : ((j.toNat : Nat) : Int) = j ∨ j < 1 := by omega
      refine PySem.P.mul_str (by rw [decide_eq_false (by omega), decide_eq_false (by omega)]; rfl) (fun h1 h2 => ?_) (fun h1 h2 => ?_) ?_
      · intro hgt
        have jp : 0 < j := by omega
        have : (z.length : Int) * j ≤ 16777216 := by
          have e : ((z.length * j.toNat : Nat) : Int) = (z.length : Int) * j := by rw [Int.natCast_mul, Int.toNat_of_nonneg (by omega)]
          rw [← e]; omega
        have h3 : (2 ^ 63 - 1 : Int) < (z.length : Int) * j := by
          have := Int.lt_mul_of_ediv_lt jp hgt
          omega
        omega
      · show decide (z.length * j.toNat > sizeLine) = false
        rw [hs]
        simp
        exact q3
      · by_cases c : j < 1
        · rw [if_pos c]
          refine ⟨by decide, fin _ _ _ ?_ (I.tok _)⟩
          have : j.toNat = 0 := by omega
          rw [this]; rfl
        · rw [if_neg c]
          by_cases c2 : (j == 1 || z.length == 0) = true
          · rw [if_pos c2]
            refine fin _ _ _ ?_ I
            simp at c2
            rcases c2 with c2 | c2
            · subst c2
              unfold mulS
              simp
            · have e0 : z.cps = #[] := Array.eq_empty_of_size_eq_zero c2
              unfold mulS
              rw [e0]
              have : ∀ n : Nat, (List.replicate n (#[] : Array Nat)).foldl (· ++ ·) #[] = #[] := fun n => by
                induction n with
                | zero => rfl
                | succ n ih => rw [List.replicate_succ, List.foldl_cons]; simpa using ih
              rw [this, ← e0]
          · rw [if_neg c2]
            refine ⟨?_, fin _ _ _ rfl (I.tok _)⟩
            have : ∀ (n : Nat) (a : Array Nat), ((List.replicate n z.cps).foldl (· ++ ·) a).size = a.size + z.cps.size * n := fun n => by
              induction n with
              | zero => intro a; simp
              | succ n ih => intro a; rw [List.replicate_succ, List.foldl_cons, ih, Array.size_append, Nat.mul_succ]; omega
            show ((List.replicate j.toNat z.cps).foldl (· ++ ·) #[]).size ≤ sizeLine
            rw [this, hs]
            have q3' : z.cps.size * j.toNat ≤ 16777216 := q3
            simpa using q3'
    | _ => exact q.elim
  | _ => exact q.elim
theorem o_neg : UnR X (unaryOp .USub) (r1 X.K cl dNeg) := by
  intro pins s σ H x v Q I rx ⟨F, d, Q0, sm, p1, q, P⟩
  cases d with
  | int i => exact un_neg pins s σ H x v Q I rx ⟨i, p1.int, P.int sm q⟩
  | _ => exact q.elim
end

/-! ### comparisons -/
mutual
/-- == over data -/
def deq : D → D → Bool
  | .non, .non => true
  | .bl a, .bl b => a == b
  | .bl a, .int j => (if a then 1 else 0) == j
  | .int i, .bl b => i == (if b then 1 else 0)
  | .int i, .int j => i == j
  | .str x, .str y => x == y
  | .lst xs, .lst ys => deqL xs ys
  | .lst xs, .rol ys => deqL xs ys
  | .rol xs, .lst ys => deqL xs ys
  | .rol xs, .rol ys => deqL xs ys
  | .tup xs, .tup ys => deqL xs ys
  | .tup xs, .rot ys => deqL xs ys
  | .rot xs, .tup ys => deqL xs ys
  | .rot xs, .rot ys => deqL xs ys
  | _, _ => false
def deqL : List D → List D → Bool
  | [], [] => true
  | x :: xs, y :: ys => deq x y && deqL xs ys
  | _, _ => false
end
mutual
/-- what may be compared: its depth is at most n -/
def eqOk : Nat → D → Bool
  | _, .non => true
  | _, .bl _ => true
  | _, .int _ => true
  | _, .str x => PySem.PyData.strOk x
  | n, .lst xs => match n with
    | 0 => false
    | n + 1 => eqOkL n xs
  | n, .rol xs => match n with
    | 0 => false
    | n + 1 => eqOkL n xs
  | n, .tup xs => match n with
    | 0 => false
    | n + 1 => eqOkL n xs
  | n, .rot xs => match n with
    | 0 => false
    | n + 1 => eqOkL n xs
  | _, _ => false
def eqOkL : Nat → List D → Bool
  | _, [] => true
  | n, x :: xs => eqOk n x && eqOkL n xs
end
mutual
def toP : D → PyData
  | .non => .none
  | .bl b => .bool b
  | .int i => .int i
  | .str x => .str x
  | .lst xs => .list (toPL xs)
  | .rol xs => .list (toPL xs)
  | .tup xs => .tuple (toPL xs)
  | .rot xs => .tuple (toPL xs)
  | _ => .dict []
def toPL : List D → List PyData
  | [] => []
  | x :: xs => toP x :: toPL xs
end
mutual
theorem deq_toP : ∀ (d e : D), deq d e = PyData.eqv (toP d) (toP e)
  | .non, e => by cases e <;> simp [deq, toP, PyData.eqv]
  | .bl _, e => by cases e <;> simp [deq, toP, PyData.eqv]
  | .int _, e => by cases e <;> simp [deq, toP, PyData.eqv]
  | .str _, e => by cases e <;> simp [deq, toP, PyData.eqv]
  | .lst xs, e => by cases e <;> simp [deq, toP, PyData.eqv, deqL_toP xs]
  | .rol xs, e => by cases e <;> simp [deq, toP, PyData.eqv, deqL_toP xs]
  | .tup xs, e => by cases e <;> simp [deq, toP, PyData.eqv, deqL_toP xs]
  | .rot xs, e => by cases e <;> simp [deq, toP, PyData.eqv, deqL_toP xs]
  | .dK _, e => by cases e <;> simp [deq, toP, PyData.eqv]
  | .dT _, e => by cases e <;> simp [deq, toP, PyData.eqv]
  | .obj _ _, e => by cases e <;> simp [deq, toP, PyData.eqv]
  | .ty _, e => by cases e <;> simp [deq, toP, PyData.eqv]
  | .cls _, e => by cases e <;> simp [deq, toP, PyData.eqv]
  | .exo _ _ _, e => by cases e <;> simp [deq, toP, PyData.eqv]
  | .err _ _, e => by cases e <;> simp [deq, toP, PyData.eqv]
  | .fn _ _ _ _ _ _, e => by cases e <;> simp [deq, toP, PyData.eqv]
theorem deqL_toP : ∀ (d e : List D), deqL d e = PyData.eqvAll (toPL d) (toPL e)
  | [], [] => by simp [deqL, toPL, PyData.eqvAll]
  | [], _ :: _ => by simp [deqL, toPL, PyData.eqvAll]
  | _ :: _, [] => by simp [deqL, toPL, PyData.eqvAll]
  | x :: xs, y :: ys => by simp [deqL, toPL, PyData.eqvAll, deq_toP x y, deqL_toP xs ys]
end
mutual
theorem eqOk_lay : ∀ (n : Nat) (d : D), eqOk n d = true → (toP d).canLay0 = true ∧ (toP d).depth ≤ n
  | n, .non, _ => by simp [toP, PyData.canLay0, PyData.depth]
  | n, .bl _, _ => by simp [toP, PyData.canLay0, PyData.depth]
  | n, .int _, _ => by simp [toP, PyData.canLay0, PyData.depth]
  | n, .str x, h => by simpa [toP, PyData.canLay0, PyData.depth, eqOk] using h
  | 0, .lst xs, h => by simp [eqOk] at h
  | n + 1, .lst xs, h => by
    have q := eqOkL_lay n xs (by simpa [eqOk] using h)
    simpa [toP, PyData.canLay0, PyData.depth] using q
  | 0, .rol xs, h => by simp [eqOk] at h
  | n + 1, .rol xs, h => by
    have q := eqOkL_lay n xs (by simpa [eqOk] using h)
    simpa [toP, PyData.canLay0, PyData.depth] using q
  | 0, .tup xs, h => by simp [eqOk] at h
  | n + 1, .tup xs, h => by
    have q := eqOkL_lay n xs (by simpa [eqOk] using h)
    simpa [toP, PyData.canLay0, PyData.depth] using q
  | 0, .rot xs, h => by simp [eqOk] at h
  | n + 1, .rot xs, h => by
    have q := eqOkL_lay n xs (by simpa [eqOk] using h)
    simpa [toP, PyData.canLay0, PyData.depth] using q
  | _, .dK _, h => by simp [eqOk] at h
  | _, .dT _, h => by simp [eqOk] at h
  | _, .obj _ _, h => by simp [eqOk] at h
  | _, .ty _, h => by simp [eqOk] at h
  | _, .cls _, h => by simp [eqOk] at h
  | _, .exo _ _ _, h => by simp [eqOk] at h
  | _, .err _ _, h => by simp [eqOk] at h
  | _, .fn _ _ _ _ _ _, h => by simp [eqOk] at h
theorem eqOkL_lay : ∀ (n : Nat) (ds : List D), eqOkL n ds = true → PyData.canLayAll0 (toPL ds) = true ∧ PyData.depthAll (toPL ds) ≤ n
  | n, [], _ => by simp [toPL, PyData.canLayAll0, PyData.depthAll]
  | n, x :: xs, h => by
    have h' : eqOk n x = true ∧ eqOkL n xs = true := by simpa [eqOkL] using h
    have a := eqOk_lay n x h'.1
    have b := eqOkL_lay n xs h'.2
    simp only [toPL, PyData.canLayAll0, PyData.depthAll, a.1, b.1, Bool.and_self, true_and]
    omega
end
theorem eqOk_shaped {d : D} (h : eqOk 64 d = true) : SeqAt.shaped (toP d) = true := by
  obtain ⟨a, b⟩ := eqOk_lay 64 d h
  unfold SeqAt.shaped
  rw [a, decide_eq_true b]; rfl
section
variable {K : PySem.W.Frag} {cl : Nat → Addr} {F H : Hp}
mutual
theorem Rep.dp (s : Same F H) : ∀ (n : Nat) (d : D) (v : V), Rep K cl F d v → eqOk n d = true → Dp K H v (toP d)
  | _, .non, v, h, _ => by rw [Rep] at h; subst h; rw [toP]; exact .non
  | _, .bl b, v, h, _ => by rw [Rep] at h; subst h; rw [toP]; exact .bl b
  | _, .int b, v, h, _ => by rw [Rep] at h; subst h; rw [toP]; exact .int b
  | _, .str b, v, h, _ => by rw [Rep] at h; subst h; rw [toP]; exact .str b
  | 0, .lst xs, v, _, k => by simp [eqOk] at k
  | n + 1, .lst xs, v, h, k => by
    rw [Rep] at h; obtain ⟨a, vs, rfl, h1, h2⟩ := h; rw [toP]
    exact .lst (SqL.of (s _ _ h1)) (RepL.dp s n xs vs h2 (by simpa [eqOk] using k))
  | 0, .rol xs, v, _, k => by simp [eqOk] at k
  | n + 1, .rol xs, v, h, k => by
    rw [Rep] at h; obtain ⟨a, vs, rfl, h1, h2⟩ := h; rw [toP]
    exact .lst (s.seq h1) (RepL.dp s n xs vs h2 (by simpa [eqOk] using k))
  | 0, .tup xs, v, _, k => by simp [eqOk] at k
  | n + 1, .tup xs, v, h, k => by
    rw [Rep] at h; obtain ⟨a, vs, rfl, h1, h2⟩ := h; rw [toP]
    exact .tup (SqT.of (s _ _ h1)) (RepL.dp s n xs vs h2 (by simpa [eqOk] using k))
  | 0, .rot xs, v, _, k => by simp [eqOk] at k
  | n + 1, .rot xs, v, h, k => by
    rw [Rep] at h; obtain ⟨a, vs, rfl, h1, h2⟩ := h; rw [toP]
    exact .tup (Same.sqt s h1) (RepL.dp s n xs vs h2 (by simpa [eqOk] using k))
  | _, .dK _, _, _, k => by simp [eqOk] at k
  | _, .dT _, _, _, k => by simp [eqOk] at k
  | _, .obj _ _, _, _, k => by simp [eqOk] at k
  | _, .ty _, _, _, k => by simp [eqOk] at k
  | _, .cls _, _, _, k => by simp [eqOk] at k
  | _, .exo _ _ _, _, _, k => by simp [eqOk] at k
  | _, .err _ _, _, _, k => by simp [eqOk] at k
  | _, .fn _ _ _ _ _ _, _, _, k => by simp [eqOk] at k
theorem RepL.dp (s : Same F H) : ∀ (n : Nat) (ds : List D) (vs : List V), RepL K cl F ds vs → eqOkL n ds = true → DpAll K H vs (toPL ds)
  | _, [], vs, h, _ => by rw [RepL] at h; subst h; rw [toPL]; exact .nil
  | n, x :: xs, vs, h, k => by
    rw [RepL] at h
    obtain ⟨v, r, rfl, h1, h2⟩ := h
    have k' : eqOk n x = true ∧ eqOkL n xs = true := by simpa [eqOkL] using k
    rw [toPL]
    exact .cons (Rep.dp s n x v h1 k'.1) (RepL.dp s n xs r h2 k'.2)
end
theorem Pk.dp {d : D} {v : V} (p : Pk K cl F H d v) (s : Same F H) {n : Nat} (k : eqOk n d = true) : Dp K H v (toP d) := by
  rcases p with p | ⟨o, a, fq, rfl, rfl, c, _⟩
  · exact Rep.dp s n d v p k
  · cases o with
    | lst xs =>
      obtain ⟨_, vs, h1, h2⟩ := c
      rw [frzO] at k ⊢
      cases n with
      | zero => simp [eqOk] at k
      | succ n =>
        rw [toP]
        exact .lst (SqL.of h1) (RepL.dp s n xs vs h2 (by simpa [eqOk] using k))
    | box kd es => exact False.elim c
    | two d xs => exact False.elim c
    | _ => simp [frzO, eqOk] at k
end
/-- the scalars that == tells apart as they stand -/
def scalD : D → D → Bool
  | .non, .non => true | .non, .int _ => true | .int _, .non => true | .non, .bl _ => true | .bl _, .non => true | .non, .str _ => true | .str _, .non => true
  | .int _, .int _ => true | .bl _, .bl _ => true | .str _, .str _ => true
  | .int _, .str _ => true | .str _, .int _ => true | .bl _, .str _ => true | .str _, .bl _ => true
  | _, _ => false
def cmpOk (d e : D) : Prop := scalD d e = true ∨ (eqOk 64 d = true ∧ eqOk 64 e = true)
def dEq : DOp2 := fun d e k => cmpOk d e ∧ k (.val (.bl (deq d e)))
def dNe : DOp2 := fun d e k => cmpOk d e ∧ k (.val (.bl (!deq d e)))
def dC2 (g : Int → Int → Bool) : DOp2 := fun d e k => match d, e with
  | .int i, .int j => k (.val (.bl (g i j)))
  | _, _ => False
def dLt : DOp2 := fun d e k => match d, e with
  | .int i, .int j => k (.val (.bl (decide (i < j))))
  | .str x, .str y => k (.val (.bl (decide (x.cps.toList < y.cps.toList))))
  | _, _ => False
def dLe : DOp2 := dC2 fun i j => decide (i ≤ j)
def dGt : DOp2 := fun d e k => match d, e with
  | .int i, .int j => k (.val (.bl (decide (j < i))))
  | .str x, .str y => k (.val (.bl (decide (y.cps.toList < x.cps.toList))))
  | _, _ => False
def dGe : DOp2 := dC2 fun i j => decide (j ≤ i)
def isNonD : D → Bool
  | .non => true
  | _ => false
def dIsN : DOp2 := fun d e k => match e with
  | .non => k (.val (.bl (isNonD d)))
  | _ => False
def dNotN : DOp2 := fun d e k => match e with
  | .non => k (.val (.bl (!isNonD d)))
  | _ => False
section
variable {X : Cx} {cl : Nat → Addr}
theorem scal_of {F H : Hp} {d e : D} {x y : V} (p1 : Pk X.K cl F H d x) (p2 : Pk X.K cl F H e y) (h : scalD d e = true) : scal x y = true ∧ decide (x = y) = deq d e := by
  cases d with
  | non =>
    have e1 := p1.non; subst e1
    cases e with
    | non => have e2 := p2.non; subst e2; exact ⟨rfl, by simp [deq]⟩
    | int j => have e2 := p2.int; subst e2; exact ⟨rfl, by simp [deq]⟩
    | bl j => have e2 := p2.bl; subst e2; exact ⟨rfl, by simp [deq]⟩
    | str j => have e2 := p2.str; subst e2; exact ⟨rfl, by simp [deq]⟩
    | _ => simp [scalD] at h
  | bl i =>
    have e1 := p1.bl; subst e1
    cases e with
    | non => have e2 := p2.non; subst e2; exact ⟨rfl, by simp [deq]⟩
    | bl j => have e2 := p2.bl; subst e2; exact ⟨rfl, by rw [dec_bl]; simp [deq]⟩
    | str j => have e2 := p2.str; subst e2; exact ⟨rfl, by simp [deq]⟩
    | _ => simp [scalD] at h
  | int i =>
    have e1 := p1.int; subst e1
    cases e with
    | non => have e2 := p2.non; subst e2; exact ⟨rfl, by simp [deq]⟩
    | int j => have e2 := p2.int; subst e2; exact ⟨rfl, by rw [dec_int]; simp [deq]⟩
    | str j => have e2 := p2.str; subst e2; exact ⟨rfl, by simp [deq]⟩
    | _ => simp [scalD] at h
  | str i =>
    have e1 := p1.str; subst e1
    cases e with
    | non => have e2 := p2.non; subst e2; exact ⟨rfl, by simp [deq]⟩
    | bl j => have e2 := p2.bl; subst e2; exact ⟨rfl, by simp [deq]⟩
    | int j => have e2 := p2.int; subst e2; exact ⟨rfl, by simp [deq]⟩
    | str j => have e2 := p2.str; subst e2; exact ⟨rfl, by rw [dec_str]; simp [deq]⟩
    | _ => simp [scalD] at h
  | _ => simp [scalD] at h
theorem o_eq (hu : X.A.units + 64 < cLine) : OpR X (compareOp .Eq) (r2 X.K cl dEq) := by
  intro pins s σ H x y v u Q I rx ry ⟨F, d, e, Q0, sm, p1, p2, q, P⟩
  rcases q.1 with c | ⟨c1, c2⟩
  · obtain ⟨z1, z2⟩ := scal_of p1 p2 c
    exact op_eq pins s σ H x y v u Q I rx ry ⟨z1, by rw [z2]; exact P.bl sm q.2⟩
  · exact op_eqD hu pins s σ H x y v u Q I rx ry ⟨toP d, toP e, p1.dp sm c1, p2.dp sm c2, eqOk_shaped c1, eqOk_shaped c2, by rw [← deq_toP]; exact P.bl sm q.2⟩
theorem o_ne (hu : X.A.units + 64 < cLine) : OpR X (compareOp .NotEq) (r2 X.K cl dNe) := by
  intro pins s σ H x y v u Q I rx ry ⟨F, d, e, Q0, sm, p1, p2, q, P⟩
  rcases q.1 with c | ⟨c1, c2⟩
  · obtain ⟨z1, z2⟩ := scal_of p1 p2 c
    exact op_ne pins s σ H x y v u Q I rx ry ⟨z1, by rw [z2]; exact P.bl sm q.2⟩
  · exact op_neD hu pins s σ H x y v u Q I rx ry ⟨toP d, toP e, p1.dp sm c1, p2.dp sm c2, eqOk_shaped c1, eqOk_shaped c2, by rw [← deq_toP]; exact P.bl sm q.2⟩
theorem oC {f : Value → Value → Sem Value} {g : Int → Int → Bool} (h : OpR X f (rI0 fun i j => .bl (g i j))) : OpR X f (r2 X.K cl (dC2 g)) := by
  intro pins s σ H x y v u Q I rx ry ⟨F, d, e, Q0, sm, p1, p2, q, P⟩
  cases d with
  | int i =>
    cases e with
    | int j => exact h pins s σ H x y v u Q I rx ry ⟨i, j, p1.int, p2.int, P.bl sm q⟩
    | _ => exact q.elim
  | _ => exact q.elim
theorem o_le : OpR X (compareOp .LtE) (r2 X.K cl dLe) := oC op_le
theorem o_ge : OpR X (compareOp .GtE) (r2 X.K cl dGe) := oC op_ge
theorem o_lt : OpR X (compareOp .Lt) (r2 X.K cl dLt) := by
  intro pins s σ H x y v u Q I rx ry ⟨F, d, e, Q0, sm, p1, p2, q, P⟩
  cases d with
  | int i =>
    cases e with
    | int j => exact op_lt pins s σ H x y v u Q I rx ry ⟨i, j, p1.int, p2.int, P.bl sm q⟩
    | _ => exact q.elim
  | str i =>
    cases e with
    | str j => exact op_lt_str pins s σ H x y v u Q I rx ry ⟨i, j, p1.str, p2.str, P.bl sm q⟩
    | _ => exact q.elim
  | _ => exact q.elim
theorem o_gt : OpR X (compareOp .Gt) (r2 X.K cl dGt) := by
  intro pins s σ H x y v u Q I rx ry ⟨F, d, e, Q0, sm, p1, p2, q, P⟩
  cases d with
  | int i =>
    cases e with
    | int j => exact op_gt pins s σ H x y v u Q I rx ry ⟨i, j, p1.int, p2.int, P.bl sm q⟩
    | _ => exact q.elim
  | str i =>
    cases e with
    | str j => exact op_gt_str pins s σ H x y v u Q I rx ry ⟨i, j, p1.str, p2.str, P.bl sm q⟩
    | _ => exact q.elim
  | _ => exact q.elim
theorem isN_of {F H : Hp} {d : D} {x : V} (p : Pk X.K cl F H d x) : decide (x = .non) = isNonD d := by
  rcases p with p | ⟨o, a, fq, rfl, rfl, c, _⟩
  · cases d <;> rw [Rep] at p
    case non => subst p; simp [isNonD]
    case bl => subst p; simp [isNonD]
    case int => subst p; simp [isNonD]
    case str => subst p; simp [isNonD]
    case ty => subst p; simp [isNonD]
    case cls => subst p; simp [isNonD]
    case obj => obtain ⟨a, dx, ws, rfl, _⟩ := p; simp [isNonD]
    case exo => obtain ⟨rfl, _⟩ := p; simp [isNonD]
    case err => obtain ⟨a, dx, ws, rfl, _⟩ := p; simp [isNonD]
    case fn => obtain ⟨rfl, _⟩ := p; simp [isNonD]
    case dK => obtain ⟨a, o, vs, rfl, _⟩ := p; simp [isNonD]
    all_goals (obtain ⟨a, vs, rfl, _⟩ := p; simp [isNonD])
  · cases o <;> first | exact False.elim c | simp [frzO, isNonD]
theorem o_isN : OpR X (compareOp .Is) (r2 X.K cl dIsN) := by
  intro pins s σ H x y v u Q I rx ry ⟨F, d, e, Q0, sm, p1, p2, q, P⟩
  cases e with
  | non => exact op_isN pins s σ H x y v u Q I rx ry ⟨p2.non, by rw [isN_of p1]; exact P.bl sm q⟩
  | _ => exact q.elim
theorem o_notN : OpR X (compareOp .IsNot) (r2 X.K cl dNotN) := by
  intro pins s σ H x y v u Q I rx ry ⟨F, d, e, Q0, sm, p1, p2, q, P⟩
  cases e with
  | non => exact op_notN pins s σ H x y v u Q I rx ry ⟨p2.non, by rw [isN_of p1]; exact P.bl sm q⟩
  | _ => exact q.elim
end
end Mv

/-! Mv: displays, items, slices, built-in calls, loops. -/
namespace Mv
open PySem L2

/-! ### displays -/
def valsOf : List R → (List D → Prop) → Prop
  | [], k => k []
  | .val d :: rs, k => valsOf rs fun ds => k (d :: ds)
  | _ :: _, _ => False
def mTup (ma : MA) : ME := fun E Q S => ma E (fun rs S1 => valsOf rs fun ds => ds.length ≤ 16777216 ∧ Q (.val (.tup ds)) S1) S
def mLst (ma : MA) : ME := fun E Q S => ma E (fun rs S1 => valsOf rs fun ds => ds.length ≤ 16777216 ∧ Q (.own (.lst ds)) S1) S
section
variable {K : PySem.W.Frag} {cl : Nat → Addr} {F H : Hp} {σ : L2.St}
theorem valsOf_rep : ∀ {rs : List R} {vs : List V} {k : List D → Prop}, RelAs K cl F σ rs vs → valsOf rs k → ∃ ds, RepL K cl F ds vs ∧ k ds
  | [], _, _, h, q => ⟨[], by have e : _ = _ := h; subst e; exact .nil, q⟩
  | .val d :: rs, _, _, ⟨v, us, e, h, t⟩, q => by
    subst e
    obtain ⟨ds, h1, h2⟩ := valsOf_rep t q
    exact ⟨d :: ds, .cons h h1, h2⟩
  | .own d :: rs, _, _, _, q => q.elim
  | .slot d :: rs, _, _, _, q => q.elim
/-- what follows a state, as a wish about new objects -/
theorem post_of {S0 S : Fm} {F0 H0 : Hp} {fp0 fp : Nat → List Addr} {Q0 : R → Fm → Prop} {Q : VK} (E : EnvR K cl F H σ S fp) (st : Stp F0 H0 S0 fp0 F H S fp)
    (k : ∀ r S', Q0 r S' → ∀ v F' H' fp', Stp F0 H0 S0 fp0 F' H' S' fp' → EnvR K cl F' H' σ S' fp' → RelR K cl H0 S0 fp0 F' H' σ S' fp' r v → Q v H') : Post0 K cl F H (fun r => Q0 r S) Q :=
  ⟨E.tb, fun r hr z F' H' sm rs => k r S hr z F' H' fp (st.trans sm.step) (E.smallW sm) (rs.rel E st)⟩
end
section
variable {X : Cx} {cl : Nat → Addr} {W : WX} {pin : List Nat} {es : List Expr} {ma : MA} {pos : Pos}
theorem qTup {x1} (h : PMA X cl W pin es ma) : PM X cl W pin (.Tuple es x1 pos) (mTup ma) := PE.imp (pe_tup h) fun σ H Q ⟨S, F, fp, E0, Q0, E, h2, x, k⟩ =>
  LA.mk E h2 x fun rs S1 vs F1 H1 fp1 q1 st1 e1 rr1 x1 => by
    obtain ⟨ds, r, hl, q⟩ := valsOf_rep rr1 q1
    exact ⟨by rw [sizeLine_eq, ← r.length]; exact hl, fun p hp => (post_of e1 st1 k).tup e1.sub q r hp⟩
theorem qLst (h : PMA X cl W pin es ma) : PM X cl W pin (.List es pos) (mLst ma) := PE.imp (pe_lst h) fun σ H Q ⟨S, F, fp, E0, Q0, E, h2, x, k⟩ =>
  LA.mk E h2 x fun rs S1 vs F1 H1 fp1 q1 st1 e1 rr1 x1 => by
    obtain ⟨ds, r, hl, q⟩ := valsOf_rep rr1 q1
    exact ⟨by rw [sizeLine_eq, ← r.length]; exact hl, fun p hp => (post_of e1 st1 k).lst e1.sub q r hp⟩
end

/-! ### items, slices -/
def dIx : DOp2 := fun d e k => match d, e with
  | .lst xs, .int i => ∃ x, atI xs i = some x ∧ k (.val x)
  | .rol xs, .int i => ∃ x, atI xs i = some x ∧ k (.val x)
  | .tup xs, .int i => ∃ x, atI xs i = some x ∧ k (.val x)
  | .rot xs, .int i => ∃ x, atI xs i = some x ∧ k (.val x)
  | .str z, .int i => z.length ≤ 16777216 ∧ ∃ c, atI z.cps.toList i = some c ∧ k (.val (.str ⟨#[c]⟩))
  | _, _ => False
def cutD {α : Type} (xs : List α) (lo hi : Option Int) : List α := (xs.drop (HT.sIx xs.length 0 lo)).take (HT.sIx xs.length xs.length hi - HT.sIx xs.length 0 lo)
abbrev MO := EX → (Option Int → Fm → Prop) → Fm → Prop
def moN : MO := fun _ Q S => Q none S
def moS (m : ME) : MO := fun E Q S => m E (fun r S1 => match r with
  | .val (.int i) => Q (some i) S1
  | _ => False) S
def dSl (d : D) (lo hi : Option Int) (k : R → Prop) : Prop := match d with
  | .lst xs => k (.own (.lst (cutD xs lo hi)))
  | .rol xs => k (.own (.lst (cutD xs lo hi)))
  | .tup xs => k (.val (.tup (cutD xs lo hi)))
  | .str z => z.length ≤ 16777216 ∧ k (.val (.str (cutS z lo hi)))
  | _ => False
def mSl (a : ME) (lo hi : MO) : ME := fun E Q S => a E (fun x S1 => lo E (fun l S2 => hi E (fun h S3 => pkQ S3 (fzR x) fun d => dSl d l h fun r => Q r S3) S2) S1) S
section
variable {K : PySem.W.Frag} {cl : Nat → Addr} {F : Hp}
theorem RepL.atI {ds : List D} {vs : List V} {i : Int} {x : D} (r : RepL K cl F ds vs) (h : L2.atI ds i = some x) : ∃ v, L2.atI vs i = some v ∧ Rep K cl F x v := by
  unfold L2.atI at h ⊢
  rw [r.length] at h
  cases e : ixN vs.length i with
  | none => rw [e] at h; cases h
  | some j =>
    rw [e] at h
    obtain ⟨v, h1, h2⟩ := r.get (i := j) (by simpa using h)
    exact ⟨v, by simpa using h1, h2⟩
theorem RepL.cut {ds : List D} {vs : List V} (lo hi : Option Int) (r : RepL K cl F ds vs) : RepL K cl F (cutD ds lo hi) (cutV vs lo hi) := by
  unfold cutD cutV
  rw [r.length]
  exact (r.drop _).take _
end
section
variable {X : Cx} {cl : Nat → Addr} {W : WX} {pin : List Nat} {a b : Expr} {ma mb : ME} {pos : Pos}
theorem ix_any : IxR X (r2 X.K cl dIx) := by
  have hz : sizeLine = 16777216 := sizeLine_eq
  intro vl sl pins s σ H x y v u Q I rx ry ⟨F, d, e, Q0, sm, p1, p2, q, P⟩ hsub
  cases d with
  | lst xs =>
    cases e with
    | int i =>
      obtain ⟨x, h1, h2⟩ := q
      obtain ⟨a, vs, e1, g1, g2⟩ := p1.lst sm
      obtain ⟨w, h3, h4⟩ := g2.atI h1
      exact ix_list vl sl pins s σ H _ _ v u Q I rx ry ⟨a, vs, i, w, e1, p2.int, SqL.of g1, h3, P.val sm h2 h4⟩ hsub
    | _ => exact q.elim
  | rol xs =>
    cases e with
    | int i =>
      obtain ⟨x, h1, h2⟩ := q
      obtain ⟨a, vs, e1, g1, g2⟩ := p1.rol sm
      obtain ⟨w, h3, h4⟩ := g2.atI h1
      exact ix_list vl sl pins s σ H _ _ v u Q I rx ry ⟨a, vs, i, w, e1, p2.int, g1, h3, P.val sm h2 h4⟩ hsub
    | _ => exact q.elim
  | tup xs =>
    cases e with
    | int i =>
      obtain ⟨x, h1, h2⟩ := q
      obtain ⟨a, vs, e1, g1, g2, _⟩ := p1.tup sm
      obtain ⟨w, h3, h4⟩ := g2.atI h1
      exact ix_tup vl sl pins s σ H _ _ v u Q I rx ry ⟨a, vs, i, w, e1, p2.int, SqT.of g1, h3, P.val sm h2 h4⟩ hsub
    | _ => exact q.elim
  | rot xs =>
    cases e with
    | int i =>
      obtain ⟨x, h1, h2⟩ := q
      obtain ⟨a, vs, e1, g1, g2, _⟩ := p1.rot sm
      obtain ⟨w, h3, h4⟩ := g2.atI h1
      exact ix_tup vl sl pins s σ H _ _ v u Q I rx ry ⟨a, vs, i, w, e1, p2.int, g1, h3, P.val sm h2 h4⟩ hsub
    | _ => exact q.elim
  | str z =>
    cases e with
    | int i =>
      obtain ⟨h0, c, h1, h2⟩ := q
      exact ix_str vl sl pins s σ H _ _ v u Q I rx ry ⟨z, i, c, p1.str, p2.int, by rw [hz]; exact h0, h1, P.str sm h2⟩ hsub
    | _ => exact q.elim
  | _ => exact q.elim
theorem qIx (ha : PM X cl W pin a ma) (hb : PM X cl W pin b mb) (hs : PlainIx b := by intro _ _; rfl) : PM X cl W pin (.Subscript a b pos) (mBin dIx ma mb) :=
  PE.imp (pe_ix ix_any ha hb hs) fun _ _ _ h => le_bin h
def LO (K : PySem.W.Frag) (cl : Nat → Addr) (W : WX) (pin : List Nat) (m : MO) : TO := fun σ H Q => ∃ S F fp E0 Q0, EnvR K cl F H σ S fp ∧ m E0 Q0 S ∧ Exl K cl W pin σ F H S fp E0 ∧
  ∀ r S', Q0 r S' → ∀ F' H' fp', Stp F H S fp F' H' S' fp' → EnvR K cl F' H' σ S' fp' → Q r H'
abbrev PMO (X : Cx) (cl : Nat → Addr) (W : WX) (pin : List Nat) (e : Option Expr) (m : MO) : Prop := PO X e (LO X.K cl W pin m)
theorem PO.imp {e : Option Expr} {t u : TO} (h : PO X e t) (i : ∀ σ H Q, u σ H Q → t σ H Q) : PO X e u := ⟨fun pins s σ H Q I hw => h.run pins s σ H Q I (i σ H Q hw)⟩
theorem oN : PMO X cl W pin none moN := PO.imp po_none fun σ H Q ⟨S, F, fp, E0, Q0, E, h2, x, k⟩ => k none S h2 F H fp Stp.refl E
theorem oS {e : Expr} {m : ME} (h : PM X cl W pin e m) : PMO X cl W pin (some e) (moS m) := PO.imp (po_some h) fun σ H Q ⟨S, F, fp, E0, Q0, E, h2, x, k⟩ =>
  LE.mk E h2 x fun r S1 v F1 H1 fp1 q1 st1 e1 rr x1 => by
    cases r with
    | val d =>
      cases d with
      | int i =>
        have e2 : v = V.int i := by have z : Rep X.K cl F1 (.int i) v := rr; rwa [Rep] at z
        exact ⟨i, e2, k _ _ q1 F1 H1 fp1 st1 e1⟩
      | _ => exact q1.elim
    | _ => exact q1.elim
def rSlD (K : PySem.W.Frag) (cl : Nat → Addr) : V → Option Int → Option Int → Hp → VK → Prop := fun x lo hi H Q => ∃ F d Q0, Same F H ∧ Pk K cl F H d x ∧ dSl d lo hi Q0 ∧ Post0 K cl F H Q0 Q
theorem sl_any : SlR X (rSlD X.K cl) := by
  have hz : sizeLine = 16777216 := sizeLine_eq
  intro pins s σ H x v vl vu lo hi sl Q I rx hs pl pu ⟨F, d, Q0, sm, p1, q, P⟩
  cases d with
  | lst xs =>
    obtain ⟨a, vs, e1, g1, g2⟩ := p1.lst sm
    exact sl_list pins s σ H x v vl vu lo hi sl Q I rx hs pl pu ⟨a, vs, e1, SqL.of g1, fun p hp => P.lst sm q (g2.cut lo hi) hp⟩
  | rol xs =>
    obtain ⟨a, vs, e1, g1, g2⟩ := p1.rol sm
    exact sl_list pins s σ H x v vl vu lo hi sl Q I rx hs pl pu ⟨a, vs, e1, g1, fun p hp => P.lst sm q (g2.cut lo hi) hp⟩
  | tup xs =>
    obtain ⟨a, vs, e1, g1, g2, z1⟩ := p1.tup sm
    refine sl_tupA pins s σ H x v vl vu lo hi sl Q I rx hs pl pu ⟨a, vs, e1, SqT.of g1, fun h => ?_, fun _ p hp => P.tup sm q (g2.cut lo hi) hp⟩
    have e : cutD xs lo hi = xs := by
      unfold cutD
      rw [g2.length, h.1, h.2, ← g2.length]
      simp
    rw [← e1]
    exact P.val sm (by rw [← e]; exact q) z1
  | str z => exact sl_str pins s σ H x v vl vu lo hi sl Q I rx hs pl pu ⟨z, p1.str, by rw [hz]; exact q.1, P.str sm q.2⟩
  | _ => exact q.elim
theorem qSl {lo hi : Option Expr} {ml mh : MO} {p2 : Pos} (ha : PM X cl W pin a ma) (hl : PMO X cl W pin lo ml) (hh : PMO X cl W pin hi mh) : PM X cl W pin (.Subscript a (.Slice lo hi none p2) pos) (mSl ma ml mh) :=
  PE.imp (pe_slice sl_any ha hl hh) fun σ H Q ⟨S, F, fp, E0, Q0, E, h2, x, k⟩ => LE.mk E h2 x fun r1 S1 v1 F1 H1 fp1 q1 st1 e1 rr1 x1 => by
    obtain ⟨G1, e1', st1', sg, ra1⟩ := RelR.ready e1 st1 rr1
    have x1' : Exl X.K cl W pin σ G1 H1 S1 fp1 E0 := x.step st1' fun _ _ => rfl
    refine ⟨S1, G1, fp1, E0, _, e1', q1, x1', fun l S2 q2 F2 H2 fp2 st2 e2 => ?_⟩
    have x2' : Exl X.K cl W pin σ F2 H2 S2 fp2 E0 := x1'.step st2 fun _ _ => rfl
    refine ⟨S2, F2, fp2, E0, _, e2, q2, x2', fun h S3 q3 F3 H3 fp3 st3 e3 => ?_⟩
    obtain ⟨d, p1, q4⟩ := (ra1.mono (st2.ff.trans st3.ff)).pk e3 q3
    exact ⟨F3, d, _, e3.sub, p1, q4, post_of e3 (st1'.trans (st2.trans st3)) k⟩
end

/-! ### built-in calls -/
def d1 (f : D → (R → Prop) → Prop) : DOpL := fun ds k => match ds with
  | [d] => f d k
  | _ => False
def d2 (f : D → D → (R → Prop) → Prop) : DOpL := fun ds k => match ds with
  | [d, e] => f d e k
  | _ => False
def dLen : DOpL := d1 fun d k => match d with
  | .lst xs => k (.val (.int xs.length))
  | .rol xs => k (.val (.int xs.length))
  | .tup xs => k (.val (.int xs.length))
  | .rot xs => k (.val (.int xs.length))
  | .str z => z.length ≤ 16777216 ∧ k (.val (.int z.length))
  | .dK kvs => k (.val (.int kvs.length))
  | _ => False
def dInt : DOpL := d1 fun d k => match d with
  | .int i => k (.val (.int i))
  | .bl b => k (.val (.int (if b then 1 else 0)))
  | _ => False
def dMax2 : DOpL := d2 fun d e k => match d, e with
  | .int i, .int j => k (.val (.int (if j > i then j else i)))
  | _, _ => False
def dMin2 : DOpL := d2 fun d e k => match d, e with
  | .int i, .int j => k (.val (.int (if j < i then j else i)))
  | _, _ => False
def dAbs : DOpL := d1 fun d k => match d with
  | .int i => k (.val (.int (if i < 0 then -i else i)))
  | _ => False
def dList : DOpL := d1 fun d k => match d with
  | .lst xs => k (.own (.lst xs))
  | .rol xs => k (.own (.lst xs))
  | .tup xs => k (.own (.lst xs))
  | .rot xs => k (.own (.lst xs))
  | _ => False
def dTuple : DOpL := d1 fun d k => match d with
  | .lst xs => k (.val (.tup xs))
  | .rol xs => k (.val (.tup xs))
  | .tup xs => k (.val (.tup xs))
  | _ => False
def dSum : DOpL := d1 fun d k => match d with
  | .lst xs => ∃ ns : List Int, xs = ns.map D.int ∧ k (.val (.int ns.sum))
  | .rol xs => ∃ ns : List Int, xs = ns.map D.int ∧ k (.val (.int ns.sum))
  | _ => False
def dAll : DOpL := d1 fun d k => match d with
  | .lst xs => ∃ ns : List Bool, xs = ns.map D.bl ∧ k (.val (.bl (ns.all id)))
  | _ => False
def tyN : D → String
  | .non => "NoneType"
  | .bl _ => "bool"
  | .int _ => "int"
  | .str _ => "str"
  | .tup _ => "tuple"
  | .rot _ => "tuple"
  | .lst _ => "list"
  | .rol _ => "list"
  | .dK _ => "dict"
  | .dT _ => "dict"
  | _ => ""
def isTy (d : D) (n : String) : Bool := tyN d == n || (tyN d == "bool" && n == "int")
def tyKnown (n : String) : Bool := n == "int" || n == "bool" || n == "str" || n == "tuple" || n == "list" || n == "dict"
def dIsi : DOpL := d2 fun d e k => match e with
  | .ty n => tyKnown n = true ∧ tyN d ≠ "" ∧ k (.val (.bl (isTy d n)))
  | .tup [.ty n, .ty m] => tyKnown n = true ∧ tyKnown m = true ∧ tyN d ≠ "" ∧ k (.val (.bl (isTy d n || isTy d m)))
  | _ => False
section
variable {X : Cx} {cl : Nat → Addr}
theorem c1 {f : Value} {g : D → (R → Prop) → Prop} (h : ∀ (pins : List (Addr × Obj)) (s : Shared) (σ : L2.St) (H : Hp) (v : V) (u : Value) (Q : VK) (F : Hp) (d : D) (Q0 : R → Prop), Inv X pins σ H s → Vals [v] [u] → Same F H → Pk X.K cl F H d v → g d Q0 → Post0 X.K cl F H Q0 Q →
    wpAny (model X.prog X.w) X.A (call f [u]) (EP X pins σ Q) X.xe s) : CallR X f (rL X.K cl (d1 g)) := by
  intro pins s σ H xs us Q I r ⟨F, ds, Q0, sm, p, q, P⟩
  match ds, q, p with
  | [d], q, p =>
    obtain ⟨v, rfl, p1⟩ := p.one
    obtain ⟨u, rfl, ru⟩ := vals1 r
    exact h pins s σ H v u Q F d Q0 I r sm p1 q P
theorem c2 {f : Value} {g : D → D → (R → Prop) → Prop} (h : ∀ (pins : List (Addr × Obj)) (s : Shared) (σ : L2.St) (H : Hp) (v w : V) (us : List Value) (Q : VK) (F : Hp) (d e : D) (Q0 : R → Prop), Inv X pins σ H s → Vals [v, w] us → Same F H → Pk X.K cl F H d v → Pk X.K cl F H e w → g d e Q0 → Post0 X.K cl F H Q0 Q →
    wpAny (model X.prog X.w) X.A (call f us) (EP X pins σ Q) X.xe s) : CallR X f (rL X.K cl (d2 g)) := by
  intro pins s σ H xs us Q I r ⟨F, ds, Q0, sm, p, q, P⟩
  match ds, q, p with
  | [d, e], q, p =>
    obtain ⟨v, w, rfl, p1, p2⟩ := p.two
    exact h pins s σ H v w us Q F d e Q0 I r sm p1 p2 q P
theorem b_len : CallR X (.builtin "len") (rL X.K cl dLen) := c1 fun pins s σ H v u Q F d Q0 I r sm p q P => by
  have hz : sizeLine = 16777216 := sizeLine_eq
  cases d with
  | lst xs =>
    obtain ⟨a, vs, e1, g1, g2⟩ := p.lst sm
    exact call_len pins s σ H _ _ Q I r ⟨v, vs.length, rfl, by subst e1; exact .inl ⟨vs, SqL.of g1, rfl⟩, by rw [← g2.length]; exact P.int sm q⟩
  | rol xs =>
    obtain ⟨a, vs, e1, g1, g2⟩ := p.rol sm
    exact call_len pins s σ H _ _ Q I r ⟨v, vs.length, rfl, by subst e1; exact .inl ⟨vs, g1, rfl⟩, by rw [← g2.length]; exact P.int sm q⟩
  | tup xs =>
    obtain ⟨a, vs, e1, g1, g2, _⟩ := p.tup sm
    exact call_len pins s σ H _ _ Q I r ⟨v, vs.length, rfl, by subst e1; exact .inr ⟨vs, SqT.of g1, rfl⟩, by rw [← g2.length]; exact P.int sm q⟩
  | rot xs =>
    obtain ⟨a, vs, e1, g1, g2, _⟩ := p.rot sm
    exact call_len pins s σ H _ _ Q I r ⟨v, vs.length, rfl, by subst e1; exact .inr ⟨vs, g1, rfl⟩, by rw [← g2.length]; exact P.int sm q⟩
  | str z => exact call_len pins s σ H _ _ Q I r ⟨v, z.length, rfl, by rw [p.str]; exact ⟨by rw [hz]; exact q.1, rfl⟩, P.int sm q.2⟩
  | dK kvs =>
    obtain ⟨a, ws, e1, g1, g2⟩ := p.dK sm
    subst e1
    obtain ⟨u', e, ru⟩ := vals1 r
    cases e
    cases ru
    exact d_len I g1 fun t s' I' => ⟨.int ws.length, H, I', ⟨t, rfl⟩, by rw [← RepK.len g2]; exact P.int sm q⟩
  | _ => exact q.elim
theorem b_int : CallR X (.type "int") (rL X.K cl dInt) := c1 fun pins s σ H v u Q F d Q0 I r sm p q P => by
  cases d with
  | int i => exact call_int1 pins s σ H _ _ Q I r (.inl ⟨i, by rw [p.int], P.int sm q⟩)
  | bl b => exact call_int1 pins s σ H _ _ Q I r (.inr ⟨b, by rw [p.bl], P.int sm q⟩)
  | _ => exact q.elim
theorem b_max2 (hc : X.calm = true) : CallR X (.builtin "max") (rL X.K cl dMax2) := c2 fun pins s σ H v w us Q F d e Q0 I r sm p1 p2 q P => by
  cases d with
  | int i =>
    cases e with
    | int j => exact call_max2 hc pins s σ H _ _ Q I r ⟨i, j, by rw [p1.int, p2.int], P.int sm q⟩
    | _ => exact q.elim
  | _ => exact q.elim
theorem b_min2 (hc : X.calm = true) : CallR X (.builtin "min") (rL X.K cl dMin2) := c2 fun pins s σ H v w us Q F d e Q0 I r sm p1 p2 q P => by
  cases d with
  | int i =>
    cases e with
    | int j => exact call_min2 hc pins s σ H _ _ Q I r ⟨i, j, by rw [p1.int, p2.int], P.int sm q⟩
    | _ => exact q.elim
  | _ => exact q.elim
theorem b_abs : CallR X (.builtin "abs") (rL X.K cl dAbs) := c1 fun pins s σ H v u Q F d Q0 I r sm p q P => by
  cases d with
  | int i => exact call_abs pins s σ H _ _ Q I r ⟨i, by rw [p.int], P.int sm q⟩
  | _ => exact q.elim
theorem b_list : CallR X (.type "list") (rL X.K cl dList) := c1 fun pins s σ H v u Q F d Q0 I r sm p q P => by
  cases d with
  | lst xs =>
    obtain ⟨a, vs, e1, g1, g2⟩ := p.lst sm
    exact call_list_of pins s σ H _ _ Q I r ⟨a, vs, by rw [e1], .inl (SqL.of g1), fun l hl => P.lst sm q g2 hl⟩
  | rol xs =>
    obtain ⟨a, vs, e1, g1, g2⟩ := p.rol sm
    exact call_list_of pins s σ H _ _ Q I r ⟨a, vs, by rw [e1], .inl g1, fun l hl => P.lst sm q g2 hl⟩
  | tup xs =>
    obtain ⟨a, vs, e1, g1, g2, _⟩ := p.tup sm
    exact call_list_of pins s σ H _ _ Q I r ⟨a, vs, by rw [e1], .inr (SqT.of g1), fun l hl => P.lst sm q g2 hl⟩
  | rot xs =>
    obtain ⟨a, vs, e1, g1, g2, _⟩ := p.rot sm
    exact call_list_of pins s σ H _ _ Q I r ⟨a, vs, by rw [e1], .inr g1, fun l hl => P.lst sm q g2 hl⟩
  | _ => exact q.elim
theorem b_tuple : CallR X (.type "tuple") (rL X.K cl dTuple) := c1 fun pins s σ H v u Q F d Q0 I r sm p q P => by
  cases d with
  | lst xs =>
    obtain ⟨a, vs, e1, g1, g2⟩ := p.lst sm
    exact call_tuple_of pins s σ H _ _ Q I r ⟨a, vs, by rw [e1], .inl ⟨SqL.of g1, fun l hl => P.tup sm q g2 hl⟩⟩
  | rol xs =>
    obtain ⟨a, vs, e1, g1, g2⟩ := p.rol sm
    exact call_tuple_of pins s σ H _ _ Q I r ⟨a, vs, by rw [e1], .inl ⟨g1, fun l hl => P.tup sm q g2 hl⟩⟩
  | tup xs =>
    obtain ⟨a, vs, e1, g1, g2, z⟩ := p.tup sm
    exact call_tuple_of pins s σ H _ _ Q I r ⟨a, vs, by rw [e1], .inr ⟨SqT.of g1, by rw [← e1]; exact P.val sm q z⟩⟩
  | _ => exact q.elim
theorem b_sum (hc : X.calm = true) : CallR X (.builtin "sum") (rL X.K cl dSum) := c1 fun pins s σ H v u Q F d Q0 I r sm p q P => by
  cases d with
  | lst xs =>
    obtain ⟨ns, rfl, q⟩ := q
    obtain ⟨a, vs, e1, g1, g2⟩ := p.lst sm
    have e2 := g2.ints
    subst e2
    exact cr_sum hc pins s σ H _ _ Q I r ⟨a, ns, by rw [e1], SqL.of g1, P.int sm q⟩
  | rol xs =>
    obtain ⟨ns, rfl, q⟩ := q
    obtain ⟨a, vs, e1, g1, g2⟩ := p.rol sm
    have e2 := g2.ints
    subst e2
    exact cr_sum hc pins s σ H _ _ Q I r ⟨a, ns, by rw [e1], g1, P.int sm q⟩
  | _ => exact q.elim
theorem b_all (hc : X.calm = true) : CallR X (.builtin "all") (rL X.K cl dAll) := c1 fun pins s σ H v u Q F d Q0 I r sm p q P => by
  cases d with
  | lst xs =>
    obtain ⟨ns, rfl, q⟩ := q
    obtain ⟨a, vs, e1, g1, g2⟩ := p.lst sm
    have e2 := g2.bls
    subst e2
    exact cr_all hc pins s σ H _ _ Q I r ⟨a, ns, by rw [e1], SqL.of g1, P.bl sm q⟩
  | _ => exact q.elim
theorem tyx_of {F H : Hp} {d : D} {v : V} (p : Pk X.K cl F H d v) (sm : Same F H) (h : tyN d ≠ "") : TyX X.K H v (.type (tyN d)) := by
  cases d with
  | non => rw [p.non]; exact .base .non
  | bl b => rw [p.bl]; exact .base (.bl b)
  | int b => rw [p.int]; exact .base (.int b)
  | str b => rw [p.str]; exact .base (.str b)
  | lst xs => obtain ⟨a, vs, rfl, g1, _⟩ := p.lst sm; exact .base (.lst g1)
  | rol xs =>
    obtain ⟨a, vs, rfl, g1, _⟩ := p.rol sm
    rcases g1 with (g | ⟨o, g⟩) | ⟨o, its, n, g, c, _⟩
    · exact .base (.lst g)
    · exact .base (.frz g)
    · exact .kList g c
  | tup xs =>
    obtain ⟨a, vs, rfl, g1, _⟩ := p.tup sm
    exact .base (.tup g1)
  | rot xs =>
    obtain ⟨a, vs, rfl, g1, _⟩ := p.rot sm
    rcases g1 with (g | ⟨o, g⟩) | ⟨o, its, n, g, c, _⟩
    · exact .base (.tup g)
    · exact .fTuple g
    · exact .kTuple g c
  | dK xs =>
    obtain ⟨a, vs, rfl, g1, _⟩ := p.dK sm
    rcases g1 with g1 | ⟨o, g1⟩
    · exact .base (.dK g1)
    · exact .fDict g1
  | dT xs =>
    rcases p with p | ⟨o, a, fq, e, rfl, c, _⟩
    · rw [Rep] at p; obtain ⟨a, vs, rfl, h1, h2⟩ := p
      exact .base (.dT (sm _ _ h1))
    · cases o <;> first | exact False.elim c | cases e
      obtain ⟨_, vs, h1, h2⟩ := c
      exact .base (.dT h1)
  | _ => exact absurd rfl h
theorem kitN {a n : String} (ha : a = "NoneType" ∨ a = "bool" ∨ a = "int" ∨ a = "str" ∨ a = "tuple" ∨ a = "list" ∨ a = "dict") (hn : tyKnown n = true) : PySem.W.kitOne X.K (.type a) (.type n) = some (a == n || (a == "bool" && n == "int")) := by
  have hn' : n = "int" ∨ n = "bool" ∨ n = "str" ∨ n = "tuple" ∨ n = "list" ∨ n = "dict" := by
    simp only [tyKnown, Bool.or_eq_true, beq_iff_eq] at hn
    rcases hn with ((((h | h) | h) | h) | h) | h <;> simp [h]
  rcases ha with rfl | rfl | rfl | rfl | rfl | rfl | rfl <;> rcases hn' with rfl | rfl | rfl | rfl | rfl | rfl <;> exact kit_ty (by decide +kernel)
theorem tyN_in {d : D} (h : tyN d ≠ "") : tyN d = "NoneType" ∨ tyN d = "bool" ∨ tyN d = "int" ∨ tyN d = "str" ∨ tyN d = "tuple" ∨ tyN d = "list" ∨ tyN d = "dict" := by
  cases d <;> simp [tyN] at h ⊢
theorem b_isi : CallR X (.builtin "isinstance") (rL X.K cl dIsi) := c2 fun pins s σ H v w us Q F d e Q0 I r sm p1 p2 q P => by
  cases e with
  | ty n =>
    obtain ⟨h1, h2, h3⟩ := q
    exact call_isi pins s σ H _ _ Q I r ⟨v, w, _, _, isTy d n, rfl, by rw [p2.ty]; exact .ty n, tyx_of p1 sm h2, kitN (tyN_in h2) h1, P.bl sm h3⟩
  | tup xs =>
    match xs, q, p2 with
    | [.ty n, .ty m], q, p2 =>
      obtain ⟨h1, h2, h3, h4⟩ := q
      obtain ⟨a, vs, rfl, g1, g2, _⟩ := p2.tup sm
      rw [RepL] at g2
      obtain ⟨x1, r1, rfl, k1, g2⟩ := g2
      rw [RepL] at g2
      obtain ⟨x2, r2, rfl, k2, g2⟩ := g2
      rw [RepL] at g2
      subst g2
      rw [Rep] at k1 k2
      subst k1 k2
      refine call_isiT pins s σ H _ _ Q I r ⟨v, a, _, _, [.type n, .type m], isTy d n || isTy d m, rfl, g1, .cons (.ty n) (.cons (.ty m) .nil), tyx_of p1 sm h3, ?_, P.bl sm h4⟩
      refine kitAny_cons (kitN (tyN_in h3) h1) (fun z => kitAny_cons (kitN (tyN_in h3) h2) (fun z' => ?_) fun z' => ?_) fun z => ?_
      · show _ = some (isTy d n || isTy d m)
        unfold isTy
        rw [z, z']; rfl
      · show (isTy d n || isTy d m) = true
        unfold isTy
        rw [z', Bool.or_true]
      · show (isTy d n || isTy d m) = true
        unfold isTy
        rw [z, Bool.true_or]
  | _ => exact q.elim
variable {W : WX} {pin : List Nat} {x : Str} {p pos : Pos} {e : Expr} {es : List Expr} {ma : MA} {id T : String} {dop : DOpL}
theorem qB (hc : CallR X (.builtin id) (rL X.K cl dop)) (hg : Gl X x) (hm : X.mg x = none) (hv : bootBuiltins x = some (.builtin id)) (ha : PMA X cl W pin (e :: es) ma) (hn : x ≠ "__name__" := by decide) (hdb : (x == ("__debug__" : Str)) = false := by decide)
    (he : starEach (e :: es) X.env = (false, eval e X.env) :: starEach es X.env := by rfl) (hpl : (backTo pos (starEach es X.env)).any (·.1) = false := by rfl) : PM X cl W pin (.Call (.Name x p) (e :: es) [] pos) (mBi dop ma) :=
  PE.imp (pe_callB hc hg hm hv ha hn hdb he hpl) fun _ _ _ h => la_bi h
theorem qT (hc : CallR X (.type T) (rL X.K cl dop)) (hg : Gl X x) (hm : X.mg x = none) (hv : bootBuiltins x = some (.type T)) (ha : PMA X cl W pin (e :: es) ma) (hn : x ≠ "__name__" := by decide) (hdb : (x == ("__debug__" : Str)) = false := by decide)
    (he : starEach (e :: es) X.env = (false, eval e X.env) :: starEach es X.env := by rfl) (hpl : (backTo pos (starEach es X.env)).any (·.1) = false := by rfl) : PM X cl W pin (.Call (.Name x p) (e :: es) [] pos) (mBi dop ma) :=
  PE.imp (pe_callTy hc hg hm hv ha hn hdb he hpl) fun _ _ _ h => la_bi h
end
end Mv

/-! Mv: targets, loops, changes of one's own lists. -/
namespace Mv
open PySem L2

/-! ### targets -/
abbrev MG := D → Fm → (Fm → Prop) → Prop
def gN (i : Nat) : MG := fun d S k => k (S.set i (.fz d))
abbrev MGs := List D → Fm → (Fm → Prop) → Prop
def gsN : MGs := fun ds S k => ds = [] ∧ k S
def gsC (g : MG) (r : MGs) : MGs := fun ds S k => ∃ d es, ds = d :: es ∧ g d S fun S1 => r es S1 k
def gT (n : Nat) (g : MGs) : MG := fun d S k => match d with
  | .tup ds => ds.length = n ∧ g ds S k
  | .lst ds => ds.length = n ∧ g ds S k
  | _ => False
def LG (K : PySem.W.Frag) (cl : Nat → Addr) (pin : List Nat) (g : MG) : TG := fun v σ H Q => ∃ S F fp d Q0, EnvR K cl F H σ S fp ∧ Rep K cl F d v ∧ g d S Q0 ∧
  ∀ S', Q0 S' → ∀ σ', (∀ i ∈ pin, σ'[i]? = σ[i]?) → Stp F H S fp F H S' fp → EnvR K cl F H σ' S' fp → Q σ' H
def LGs (K : PySem.W.Frag) (cl : Nat → Addr) (pin : List Nat) (g : MGs) : TGs := fun vs σ H Q => ∃ S F fp ds Q0, EnvR K cl F H σ S fp ∧ RepL K cl F ds vs ∧ g ds S Q0 ∧
  ∀ S', Q0 S' → ∀ σ', (∀ i ∈ pin, σ'[i]? = σ[i]?) → Stp F H S fp F H S' fp → EnvR K cl F H σ' S' fp → Q σ' H
abbrev PMG (X : Cx) (cl : Nat → Addr) (pin : List Nat) (e : Expr) (g : MG) : Prop := PG X e (LG X.K cl pin g)
abbrev PMGs (X : Cx) (cl : Nat → Addr) (pin : List Nat) (e : List Expr) (g : MGs) : Prop := PGs X e (LGs X.K cl pin g)
section
variable {X : Cx} {cl : Nat → Addr} {pin : List Nat} {pos : Pos}
theorem PGs.imp {e : List Expr} {t u : TGs} (h : PGs X e t) (i : ∀ v σ H Q, u v σ H Q → t v σ H Q) : PGs X e u := ⟨fun pins s σ H v w Q I r hw => h.run pins s σ H v w Q I r (i v σ H Q hw)⟩
theorem tgN {i : Nat} {x : Str} (hN : X.N.Nodup) (hi : X.N[i]? = some x) (hx : Loc X.env.scope x) (hp : i ∉ pin) (hf : X.fn x = true ∨ X.env.scope.names.lookup x = some .local := by first | exact .inl rfl | exact .inr rfl | assumption) : PMG X cl pin (.Name x pos) (gN i) :=
  PG.imp (pg_name hN hi hx hf) fun v σ H Q ⟨S, F, fp, d, Q0, E, r, h, k⟩ => k _ h (σ.set i (some v)) (pin_set hp) Stp.refl.setFz (E.setFz r)
theorem tgsN : PMGs X cl pin [] gsN := PGs.imp pgs_nil fun v σ H Q ⟨S, F, fp, d, Q0, E, r, h, k⟩ => by
  obtain ⟨rfl, h⟩ := h
  rw [RepL] at r
  exact ⟨r, k _ h σ (fun _ _ => rfl) Stp.refl E⟩
theorem tgsC {e : Expr} {es : List Expr} {g : MG} {gr : MGs} (h1 : PMG X cl pin e g) (h2 : PMGs X cl pin es gr) (hs : (assignEach (e :: es) X.env).map (·.2) = assign e X.env :: (assignEach es X.env).map (·.2) := by rfl) : PMGs X cl pin (e :: es) (gsC g gr) :=
  PGs.imp (pgs_cons h1 h2 hs) fun v σ H Q ⟨S, F, fp, d, Q0, E, r, h, k⟩ => by
    obtain ⟨d, es, rfl, h⟩ := h
    rw [RepL] at r
    obtain ⟨x, vs, rfl, r1, r2⟩ := r
    refine ⟨x, vs, rfl, S, F, fp, d, _, E, r1, h, fun S' q σ' p st e' => ?_⟩
    exact ⟨S', F, fp, es, Q0, e', r2, q, fun S2 q2 σ2 p2 st2 e2 => k S2 q2 σ2 (fun i hi => (p2 i hi).trans (p i hi)) (st.trans st2) e2⟩
theorem PG.or {e : Expr} {t u : TG} (h : PG X e t) (h2 : PG X e u) : PG X e (fun v σ H Q => t v σ H Q ∨ u v σ H Q) := ⟨fun pins s σ H v w Q I r hw => hw.elim (h.run pins s σ H v w Q I r) (h2.run pins s σ H v w Q I r)⟩
theorem tgT {es : List Expr} {n m : Nat} {g : MGs} (hc : X.calm = true) (h : PMGs X cl pin es g) (hn : (assignEach es X.env).length = n := by rfl) (hst : (assignEach es X.env).findIdx? (·.1) = none := by rfl) : PMG X cl pin (.Tuple es m pos) (gT n g) :=
  PG.imp (PG.or (pg_tup hc h hn hst) (pg_lst hc h hn hst)) fun v σ H Q ⟨S, F, fp, d, Q0, E, r, h, k⟩ => by
    cases d with
    | tup ds =>
      rw [Rep] at r
      obtain ⟨a, vs, rfl, r1, r2⟩ := r
      exact .inl ⟨a, vs, rfl, SqT.of (E.sub _ _ r1), by rw [← r2.length]; exact h.1, S, F, fp, ds, Q0, E, r2, h.2, k⟩
    | lst ds =>
      rw [Rep] at r
      obtain ⟨a, vs, rfl, r1, r2⟩ := r
      exact .inr ⟨a, vs, rfl, SqL.of (E.sub _ _ r1), by rw [← r2.length]; exact h.1, S, F, fp, ds, Q0, E, r2, h.2, k⟩
    | _ => exact h.elim
end
/-- targets = value -/
def sAsg (m : ME) (g : MG) : MS := fun D S => m D.ex (fun r S1 => match fzR r with
  | .val d => g d S1 D.nx
  | _ => False) S
section
variable {X : Cx} {cl : Nat → Addr} {W : WX} {pin : List Nat} {e tg : Expr} {m : ME} {g : MG} {pos : Pos}
theorem kAsg (he : PM X cl W pin e m) (hg : PMG X cl pin tg g) (hs : swapsWithSole [tg] e pos.line X.env = pure false := by rfl) (hw : swappedStores [tg] e X.env = pure none := by rfl)
    (h1 : (assignEach [tg] X.env).map (·.2) = [assign tg X.env] := by rfl) : PMS X cl W pin (.Assign [tg] e pos) (sAsg m g) :=
  PS.imp (ps_asg he hg hs hw h1) fun D σ H h => by
    obtain ⟨S, F, fp, D0, E, h2, gl⟩ := LS.iff.mp h
    refine LE.mk E h2 gl.ex fun r S1 v F1 H1 fp1 q st e rr x => ?_
    obtain ⟨G1, e1', st1', sg, ra1⟩ := RelR.ready e st rr
    cases hr : fzR r with
    | val d =>
      simp only [hr] at q ra1
      exact ⟨S1, G1, fp1, d, D0.nx, e1', ra1, q, fun S' q' σ' p st' e' => gl.nx S' q' σ' G1 H1 fp1 p (st1'.trans st') e'⟩
    | own o => simp only [hr] at q
    | slot i => simp only [hr] at q
end

/-! ### while -/
def sWhile (c : MT) (b : MS) : MS := fun D S => ∃ W : Nat → Fm → Prop, (∃ m, W m S) ∧ ∀ m S, W m S →
  c D.ex (fun k S1 => if k = true then b { D with nx := fun S' => ∃ m', m' < m ∧ W m' S', ct := fun S' => ∃ m', m' < m ∧ W m' S', bk := D.nx } S1 else D.nx S1) S
section
variable {X : Cx} {cl : Nat → Addr} {W : WX} {pin : List Nat} {c : Expr} {body : List Stmt} {mc : MT} {mb : MS} {pos : Pos} {j : Nat}
theorem kWhile (g : Good X W j) (hc : PMT X cl W pin c mc) (hb : PMSs X cl W pin body mb) : PMS X cl W pin (.While c body [] pos) (sWhile mc mb) :=
  PS.imp (ps_while g.pass hc hb) fun D σ H h => by
    obtain ⟨S, F, fp, D0, E, ⟨Wd, ⟨m0, w0⟩, step⟩, gl⟩ := LS.iff.mp h
    refine ⟨fun m σ' H' => ∃ S' F' fp', (∀ i ∈ pin, σ'[i]? = σ[i]?) ∧ Stp F H S fp F' H' S' fp' ∧ EnvR X.K cl F' H' σ' S' fp' ∧ Wd m S', ⟨m0, S, F, fp, fun _ _ => rfl, Stp.refl, E, w0⟩, ?_⟩
    rintro m σ1 H1 ⟨S1, F1, fp1, p1, st1, e1, w1⟩
    have g1 := gl.step st1 p1
    refine LT.mk e1 (step m S1 w1) g1.ex fun k S2 F2 H2 fp2 q2 st2 e2 x2 => ?_
    have g2 := g1.step st2 (fun _ _ => rfl)
    cases k with
    | false => exact g2.nx S2 q2 σ1 F2 H2 fp2 (fun _ _ => rfl) Stp.refl e2
    | true =>
      refine ⟨fun σ' H' => ∃ m', m' < m ∧ ∃ S' F' fp', (∀ i ∈ pin, σ'[i]? = σ[i]?) ∧ Stp F H S fp F' H' S' fp' ∧ EnvR X.K cl F' H' σ' S' fp' ∧ Wd m' S', fun _ _ z => z, ?_⟩
      have again : ∀ S', (∃ m', m' < m ∧ Wd m' S') → ∀ σ' F' H' fp', (∀ i ∈ pin, σ'[i]? = σ1[i]?) → Stp F2 H2 S2 fp2 F' H' S' fp' → EnvR X.K cl F' H' σ' S' fp' →
          ∃ m', m' < m ∧ ∃ S' F' fp', (∀ i ∈ pin, σ'[i]? = σ[i]?) ∧ Stp F H S fp F' H' S' fp' ∧ EnvR X.K cl F' H' σ' S' fp' ∧ Wd m' S' := fun S' ⟨m', l, w'⟩ σ' F' H' fp' p st e =>
        ⟨m', l, S', F', fp', fun i hi => (p i hi).trans (p1 i hi), st1.trans (st2.trans st), e, w'⟩
      exact LS.iff.mpr ⟨S2, F2, fp2, _, e2, q2, ⟨g2.ex, again, g2.nx, again, g2.rt⟩⟩
end

/-! ### what is walked -/
abbrev MI := EX → (List D → Fm → Prop) → Fm → Prop
/-- J walks the data ds over the frozen F -/
def ItD (K : PySem.W.Frag) (cl : Nat → Addr) (F : Hp) (J : It) (ds : List D) : Prop := ∀ i G H, Same F G → Same G H →
  (i < ds.length → J.go i H ∧ ∀ x H', J.yld i H x H' → ∃ G' d, ds[i]? = some d ∧ Small G H G' H' ∧ Rep K cl G' d x) ∧ (ds.length ≤ i → J.stop i H)
def LI (K : PySem.W.Frag) (cl : Nat → Addr) (W : WX) (pin : List Nat) (m : MI) : TI := fun σ H Rk => ∃ S F fp E0 Q0, EnvR K cl F H σ S fp ∧ m E0 Q0 S ∧ Exl K cl W pin σ F H S fp E0 ∧
  ∀ ds S', Q0 ds S' → ∀ J F' H' fp', Stp F H S fp F' H' S' fp' → EnvR K cl F' H' σ S' fp' → ItD K cl F' J ds → Rk J H'
abbrev PMI (X : Cx) (cl : Nat → Addr) (W : WX) (pin : List Nat) (tg e : Expr) (m : MI) : Prop := PI X tg e (LI X.K cl W pin m)
def rngD (lo : Int) (n : Nat) : List D := (List.range n).map fun i => D.int (lo + (i : Nat))
def rngC (lo c : Int) (n : Nat) : List D := (List.range n).map fun i => D.int (lo + (i : Nat) * c)
def mRng1 (ma : MA) : MI := fun E Q S => ma E (fun rs S1 => match rs with
  | [.val (.int j)] => -(2 ^ 62) ≤ j ∧ j < 2 ^ 62 ∧ Q (rngD 0 j.toNat) S1
  | _ => False) S
def mRng2 (ma : MA) : MI := fun E Q S => ma E (fun rs S1 => match rs with
  | [.val (.int i), .val (.int j)] => (-(2 ^ 62) ≤ i ∧ i < 2 ^ 62 ∧ -(2 ^ 62) ≤ j ∧ j < 2 ^ 62) ∧ Q (rngD i (j - i).toNat) S1
  | _ => False) S
def mRng3 (ma : MA) : MI := fun E Q S => ma E (fun rs S1 => match rs with
  | [.val (.int i), .val (.int j), .val (.int c)] => ∃ n, RgC i j c n ∧ Q (rngC i c n) S1
  | _ => False) S
def itemsOf : D → Option (List D)
  | .lst xs => some xs
  | .rol xs => some xs
  | .tup xs => some xs
  | .rot xs => some xs
  | .str z => some (z.cps.toList.map fun c => D.str ⟨#[c]⟩)
  | _ => none
/-- a sequence, a text -/
def mSeq (m : ME) : MI := fun E Q S => m E (fun r S1 => match fzR r with
  | .val d => ∃ ds, itemsOf d = some ds ∧ Q ds S1
  | _ => False) S
section
variable {K : PySem.W.Frag} {cl : Nat → Addr} {F : Hp}
theorem itd_rng {lo : Int} {n : Nat} : ItD K cl F (Itr lo n) (rngD lo n) := fun i G H s1 s2 => by
  unfold rngD
  simp only [List.length_map, List.length_range]
  refine ⟨fun l => ⟨l, fun x H' ⟨e1, e2⟩ => ?_⟩, fun l => l⟩
  subst e1 e2
  exact ⟨G, .int (lo + (i : Nat)), by simp [l], Small.refl s2, by rw [Rep]⟩
theorem itd_rngC {lo c : Int} {n : Nat} : ItD K cl F (Itc lo c n) (rngC lo c n) := fun i G H s1 s2 => by
  unfold rngC
  simp only [List.length_map, List.length_range]
  refine ⟨fun l => ⟨l, fun x H' ⟨e1, e2⟩ => ?_⟩, fun l => l⟩
  subst e1 e2
  exact ⟨G, .int (lo + (i : Nat) * c), by simp [l], Small.refl s2, by rw [Rep]⟩
theorem itd_lst {a : Addr} {vs : List V} {ds : List D} (h : SqL K F a vs) (r : RepL K cl F ds vs) : ItD K cl F (Itl K a) ds := fun i G H s1 s2 => by
  have sm := Same.trans s1 s2
  rw [r.length]
  refine ⟨fun l => ⟨⟨vs, vs[i], sm.seq h, by simp [l]⟩, fun x H' ⟨e1, e2⟩ => ?_⟩, fun l => ⟨vs, sm.seq h, l⟩⟩
  subst e1
  obtain ⟨d, h1, h2⟩ := r.get' (e2 vs (sm.seq h))
  exact ⟨G, d, h1, Small.refl s2, h2.mono s1⟩
theorem itd_tup {a : Addr} {vs : List V} {ds : List D} (h : SqT K F a vs) (r : RepL K cl F ds vs) : ItD K cl F (Itt K a) ds := fun i G H s1 s2 => by
  have sm := Same.trans s1 s2
  rw [r.length]
  refine ⟨fun l => ⟨⟨vs, vs[i], Same.sqt sm h, by simp [l]⟩, fun x H' ⟨e1, e2⟩ => ?_⟩, fun l => ⟨vs, Same.sqt sm h, l⟩⟩
  subst e1
  obtain ⟨d, h1, h2⟩ := r.get' (e2 vs (Same.sqt sm h))
  exact ⟨G, d, h1, Small.refl s2, h2.mono s1⟩
theorem itd_str {z : Str} : ItD K cl F (Its z) (z.cps.toList.map fun c => D.str ⟨#[c]⟩) := fun i G H s1 s2 => by
  simp only [List.length_map, Array.length_toList]
  refine ⟨fun l => ⟨l, fun x H' ⟨e1, c, e2, e3⟩ => ?_⟩, fun l => l⟩
  subst e1 e3
  exact ⟨G, .str ⟨#[c]⟩, by simp [e2], Small.refl s2, by rw [Rep]⟩
end
section
variable {X : Cx} {cl : Nat → Addr} {W : WX} {pin : List Nat} {tg a b c e : Expr} {ma : MA} {m : ME} {p pos : Pos}
theorem iR1 (hg : Gl X "range") (hm : X.mg "range" = none) (ha : PMA X cl W pin [a] ma) (hs : starEach [a] X.env = [(false, eval a X.env)] := by rfl) : PMI X cl W pin tg (.Call (.Name "range" p) [a] [] pos) (mRng1 ma) :=
  PI.imp (pi_range1 hg hm ha hs) fun σ H Rk ⟨S, F, fp, E0, Q0, E, h2, x, k⟩ => LA.mk E h2 x fun rs S1 vs F1 H1 fp1 q1 st1 e1 rr1 x1 => by
    match rs, q1, rr1 with
    | [.val (.int j)], q1, ⟨v, us, e2, r1, e3⟩ =>
      have e3' : us = [] := e3
      have r1' : Rep X.K cl F1 (.int j) v := r1
      rw [Rep] at r1'
      subst e2 e3' r1'
      exact ⟨j, rfl, q1.1, q1.2.1, k _ _ q1.2.2 _ F1 H1 fp1 st1 e1 itd_rng⟩
theorem iR2 (hg : Gl X "range") (hm : X.mg "range" = none) (ha : PMA X cl W pin [a, b] ma) (hs : starEach [a, b] X.env = [(false, eval a X.env), (false, eval b X.env)] := by rfl) (hs2 : starEach [b] X.env = [(false, eval b X.env)] := by rfl) :
    PMI X cl W pin tg (.Call (.Name "range" p) [a, b] [] pos) (mRng2 ma) :=
  PI.imp (pi_range2 hg hm ha hs hs2) fun σ H Rk ⟨S, F, fp, E0, Q0, E, h2, x, k⟩ => LA.mk E h2 x fun rs S1 vs F1 H1 fp1 q1 st1 e1 rr1 x1 => by
    match rs, q1, rr1 with
    | [.val (.int i), .val (.int j)], q1, ⟨v, us, e2, r1, v2, us2, e3, r2, e4⟩ =>
      have e4' : us2 = [] := e4
      have r1' : Rep X.K cl F1 (.int i) v := r1
      have r2' : Rep X.K cl F1 (.int j) v2 := r2
      rw [Rep] at r1' r2'
      subst e4' e3 e2 r1' r2'
      exact ⟨i, j, rfl, q1.1, k _ _ q1.2 _ F1 H1 fp1 st1 e1 itd_rng⟩
theorem iR3 (hg : Gl X "range") (hm : X.mg "range" = none) (ha : PMA X cl W pin [a, b, c] ma)
    (hs : starEach [a, b, c] X.env = (false, eval a X.env) :: starEach [b, c] X.env := by rfl) (hpl : (backTo pos (starEach [b, c] X.env)).any (·.1) = false := by rfl) : PMI X cl W pin tg (.Call (.Name "range" p) [a, b, c] [] pos) (mRng3 ma) :=
  PI.imp (pi_range3 hg hm ha hs hpl) fun σ H Rk ⟨S, F, fp, E0, Q0, E, h2, x, k⟩ => LA.mk E h2 x fun rs S1 vs F1 H1 fp1 q1 st1 e1 rr1 x1 => by
    match rs, q1, rr1 with
    | [.val (.int i), .val (.int j), .val (.int l)], ⟨n, q0, q1⟩, ⟨v, us, e2, r1, v2, us2, e3, r2, v3, us3, e4, r3, e5⟩ =>
      have e5' : us3 = [] := e5
      have r1' : Rep X.K cl F1 (.int i) v := r1
      have r2' : Rep X.K cl F1 (.int j) v2 := r2
      have r3' : Rep X.K cl F1 (.int l) v3 := r3
      rw [Rep] at r1' r2' r3'
      subst e5' e4 e3 e2 r1' r2' r3'
      exact ⟨i, j, l, n, rfl, q0, k _ _ q1 _ F1 H1 fp1 st1 e1 itd_rngC⟩
/-- any sequence, by what it is -/
theorem pi_seq {te : TE} (he : PE X e te) : PI X tg e (fun σ H R => te σ H fun v H1 => (∃ a xs, v = .ref a ∧ SqL X.K H1 a xs ∧ R (Itl X.K a) H1) ∨ (∃ a xs, v = .ref a ∧ SqT X.K H1 a xs ∧ R (Itt X.K a) H1) ∨ ∃ x, v = .str x ∧ R (Its x) H1) := by
  refine ⟨fun pins s σ H R I h => ?_⟩
  refine thn (he.run pins s σ H _ I h) fun v s1 ⟨y, H1, I1, r1, q⟩ => ?_
  rcases q with ⟨a, xs, ex, hq, q⟩ | ⟨a, xs, ex, hq, q⟩ | ⟨x, ex, q⟩
  · subst ex
    cases r1
    obtain ⟨its, rv, pl, hz⟩ := I1.list hq
    exact PySem.wpAny_pyIter_list pl.isList (pi_one (tk := s1.toks) I1 _ (turn_list a _) ⟨_, Heap.get?_push_size _ rfl, rfl, rfl⟩ q)
  · subst ex
    cases r1
    obtain ⟨its, rv, pl, hz⟩ := I1.tuple hq
    exact PySem.wpAny_pyIter_tuple (show s1.heap.IsTuple a its.toArray from pl) (pi_one (tk := s1.toks) I1 _ (turn_tuple a _) ⟨_, Heap.get?_push_size _ rfl, rfl, rfl⟩ q)
  · subst ex
    obtain ⟨t, rfl⟩ := r1
    cases ha : x.cps.all (· < 128)
    · exact PySem.wpAny_pyIter_wide ha (pi_one (tk := s1.toks) I1 _ (turn_str _ x t "str_iterator" (.inr rfl)) ⟨_, Heap.get?_push_size _ rfl, rfl, rfl⟩ q)
    · exact PySem.wpAny_pyIter_ascii ha (pi_one (tk := s1.toks) I1 _ (turn_str _ x t "str_ascii_iterator" (.inl rfl)) ⟨_, Heap.get?_push_size _ rfl, rfl, rfl⟩ q)
theorem iSeq (he : PM X cl W pin e m) : PMI X cl W pin tg e (mSeq m) := PI.imp (pi_seq he) fun σ H Rk ⟨S, F, fp, E0, Q0, E, h2, x, k⟩ => LE.mk E h2 x fun r S1 v F1 H1 fp1 q st1 e1 rr x1 => by
  obtain ⟨G1, e1', st1', sg, ra1⟩ := RelR.ready e1 st1 rr
  cases hr : fzR r with
  | val d =>
    simp only [hr] at q ra1
    obtain ⟨ds, hi, q⟩ := q
    have kk := k ds S1 q
    have ra : Rep X.K cl G1 d v := ra1
    cases d with
    | lst xs =>
      cases hi
      rw [Rep] at ra; obtain ⟨a, vs, rfl, g1, g2⟩ := ra
      exact .inl ⟨a, vs, rfl, SqL.of (e1'.sub _ _ g1), kk _ G1 H1 fp1 st1' e1' (itd_lst (SqL.of g1) g2)⟩
    | rol xs =>
      cases hi
      rw [Rep] at ra; obtain ⟨a, vs, rfl, g1, g2⟩ := ra
      exact .inl ⟨a, vs, rfl, e1'.sub.seq g1, kk _ G1 H1 fp1 st1' e1' (itd_lst g1 g2)⟩
    | tup xs =>
      cases hi
      rw [Rep] at ra; obtain ⟨a, vs, rfl, g1, g2⟩ := ra
      exact .inr (.inl ⟨a, vs, rfl, SqT.of (e1'.sub _ _ g1), kk _ G1 H1 fp1 st1' e1' (itd_tup (SqT.of g1) g2)⟩)
    | rot xs =>
      cases hi
      rw [Rep] at ra; obtain ⟨a, vs, rfl, g1, g2⟩ := ra
      exact .inr (.inl ⟨a, vs, rfl, Same.sqt e1'.sub g1, kk _ G1 H1 fp1 st1' e1' (itd_tup g1 g2)⟩)
    | str z =>
      cases hi
      rw [Rep] at ra
      exact .inr (.inr ⟨z, ra, kk _ G1 H1 fp1 st1' e1' itd_str⟩)
    | _ => cases hi
  | own o => simp only [hr] at q
  | slot i => simp only [hr] at q
end

/-! ### for -/
def forW (g : MG) (b : MS) (Z : MEnds) : List D → Fm → Prop
  | [], S => Z.nx S
  | d :: ds, S => g d S fun S1 => b { Z with nx := forW g b Z ds, ct := forW g b Z ds, bk := Z.nx } S1
def sFor (mi : MI) (g : MG) (b : MS) : MS := fun Z S => mi Z.ex (fun ds S1 => forW g b Z ds S1) S
section
variable {X : Cx} {cl : Nat → Addr} {W : WX} {pin : List Nat} {tg it : Expr} {body : List Stmt} {mi : MI} {g : MG} {mb : MS} {pos : Pos} {j : Nat}
theorem kFor (gd : Good X W j) (hi : PMI X cl W pin tg it mi) (hg : PMG X cl pin tg g) (hb : PMSs X cl W pin body mb) (hs : ∀ x, foldedSetIterable it X.env x = pure x := by intro _; rfl) : PMS X cl W pin (.For tg it body [] pos) (sFor mi g mb) :=
  PS.imp (ps_for gd.pass gd.calm hi hg hb hs) fun D σ H h => by
    obtain ⟨S, F, fp, D0, E, h2, gl⟩ := LS.iff.mp h
    refine ⟨S, F, fp, D0.ex, _, E, h2, gl.ex, fun ds S1 q1 J F1 H1 fp1 st1 e1 hJ => ?_⟩
    refine ⟨fun i m σ' H' => m = ds.length - i ∧ i ≤ ds.length ∧ ∃ S' F' fp', (∀ i ∈ pin, σ'[i]? = σ[i]?) ∧ Stp F H S fp F' H' S' fp' ∧ Same F1 F' ∧ EnvR X.K cl F' H' σ' S' fp' ∧ forW g mb D0 (ds.drop i) S', ⟨_, rfl, Nat.zero_le _, S1, F1, fp1, fun _ _ => rfl, st1, Same.refl _, e1, by rw [List.drop_zero]; exact q1⟩, ?_⟩
    rintro i m σ2 H2 ⟨rfl, hi, S2, F2, fp2, p2, st2, sf, e2, w2⟩
    obtain ⟨go, stop⟩ := hJ i F2 H2 sf e2.sub
    by_cases hlt : i < ds.length
    · obtain ⟨g1, g2⟩ := go hlt
      refine .inr ⟨g1, fun σ' H' => ∃ m', m' < ds.length - i ∧ (m' = ds.length - (i + 1) ∧ i + 1 ≤ ds.length ∧ ∃ S' F' fp', (∀ i ∈ pin, σ'[i]? = σ[i]?) ∧ Stp F H S fp F' H' S' fp' ∧ Same F1 F' ∧ EnvR X.K cl F' H' σ' S' fp' ∧ forW g mb D0 (ds.drop (i + 1)) S'), fun _ _ z => z, fun x H3 y => ?_⟩
      obtain ⟨G3, d, hd, sm, rx⟩ := g2 x H3 y
      have e3 := e2.small sm
      have st3 := st2.trans (sm.step (S := S2) (fp := fp2))
      have hdr : ds.drop i = d :: ds.drop (i + 1) := by
        obtain ⟨hl, e⟩ := List.getElem?_eq_some_iff.mp hd
        rw [← e]; exact List.drop_eq_getElem_cons hl
      rw [hdr] at w2
      refine ⟨S2, G3, fp2, d, _, e3, rx, w2, fun S4 q4 σ4 p4 st4 e4 => ?_⟩
      have gl4 := gl.step (st3.trans st4) (fun i hi => (p4 i hi).trans (p2 i hi))
      have again : ∀ S', forW g mb D0 (ds.drop (i + 1)) S' → ∀ σ' F' H' fp', (∀ i ∈ pin, σ'[i]? = σ4[i]?) → Stp G3 H3 S4 fp2 F' H' S' fp' → EnvR X.K cl F' H' σ' S' fp' →
          ∃ m', m' < ds.length - i ∧ (m' = ds.length - (i + 1) ∧ i + 1 ≤ ds.length ∧ ∃ S' F' fp', (∀ i ∈ pin, σ'[i]? = σ[i]?) ∧ Stp F H S fp F' H' S' fp' ∧ Same F1 F' ∧ EnvR X.K cl F' H' σ' S' fp' ∧ forW g mb D0 (ds.drop (i + 1)) S') := fun S' w' σ' F' H' fp' p st e =>
        ⟨ds.length - (i + 1), by omega, rfl, hlt, S', F', fp', fun i hi => (p i hi).trans ((p4 i hi).trans (p2 i hi)), (st3.trans st4).trans st, (sf.trans sm.ff).trans (st4.ff.trans st.ff), e, w'⟩
      exact LS.iff.mpr ⟨S4, G3, fp2, _, e4, q4, ⟨gl4.ex, again, gl4.nx, again, gl4.rt⟩⟩
    · have hdr : ds.drop i = [] := List.drop_eq_nil_of_le (by omega)
      rw [hdr] at w2
      exact .inl ⟨stop (by omega), gl.nx S2 w2 σ2 F2 H2 fp2 p2 st2 e2⟩
end
end Mv

/-! Mv: calls with keywords; one's own lists changed by methods and items. -/
namespace Mv
open PySem L2

/-! ### keywords -/
def permR (perm : List Nat) (rs : List R) : List R := perm.map fun j => rs.getD j (.val .non)
def mPerm (n m : Nat) (perm : List Nat) (ma mk : MA) : MA := fun E Q S => ma E (fun rs S1 => rs.length = n ∧ mk E (fun zs S2 => zs.length = m ∧ Q (permR perm (rs ++ zs)) S2) S1) S
def permV (perm : List Nat) (vs zs : List V) : List V := perm.map fun j => (vs ++ zs).getD j .non
def permU (perm : List Nat) (us ws : List Value) : List Value := perm.map fun j => (us ++ ws).getD j .none
theorem vals_getD {vs : List V} {us : List Value} (r : Vals vs us) (j : Nat) : RelV (vs.getD j .non) (us.getD j .none) := by
  rw [List.getD_eq_getElem?_getD, List.getD_eq_getElem?_getD]
  cases e : vs[j]? with
  | none => rw [r.none_of e]; rfl
  | some v =>
    obtain ⟨u, h1, h2⟩ := r.get e
    rw [h1]; exact h2
theorem vals_perm {vs zs : List V} {us ws : List Value} (r : Vals vs us) (q : Vals zs ws) : ∀ perm : List Nat, Vals (permV perm vs zs) (permU perm us ws)
  | [] => .nil
  | j :: perm => .cons (vals_getD (r.append q) j) (vals_perm r q perm)
theorem kb_perm {K : PySem.W.Frag} {x qual : Str} {params : Arguments} {body : List Stmt} {scope : Scope} {kws : List (Str × V)} {f : Addr} {fd : FuncData} {ps ks : List Str} {n : Nat} {perm : List Nat} (F : FunD K x qual params body scope [] kws f fd)
    (h : ∀ (kV doc pm : Value) (an : Option Addr) (cdv ct : Value) (us ws : List Value), us.length = n → ws.length = ks.length → bindArgs (PySem.W.fnOf x qual params body scope .none kV doc pm an cdv ct) ⟨us, ks.zip ws⟩ = pure (ps.zip (permU perm us ws))) :
    KBn K fd ps n ks (permU perm) (permV perm) := by
  obtain ⟨oc, od, dV, kV, doc, pm, an, cdv, ct, osl, rfl, lk, hcd, hD, hK⟩ := F.ex
  rcases hD with ⟨_, rfl⟩ | ⟨e, _⟩
  · exact ⟨fun s us ws X h1 h2 => .of_eq (h kV doc pm an cdv ct us ws h1 h2), fun r q => vals_perm r q perm⟩
  · exact absurd rfl e
section
variable {X : Cx} {cl : Nat → Addr} {W : WX} {pin : List Nat}
abbrev PMK (X : Cx) (cl : Nat → Addr) (W : WX) (pin : List Nat) (e : List Keyword) (m : MA) : Prop := PK X e (LA X.K cl W pin m)
theorem PK.imp {e : List Keyword} {t u : TA} (h : PK X e t) (i : ∀ σ H Q, u σ H Q → t σ H Q) : PK X e u := ⟨fun pos pins s σ H Q I hw => h.run pos pins s σ H Q I (i σ H Q hw)⟩
theorem wNil : PMK X cl W pin [] mNil := PK.imp pk_nil fun σ H Q ⟨S, F, fp, E0, Q0, E, h2, x, k⟩ => k _ _ h2 [] F H fp Stp.refl E rfl
theorem wCons {e : Expr} {kpos : Pos} {nm : Option Str} {kws : List Keyword} {m : ME} {ms : MA} (h : PM X cl W pin e m) (t : PMK X cl W pin kws ms) : PMK X cl W pin (⟨nm, e, kpos⟩ :: kws) (mCons m ms) :=
  PK.imp (pk_cons h t) fun σ H Q ⟨S, F, fp, E0, Q0, E, h2, x, k⟩ => by
    refine LE.mk E h2 x fun r1 S1 v1 F1 H1 fp1 q1 st1 e1 rr1 x1 => ?_
    obtain ⟨G1, e1', st1', sg, ra1⟩ := RelR.ready e1 st1 rr1
    have x1' : Exl X.K cl W pin σ G1 H1 S1 fp1 E0 := x.step st1' fun _ _ => rfl
    refine LA.mk e1' q1 x1' fun rs S2 vs F2 H2 fp2 q2 st2 e2 rr2 x2 => ?_
    exact k _ _ q2 (v1 :: vs) F2 H2 fp2 (st1'.trans st2) e2 ⟨v1, vs, rfl, ra1.mono st2.ff, rr2⟩
theorem RelAs.append {K : PySem.W.Frag} {F : Hp} {σ : L2.St} : ∀ {rs zs : List R} {vs us : List V}, RelAs K cl F σ rs vs → RelAs K cl F σ zs us → RelAs K cl F σ (rs ++ zs) (vs ++ us)
  | [], _, _, _, h, q => by have e : _ = _ := h; subst e; exact q
  | r :: rs, _, _, _, ⟨v, us, e, h, t⟩, q => by subst e; exact ⟨v, _, rfl, h, RelAs.append t q⟩
theorem RelAs.perm {K : PySem.W.Frag} {F : Hp} {σ : L2.St} {rs zs : List R} {vs us : List V} (h : RelAs K cl F σ rs vs) (q : RelAs K cl F σ zs us) : ∀ perm : List Nat, RelAs K cl F σ (permR perm (rs ++ zs)) (permV perm vs us)
  | [] => rfl
  | j :: perm => by
    refine ⟨_, _, rfl, ?_, RelAs.perm h q perm⟩
    have a := h.append q
    show RelA K cl F σ ((rs ++ zs).getD j (.val .non)) ((vs ++ us).getD j .non)
    rw [List.getD_eq_getElem?_getD, List.getD_eq_getElem?_getD]
    cases e : (rs ++ zs)[j]? with
    | none =>
      have hl := a.length
      have e' : (vs ++ us)[j]? = none := by
        rw [List.getElem?_eq_none_iff] at e ⊢
        omega
      rw [e']
      show Rep _ _ _ _ _
      rw [Rep]; rfl
    | some r =>
      obtain ⟨v, h1, h2⟩ := a.get e
      rw [h1]; exact h2
variable {fs : FS} {ma mk : MA} {k j n : Nat} {x : Str} {st : Stmt} {ps ks : List Str} {p pos : Pos} {e : Expr} {es : List Expr} {kws : List Keyword} {perm : List Nat}
theorem run_kw {f : Addr} {fd : FuncData} {CX : CXT} {sp : Sp} {g : List Value → List Value → List Value} {gV : List V → List V → List V} {E : L2.St → XK} {pins : List (Addr × Obj)} {σ : L2.St} {H : Hp} {s : Shared} {Q : VK} {us ws : List Value} {vs zs : List V}
    (F : FnOk X.prog X.w X.K X.mg X.base CX k f fd ps sp) (hr : Room k X.A) (hb : KBn X.K fd ps n ks g gV) (hx : PassesAt CX X σ (E σ))
    (I : Inv X pins σ H s) (r : Vals vs us) (rz : Vals zs ws) (l1 : us.length = n) (l2 : ws.length = ks.length) (h : sp (gV vs zs) H Q (E σ)) : wpAny (model X.prog X.w) X.A (call (.ref f) us (ks.zip ws)) (EP X pins σ Q) X.xe s := by
  have r2 := hb.rel r rz
  refine wpAny_call (codeAny_mono (F.run X.A X.stack s H ⟨us, ks.zip ws⟩ (g us ws) (gV vs zs) Q (E σ) hr I.env0 (hb.to s us ws I.kIn l1 l2) r2 h) fun r s' hq => ?_)
  cases r with
  | error e => exact hx pins H s e s' I hq
  | ok fl =>
    cases fl with
    | ret u => exact I.after hq
    | next => exact False.elim hq
    | brk => exact False.elim hq
    | cont => exact False.elim hq
/-- f(k = v, ..) -/
theorem qCallK0 (F : Fnc X.prog X.w X.K X.mg X.base cl k x st ps fs) (g : Good X W j) (hk : k ≤ j) (hg : Gl X x) (hkw : PMK X cl W pin kws mk)
    (hb : ∀ (kV doc pm : Value) (an : Option Addr) (cdv ct : Value) (us ws : List Value), us.length = 0 → ws.length = ks.length → bindArgs (PySem.W.fnOf x x (defArgs st) (defBody st) (defScope st) .none kV doc pm an cdv ct) ⟨us, ks.zip ws⟩ = pure (ps.zip (permU perm us ws)))
    (hall : (backToKw pos (keywordEach kws X.env)).all (·.1.isSome) = true := by rfl) (hks : (backToKw pos (keywordEach kws X.env)).filterMap (·.1) = ks := by rfl) (hlen : kws.length = ks.length := by rfl)
    (hdb : (x == ("__debug__" : Str)) = false := by decide) (hpl : ((backTo pos (starEach [] X.env)).any (·.1) || (backToKw pos (keywordEach kws X.env)).any (·.1.isNone)) = false := by rfl) : PM X cl W pin (.Call (.Name x p) [] kws pos) (mCall fs (mPerm 0 kws.length perm mNil mk)) := by
  obtain ⟨f, fd, F1, hm, FD, _⟩ := F.ex
  have hb' := kb_perm FD hb
  refine ⟨fun pins s σ H Q I h => ?_⟩
  refine wpAny_Call_Name_kw (ld_glob I hg hm ?_ hdb)
  obtain ⟨S, F, fp, E0, Q0, E, h2, x0, k0⟩ := h
  have h3 : LA X.K cl W pin mk σ H fun zs H1 => zs.length = kws.length ∧ spF X.K cl fs (permV perm [] zs) H1 Q (WE W σ) := by
    refine LA.mk E h2.2 x0 fun rs S1 vs F1 H1 fp1 q1 st1 e1 rr1 x1 => ?_
    refine ⟨by rw [← rr1.length]; exact q1.1, sp_call e1 (RelAs.perm (rs := []) (vs := []) rfl rr1 perm) x1 q1.2 fun r S' q v F' H' fp' st e rel => k0 r S' q v F' H' fp' (st1.trans st) e (rel.from st1)⟩
  refine PySem.W.callWith_KW0 (h₀ := X.base) I.ok.mod.kin FD.kp hall (thn (hkw.run pos pins s σ H _ I h3) fun ws s2 ⟨zs, H2, I2, rz, l2, q2⟩ => ⟨I2.kIn, ?_⟩) hpl
  rw [hks]
  exact run_kw (us := []) F1 (g.room.mono hk) hb' (passAt g.takes σ) I2 .nil rz rfl (by rw [← rz.length, l2, hlen]) q2
/-- f(e, .., k = v, ..) -/
theorem qCallK (F : Fnc X.prog X.w X.K X.mg X.base cl k x st ps fs) (g : Good X W j) (hk : k ≤ j) (hg : Gl X x) (ha : PMA X cl W pin (e :: es) ma) (hkw : PMK X cl W pin kws mk)
    (hb : ∀ (kV doc pm : Value) (an : Option Addr) (cdv ct : Value) (us ws : List Value), us.length = es.length + 1 → ws.length = ks.length → bindArgs (PySem.W.fnOf x x (defArgs st) (defBody st) (defScope st) .none kV doc pm an cdv ct) ⟨us, ks.zip ws⟩ = pure (ps.zip (permU perm us ws)))
    (hall : (backToKw pos (keywordEach kws X.env)).all (·.1.isSome) = true := by rfl) (hks : (backToKw pos (keywordEach kws X.env)).filterMap (·.1) = ks := by rfl) (hlen : kws.length = ks.length := by rfl)
    (hdb : (x == ("__debug__" : Str)) = false := by decide) (he : starEach (e :: es) X.env = (false, eval e X.env) :: starEach es X.env := by rfl)
    (hpl : ((backTo pos (starEach (e :: es) X.env)).any (·.1) || (backToKw pos (keywordEach kws X.env)).any (·.1.isNone)) = false := by rfl) : PM X cl W pin (.Call (.Name x p) (e :: es) kws pos) (mCall fs (mPerm (es.length + 1) kws.length perm ma mk)) := by
  obtain ⟨f, fd, F1, hm, FD, _⟩ := F.ex
  have hb' := kb_perm FD hb
  refine ⟨fun pins s σ H Q I h => ?_⟩
  refine wpAny_Call_Name_kw (ld_glob I hg hm ?_ hdb)
  obtain ⟨S, F, fp, E0, Q0, E, h2, x0, k0⟩ := h
  have h3 : LA X.K cl W pin ma σ H fun vs H0 => vs.length = es.length + 1 ∧ LA X.K cl W pin mk σ H0 fun zs H1 => zs.length = kws.length ∧ spF X.K cl fs (permV perm vs zs) H1 Q (WE W σ) := by
    refine LA.mk E h2 x0 fun rs S1 vs F1 H1 fp1 q1 st1 e1 rr1 x1 => ?_
    refine ⟨by rw [← rr1.length]; exact q1.1, ?_⟩
    refine LA.mk e1 q1.2 x1 fun zs S2 us F2 H2 fp2 q2 st2 e2 rr2 x2 => ?_
    refine ⟨by rw [← rr2.length]; exact q2.1, sp_call e2 (RelAs.perm (rr1.mono st2.ff) rr2 perm) x2 q2.2 fun r S' q v F' H' fp' st e rel => k0 r S' q v F' H' fp' ((st1.trans st2).trans st) e (rel.from (st1.trans st2))⟩
  refine PySem.W.callWith_KW (h₀ := X.base) I.ok.mod.kin FD.kp hall (thn (ha.run pos pins s σ H _ I h3) fun us s1 ⟨vs, H1, I1, r, l1, q⟩ => ?_) hpl he
  refine thn (hkw.run pos pins s1 σ H1 _ I1 q) fun ws s2 ⟨zs, H2, I2, rz, l2, q2⟩ => ⟨I2.kIn, ?_⟩
  rw [hks]
  exact run_kw F1 (g.room.mono hk) hb' (passAt g.takes σ) I2 r rz (r.length.symm.trans l1) (rz.length.symm.trans (l2.trans hlen)) q2
end
end Mv

/-! Mv: one's own lists changed; methods; comprehensions. -/
namespace Mv
open PySem L2

section
variable {K : PySem.W.Frag} {cl : Nat → Addr} {F H F' H' : Hp} {σ : L2.St} {S S' : Fm} {fp fp' : Nat → List Addr}
theorem Ow.setSame {i : Nat} {o u : O} {a : Addr} (h : S[i]? = some (Sl.ow o)) (q : Ow (S.set i (.ow u)) fp a) : Ow S fp a := by
  obtain ⟨j, w, h1, h2⟩ := q
  by_cases e : i = j
  · subst e; exact ⟨_, o, h, h2⟩
  · rw [List.getElem?_set_ne e] at h1; exact ⟨j, w, h1, h2⟩
/-- a thing of one's own, put anew at its place -/
theorem EnvR.put {i : Nat} {o o' : O} {u : HO} {p : Addr} (E : EnvR K cl F H σ S fp) (h : S[i]? = some (Sl.ow o)) (hp : σ[i]? = some (some (.ref p))) (hf : fp i = [p]) (c : CellR K cl F (upd H p u) o' p [p]) :
    EnvR K cl F (upd H p u) σ (S.set i (.ow o')) fp ∧ Stp F H S fp F (upd H p u) (S.set i (.ow o')) fp := by
  have ip : p ∈ fp i := by rw [hf]; simp
  have fn : F p = none := E.nf i o h p ip
  have il : i < S.length := (List.getElem?_eq_some_iff.mp h).1
  have op : Ow S fp p := ⟨i, o, h, ip⟩
  refine ⟨⟨fun a w e => ?_, by rw [List.length_set]; exact E.len, fun j d hj => ?_, fun j w hj => ?_, fun j w hj a ha => ?_, fun j l w z ne hj hl a ha => ?_, E.tb.upd fun u e => by
    obtain ⟨w, h1, h2⟩ := E.owned2 (a := p) ⟨i, o, h, ip⟩
    rw [h1] at e; cases e; exact h2⟩, ⟨Same.refl F, fun a w e _ n => ?_, fun a w e _ z _ => z, fun a q => .inl (Ow.setSame h q), fun a q => ?_⟩⟩
  · rw [upd_ne fun z => by rw [z, fn] at e; cases e]; exact E.sub a w e
  · by_cases e : i = j
    · subst e; rw [List.getElem?_set_self il] at hj; cases hj
    · rw [List.getElem?_set_ne e] at hj; exact E.fz j d hj
  · by_cases e : i = j
    · subst e; rw [List.getElem?_set_self il] at hj; cases hj
      exact ⟨p, hp, by rw [hf]; exact c⟩
    · rw [List.getElem?_set_ne e] at hj
      obtain ⟨q, h1, h2⟩ := E.ow j w hj
      refine ⟨q, h1, h2.mono (Same.refl F) fun a ha => upd_ne fun z => ?_⟩
      subst z
      exact E.dj i j o w e h hj a ip ha
  · by_cases e : i = j
    · subst e; exact E.nf i o h a ha
    · rw [List.getElem?_set_ne e] at hj; exact E.nf j w hj a ha
  · have k1 : ∃ w', S[j]? = some (Sl.ow w') := by
      by_cases e : i = j
      · subst e; exact ⟨o, h⟩
      · rw [List.getElem?_set_ne e] at hj; exact ⟨w, hj⟩
    have k2 : ∃ w', S[l]? = some (Sl.ow w') := by
      by_cases e : i = l
      · subst e; exact ⟨o, h⟩
      · rw [List.getElem?_set_ne e] at hl; exact ⟨z, hl⟩
    obtain ⟨w1, k1⟩ := k1
    obtain ⟨w2, k2⟩ := k2
    exact E.dj j l w1 w2 ne k1 k2 a ha
  · rw [upd_ne fun z => n (by rw [z]; exact op)]; exact e
  · by_cases z : a = p
    · subst z; rw [upd_same] at q; cases q
    · rw [upd_ne z] at q; exact q
theorem EnvR.putL {i : Nat} {xs xs' : List D} {ws : List V} {p : Addr} (E : EnvR K cl F H σ S fp) (h : S[i]? = some (Sl.ow (.lst xs))) (hp : σ[i]? = some (some (.ref p))) (r : RepL K cl F xs' ws) :
    EnvR K cl F (upd H p (.lst ws)) σ (S.set i (.ow (.lst xs'))) fp ∧ Stp F H S fp F (upd H p (.lst ws)) (S.set i (.ow (.lst xs'))) fp := by
  obtain ⟨q, h1, c⟩ := E.ow i _ h
  rw [hp] at h1; cases h1
  exact E.put h hp c.1 ⟨rfl, ws, upd_same, r⟩
theorem EnvR.lstAt {i : Nat} {xs : List D} (E : EnvR K cl F H σ S fp) (h : S[i]? = some (Sl.ow (.lst xs))) : ∃ p ws, σ[i]? = some (some (.ref p)) ∧ H p = some (.lst ws) ∧ RepL K cl F xs ws := by
  obtain ⟨q, h1, c⟩ := E.ow i _ h
  obtain ⟨_, ws, h2, h3⟩ := c
  exact ⟨q, ws, h1, h2, h3⟩
end

/-! ### methods that change a list -/
abbrev DMu := List D → List D → (List D → D → Prop) → Prop
def luQ (S : Fm) (i : Nat) (k : List D → Prop) : Prop := ∃ xs, S[i]? = some (Sl.ow (.lst xs)) ∧ k xs
def mMut (i : Nat) (lop : DMu) (ma : MA) : ME := fun E Q S => luQ S i fun _ => ma E (fun rs S1 => valsOf rs fun ds => luQ S1 i fun xs => lop xs ds fun xs' d => Q (.val d) (S1.set i (.ow (.lst xs')))) S
def MuR (K : PySem.W.Frag) (cl : Nat → Addr) (r : V → List V → Hp → VK → Prop) (lop : DMu) : Prop := ∀ F H p ws xs ds vs k Q, Same F H → H p = some (.lst ws) → RepL K cl F xs ws → RepL K cl F ds vs → lop xs ds k →
  (∀ xs' d, k xs' d → ∀ ws' v, RepL K cl F xs' ws' → Rep K cl F d v → Q v (upd H p (.lst ws'))) → r (.ref p) vs H Q
section
variable {X : Cx} {cl : Nat → Addr} {W : WX} {pin : List Nat} {o e : Expr} {es : List Expr} {ma : MA} {apos cpos : Pos} {name : Str} {id : String} {r : V → List V → Hp → VK → Prop} {lop : DMu} {i : Nat}
theorem qMut (slot : Slot "list" name id) (hty : typeOf (.builtin id) = pure (.type "method_descriptor")) (hm : MtR X id r) (mu : MuR X.K cl r lop) (ho : PE X o (tVar i)) (ha : PMA X cl W pin (e :: es) ma)
    (hbase : attributeBase o name X.env (eval o X.env) = eval o X.env := by rfl)
    (hfew : ((backTo cpos (starEach (e :: es) X.env)).all (fun x => !x.1) && (backToKw cpos (keywordEach [] X.env)).all (fun x => x.1.isSome)
      && decide ((e :: es).length + ([] : List Keyword).length + (if ([] : List Keyword).isEmpty then 0 else 1) < 30)) = true := by rfl)
    (hline : (apos.endLine == cpos.line) = true := by rfl) (hs : starEach (e :: es) X.env = (false, eval e X.env) :: starEach es X.env := by rfl) (hplain : (backTo cpos (starEach es X.env)).any (·.1) = false := by rfl) :
    PM X cl W pin (.Call (.Attribute o name apos) (e :: es) [] cpos) (mMut i lop ma) :=
  PE.imp (pe_bm PySem.F.plainAttrs_list slot hty hm ho ha hbase hfew hline hs hplain) fun σ H Q ⟨S, F, fp, E0, Q0, E, ⟨xs0, h0, h2⟩, x, k⟩ => by
    obtain ⟨p, ws, h3, h4, _⟩ := E.lstAt h0
    refine ⟨_, h3, .inl ⟨rfl, ws, SqL.of h4⟩, LA.mk E h2 x fun rs S1 vs F1 H1 fp1 q st1 e1 rr x1 => ?_⟩
    obtain ⟨ds, rd, xs, g1, g2⟩ := valsOf_rep rr q
    obtain ⟨p1, ws1, j1, j2, j3⟩ := e1.lstAt g1
    rw [h3] at j1; cases j1
    refine mu F1 H1 p ws1 xs ds vs _ _ e1.sub j2 j3 rd g2 fun xs' d hk ws' v r1 r2 => ?_
    obtain ⟨k1, k2⟩ := e1.putL g1 h3 r1
    exact k _ _ hk v F1 _ fp1 (st1.trans k2) k1 r2
theorem qMut0 (slot : Slot "list" name id) (hty : typeOf (.builtin id) = pure (.type "method_descriptor")) (hm : MtR X id r) (mu : MuR X.K cl r lop) (ho : PE X o (tVar i))
    (hbase : attributeBase o name X.env (eval o X.env) = eval o X.env := by rfl) (hline : (apos.endLine == cpos.line) = true := by rfl) :
    PM X cl W pin (.Call (.Attribute o name apos) [] [] cpos) (mMut i lop mNil) :=
  PE.imp (pe_bm0 PySem.F.plainAttrs_list slot hty hm ho hbase hline) fun σ H Q ⟨S, F, fp, E0, Q0, E, ⟨xs0, h0, h2⟩, x, k⟩ => by
    obtain ⟨p, ws, h3, h4, _⟩ := E.lstAt h0
    refine ⟨_, h3, .inl ⟨rfl, ws, SqL.of h4⟩, ?_⟩
    have h2' : luQ S i fun xs => lop xs [] fun xs' d => Q0 (.val d) (S.set i (.ow (.lst xs'))) := h2
    obtain ⟨xs, g1, g2⟩ := h2'
    obtain ⟨p1, ws1, j1, j2, j3⟩ := E.lstAt g1
    rw [h3] at j1; cases j1
    refine mu F H p ws1 xs [] [] _ _ E.sub j2 j3 .nil g2 fun xs' d hk ws' v r1 r2 => ?_
    obtain ⟨k1, k2⟩ := E.putL g1 h3 r1
    exact k _ _ hk v F _ fp k2 k1 r2
end
def lAppend : DMu := fun xs ds k => match ds with
  | [d] => xs.length < 16777216 ∧ k (xs ++ [d]) .non
  | _ => False
def lExtend : DMu := fun xs ds k => match ds with
  | [.lst ys] => xs.length + ys.length ≤ 16777216 ∧ k (xs ++ ys) .non
  | _ => False
def lPop : DMu := fun xs ds k => match ds with
  | [] => ∃ d, xs[xs.length - 1]? = some d ∧ k xs.dropLast d
  | _ => False
def lPopAt : DMu := fun xs ds k => match ds with
  | [.int i] => (-(2 ^ 63) ≤ i ∧ i < 2 ^ 63) ∧ ∃ j d, ixN xs.length i = some j ∧ xs[j]? = some d ∧ k (xs.eraseIdx j) d
  | _ => False
def lReverse : DMu := fun xs ds k => match ds with
  | [] => k xs.reverse .non
  | _ => False
def lInsert : DMu := fun xs ds k => match ds with
  | [.int i, d] => (xs.length < 16777216 ∧ 0 ≤ i ∧ i < 2 ^ 63) ∧ k (xs.take i.toNat ++ [d] ++ xs.drop i.toNat) .non
  | _ => False
section
variable {K : PySem.W.Frag} {cl : Nat → Addr} {F : Hp}
theorem RepL.app : ∀ {xs ys : List D} {vs ws : List V}, RepL K cl F xs vs → RepL K cl F ys ws → RepL K cl F (xs ++ ys) (vs ++ ws)
  | [], _, _, _, h, q => by rw [RepL] at h; subst h; exact q
  | d :: ds, _, _, _, h, q => by
    rw [RepL] at h
    obtain ⟨v, r, rfl, h1, h2⟩ := h
    exact .cons h1 (RepL.app h2 q)
theorem RepL.rev : ∀ {xs : List D} {vs : List V}, RepL K cl F xs vs → RepL K cl F xs.reverse vs.reverse
  | [], _, h => by rw [RepL] at h; subst h; exact .nil
  | d :: ds, _, h => by
    rw [RepL] at h
    obtain ⟨v, r, rfl, h1, h2⟩ := h
    rw [List.reverse_cons, List.reverse_cons]
    exact (RepL.rev h2).app (.cons h1 .nil)
theorem rep_non {v : V} (h : Rep K cl F .non v) : v = .non := by rwa [Rep] at h
theorem mu_append : MuR K cl rAppend lAppend := fun F H p ws xs ds vs k Q s h r rd q f => by
  match ds, rd, q with
  | [d], rd, q =>
    rw [RepL] at rd
    obtain ⟨v, r0, rfl, h1, h2⟩ := rd
    rw [RepL] at h2; subst h2
    refine ⟨p, ws, v, rfl, rfl, h, by rw [sizeLine_eq, ← r.length]; exact q.1, f _ _ q.2 _ _ (r.app (.cons h1 .nil)) (by rw [Rep])⟩
theorem mu_extend : MuR K cl rExtend lExtend := fun F H p ws xs ds vs k Q s h r rd q f => by
  unfold lExtend at q
  split at q
  · rw [RepL] at rd
    obtain ⟨v, r0, rfl, h1, h2⟩ := rd
    rw [RepL] at h2; subst h2
    rw [Rep] at h1
    obtain ⟨a, zs, rfl, g1, g2⟩ := h1
    exact ⟨p, a, ws, zs, rfl, rfl, h, s _ _ g1, by rw [sizeLine_eq, ← r.length, ← g2.length]; exact q.1, f _ _ q.2 _ _ (r.app g2) (by rw [Rep])⟩
  · exact q.elim
theorem mu_pop : MuR K cl rPop lPop := fun F H p ws xs ds vs k Q s h r rd q f => by
  match ds, rd, q with
  | [], rd, ⟨d, q1, q2⟩ =>
    rw [RepL] at rd; subst rd
    obtain ⟨v, h1, h2⟩ := r.get q1
    exact ⟨p, ws, v, rfl, rfl, h, by rw [← r.length]; exact h1, f _ _ q2 _ _ r.dropLast h2⟩
theorem mu_popAt : MuR K cl rPopAt lPopAt := fun F H p ws xs ds vs k Q s h r rd q f => by
  unfold lPopAt at q
  split at q
  · obtain ⟨b, j, d, q0, q1, q2⟩ := q
    rw [RepL] at rd
    obtain ⟨v, r0, rfl, h1, h2⟩ := rd
    rw [RepL] at h2; subst h2
    rw [Rep] at h1; subst h1
    obtain ⟨u, h1, h2⟩ := r.get q1
    exact ⟨p, ws, _, j, u, rfl, rfl, h, b.1, b.2, by rw [← r.length]; exact (ixN_seq q0).1, h1, f _ _ q2 _ _ (r.eraseIdx j) h2⟩
  · exact q.elim
theorem mu_reverse : MuR K cl rReverse lReverse := fun F H p ws xs ds vs k Q s h r rd q f => by
  match ds, rd, q with
  | [], rd, q =>
    rw [RepL] at rd; subst rd
    exact ⟨p, ws, rfl, rfl, h, f _ _ q _ _ r.rev (by rw [Rep])⟩
theorem mu_insert : MuR K cl (fun x vs H Q => ∃ (l : Addr) (xs : List V) (i : Int) (y : V), x = .ref l ∧ vs = [.int i, y] ∧ H l = some (.lst xs) ∧ xs.length < sizeLine ∧ 0 ≤ i ∧ i < 2 ^ 63 ∧
    Q .non (upd H l (.lst (xs.take i.toNat ++ [y] ++ xs.drop i.toNat)))) lInsert := fun F H p ws xs ds vs k Q s h r rd q f => by
  unfold lInsert at q
  split at q
  · obtain ⟨b, q⟩ := q
    rw [RepL] at rd
    obtain ⟨v, r0, rfl, h1, h2⟩ := rd
    rw [RepL] at h2
    obtain ⟨v2, r0, rfl, h3, h4⟩ := h2
    rw [RepL] at h4; subst h4
    rw [Rep] at h1; subst h1
    exact ⟨p, ws, _, v2, rfl, rfl, h, by rw [sizeLine_eq, ← r.length]; exact b.1, b.2.1, b.2.2, f _ _ q _ _ (((RepL.take _ r).app (.cons h3 .nil)).app (RepL.drop _ r)) (by rw [Rep])⟩
  · exact q.elim
end

/-! ### x[i] = e -/
def sPut (i : Nat) (mi m : ME) : MS := fun Z S => m Z.ex (fun r S1 => match fzR r with
  | .val d => luQ S1 i fun _ => mi Z.ex (fun q S2 => match q with
    | .val (.int j) => luQ S2 i fun xs => ∃ l, ixN xs.length j = some l ∧ Z.nx (S2.set i (.ow (.lst (xs.set l d))))
    | _ => False) S1
  | _ => False) S
section
variable {X : Cx} {cl : Nat → Addr} {W : WX} {pin : List Nat} {o ix e : Expr} {mi m : ME} {i : Nat} {tpos pos : Pos}
theorem RepL.setAt {K : PySem.W.Frag} {F : Hp} : ∀ {xs : List D} {vs : List V} (j : Nat) {d : D} {v : V}, RepL K cl F xs vs → Rep K cl F d v → RepL K cl F (xs.set j d) (vs.set j v)
  | [], _, _, _, _, h, _ => by rw [RepL] at h; subst h; exact .nil
  | x :: ds, _, 0, _, _, h, q => by
    rw [RepL] at h
    obtain ⟨v, r, rfl, h1, h2⟩ := h
    exact .cons q h2
  | x :: ds, _, j + 1, _, _, h, q => by
    rw [RepL] at h
    obtain ⟨v, r, rfl, h1, h2⟩ := h
    exact .cons h1 (RepL.setAt j h2 q)
theorem kPut (ho : PE X o (tVar i)) (hi : PM X cl W pin ix mi) (he : PM X cl W pin e m)
    (h1 : PG X (.Subscript o ix tpos) (gSub (tVar i) (LE X.K cl W pin mi) rSetL)) (hs : swapsWithSole [.Subscript o ix tpos] e pos.line X.env = pure false := by rfl) (hw : swappedStores [.Subscript o ix tpos] e X.env = pure none := by rfl)
    (h2 : (assignEach [.Subscript o ix tpos] X.env).map (·.2) = [assign (.Subscript o ix tpos) X.env] := by rfl) : PMS X cl W pin (.Assign [.Subscript o ix tpos] e pos) (sPut i mi m) :=
  PS.imp (ps_asg he h1 hs hw h2) fun D σ H h => by
    obtain ⟨S, F, fp, D0, E, h2, gl⟩ := LS.iff.mp h
    refine LE.mk E h2 gl.ex fun r S1 v F1 H1 fp1 q1 st1 e1 rr x1 => ?_
    obtain ⟨G1, e1', st1', sg, ra1⟩ := RelR.ready e1 st1 rr
    cases hr : fzR r with
    | val d =>
      simp only [hr] at q1 ra1
      obtain ⟨xs0, g0, q1⟩ := q1
      obtain ⟨p, ws, h3, h4, _⟩ := e1'.lstAt g0
      have ra : Rep X.K cl G1 d v := ra1
      refine ⟨_, h3, LE.mk e1' q1 (gl.ex.step st1' fun _ _ => rfl) fun r2 S2 v2 F2 H2 fp2 q2 st2 e2 rr2 x2 => ?_⟩
      match r2, q2, rr2 with
      | .val (.int j), ⟨xs, g1, l, g2, g3⟩, rr2 =>
        have z : Rep X.K cl F2 (.int j) v2 := rr2
        rw [Rep] at z; subst z
        obtain ⟨p1, ws1, j1, j2, j3⟩ := e2.lstAt g1
        rw [h3] at j1; cases j1
        obtain ⟨k1, k2⟩ := e2.putL g1 h3 (RepL.setAt l j3 (Rep.mono st2.ff _ _ ra))
        exact ⟨p, ws1, j, l, rfl, rfl, j2, by rw [← j3.length]; exact g2, gl.nx _ g3 σ F2 _ fp2 (fun _ _ => rfl) ((st1'.trans st2).trans k2) k1⟩
    | own o => simp only [hr] at q1
    | slot i => simp only [hr] at q1
end

/-! ### methods of what is there -/
def tyMeth : String → D → Bool
  | "list", .lst _ => true
  | "list", .rol _ => true
  | "str", .str _ => true
  | "dict", .dT _ => true
  | _, _ => false
abbrev DMe := D → List D → (R → Prop) → Prop
def mMeth (T : String) (dop : DMe) (a : ME) (ma : MA) : ME := fun E Q S => a E (fun x S1 => pkQ S1 (fzR x) fun d0 => tyMeth T d0 = true ∧ ma E (fun rs S2 => pkQ S2 (fzR x) fun d => pkQs S2 rs fun ds => dop d ds fun r => Q r S2) S1) S
def MeR (K : PySem.W.Frag) (cl : Nat → Addr) (r : V → List V → Hp → VK → Prop) (dop : DMe) : Prop := ∀ F H d v ds vs k Q, Same F H → Pk K cl F H d v → PkL K cl F H ds vs → dop d ds k → Post0 K cl F H k Q → r v vs H Q
section
variable {X : Cx} {cl : Nat → Addr} {W : WX} {pin : List Nat} {o e : Expr} {es : List Expr} {m : ME} {ma : MA} {apos cpos : Pos} {name : Str} {T id : String} {r : V → List V → Hp → VK → Prop} {dop : DMe}
theorem ty_meth {K : PySem.W.Frag} {F H : Hp} {d : D} {v : V} {T : String} (s : Same F H) (p : Pk K cl F H d v) (h : tyMeth T d = true) : tyV K T v H := by
  unfold tyMeth at h
  split at h
  · obtain ⟨a, vs, rfl, h1, _⟩ := p.lst s; exact .inl ⟨rfl, _, SqL.of h1⟩
  · obtain ⟨a, vs, rfl, h1, _⟩ := p.rol s; exact .inl ⟨rfl, _, h1⟩
  · rw [p.str]; rfl
  · rcases p with p | ⟨o, a, fq, e, rfl, c, _⟩
    · rw [Rep] at p; obtain ⟨a, vs, rfl, h1, h2⟩ := p
      exact .inr (.inr (.inl ⟨rfl, .inr ⟨_, s _ _ h1⟩⟩))
    · cases o <;> first | exact False.elim c | cases e
      obtain ⟨_, vs, h1, h2⟩ := c
      exact .inr (.inr (.inl ⟨rfl, .inr ⟨_, h1⟩⟩))
  · cases h
theorem qMeth (pa : PlainAttrs T) (slot : Slot T name id) (hty : typeOf (.builtin id) = pure (.type "method_descriptor")) (hm : MtR X id r) (mu : MeR X.K cl r dop) (ho : PM X cl W pin o m) (ha : PMA X cl W pin (e :: es) ma)
    (hbase : attributeBase o name X.env (eval o X.env) = eval o X.env := by rfl)
    (hfew : ((backTo cpos (starEach (e :: es) X.env)).all (fun x => !x.1) && (backToKw cpos (keywordEach [] X.env)).all (fun x => x.1.isSome)
      && decide ((e :: es).length + ([] : List Keyword).length + (if ([] : List Keyword).isEmpty then 0 else 1) < 30)) = true := by rfl)
    (hline : (apos.endLine == cpos.line) = true := by rfl) (hs : starEach (e :: es) X.env = (false, eval e X.env) :: starEach es X.env := by rfl) (hplain : (backTo cpos (starEach es X.env)).any (·.1) = false := by rfl) :
    PM X cl W pin (.Call (.Attribute o name apos) (e :: es) [] cpos) (mMeth T dop m ma) :=
  PE.imp (pe_bm pa slot hty hm ho ha hbase hfew hline hs hplain) fun σ H Q ⟨S, F, fp, E0, Q0, E, h2, x, k⟩ =>
    LE.mk E h2 x fun r0 S1 v F1 H1 fp1 q1 st1 e1 rr x1 => by
      obtain ⟨G1, e1', st1', sg, ra1⟩ := RelR.ready e1 st1 rr
      obtain ⟨d0, p0, t0, q2⟩ := RelA.pk e1' ra1 q1
      refine ⟨ty_meth e1'.sub p0 t0, LA.mk e1' q2 (x.step st1' fun _ _ => rfl) fun rs S2 vs F2 H2 fp2 q3 st2 e2 rs2 x2 => ?_⟩
      obtain ⟨d, p1, q4⟩ := RelA.pk e2 (ra1.mono st2.ff) q3
      obtain ⟨ds, p2, q5⟩ := RelAs.pk e2 rs2 q4
      exact mu F2 H2 d v ds vs _ _ e2.sub p1 p2 q5 (post_of e2 (st1'.trans st2) k)
theorem qMeth0 (pa : PlainAttrs T) (slot : Slot T name id) (hty : typeOf (.builtin id) = pure (.type "method_descriptor")) (hm : MtR X id r) (mu : MeR X.K cl r dop) (ho : PM X cl W pin o m)
    (hbase : attributeBase o name X.env (eval o X.env) = eval o X.env := by rfl) (hline : (apos.endLine == cpos.line) = true := by rfl) :
    PM X cl W pin (.Call (.Attribute o name apos) [] [] cpos) (mMeth T dop m mNil) :=
  PE.imp (pe_bm0 pa slot hty hm ho hbase hline) fun σ H Q ⟨S, F, fp, E0, Q0, E, h2, x, k⟩ =>
    LE.mk E h2 x fun r0 S1 v F1 H1 fp1 q1 st1 e1 rr x1 => by
      obtain ⟨G1, e1', st1', sg, ra1⟩ := RelR.ready e1 st1 rr
      obtain ⟨d0, p0, t0, q2⟩ := RelA.pk e1' ra1 q1
      have q2' : pkQ S1 (fzR r0) fun d => dop d [] fun r => Q0 r S1 := q2
      obtain ⟨d, p1, q4⟩ := RelA.pk e1' ra1 q2'
      exact ⟨ty_meth e1'.sub p0 t0, mu G1 H1 d v [] [] _ _ e1'.sub p1 rfl q4 (post_of e1' st1' k)⟩
end
def dIndex : DMe := fun d ds k => match ds with
  | [.int y] => ∃ ns : List Int, (d = .lst (ns.map D.int) ∨ d = .rol (ns.map D.int)) ∧ y ∈ ns ∧ k (.val (.int (ns.idxOf y : Nat)))
  | _ => False
section
variable {K : PySem.W.Frag} {cl : Nat → Addr}
theorem ints_index {F H : Hp} {p : Addr} {ns : List Int} {y : Int} {vs : List V} (hm : y ∈ ns) (h : SqL K H p vs) (r : RepL K cl F (ns.map D.int) vs) {Q : VK} (q : Q (.int (ns.idxOf y : Nat)) H) : rIndex K (.ref p) [.int y] H Q := by
  have e := RepL.ints r
  subst e
  have hl : ns.idxOf y < ns.length := List.idxOf_lt_length_iff.mpr hm
  refine ⟨p, _, .int y, ns.idxOf y, .int y, rfl, rfl, h, rfl, by simp [List.all_eq_true, flatV], ?_, by simp [eqV], fun m z' hlt hz => ?_, q⟩
  · rw [List.getElem?_map, List.getElem?_eq_getElem hl]
    simp
  · rw [List.getElem?_map] at hz
    cases e : ns[m]? with
    | none => rw [e] at hz; cases hz
    | some a =>
      rw [e] at hz
      simp at hz
      subst hz
      have hm2 : m < ns.length := (List.getElem?_eq_some_iff.mp e).1
      have ne : a ≠ y := fun h => by
        subst h
        have := List.not_of_lt_findIdx (xs := ns) (p := (· == a)) (i := m) hlt
        rw [(List.getElem?_eq_some_iff.mp e).2] at this
        simp at this
      simp [eqV, ne]
theorem me_index : MeR K cl (rIndex K) dIndex := fun F H d v ds vs k Q s p rd q P => by
  unfold dIndex at q
  split at q
  · obtain ⟨ns, hd, hm, q⟩ := q
    obtain ⟨u, us, rfl, p2, h0⟩ := rd
    have h0' : us = [] := h0
    subst h0'
    rw [p2.int]
    rcases hd with rfl | rfl
    · obtain ⟨a, ws, rfl, g1, g2⟩ := p.lst s
      exact ints_index hm (SqL.of g1) g2 (P.int s q)
    · obtain ⟨a, ws, rfl, g1, g2⟩ := p.rol s
      exact ints_index hm g1 g2 (P.int s q)
  · exact q.elim
end
end Mv

/-! Mv: comprehensions. -/
namespace Mv
open PySem L2
def wipeS (S : Fm) : List Nat → Fm
  | [] => S
  | v :: vs => (wipeS S vs).set v .un
def resS (S0 : Fm) : List Nat → Fm → Fm
  | [], S => S
  | v :: vs, S => (resS S0 vs S).set v (S0.getD v .un)
def noE : EX := fun _ _ => False
def noW : WX := fun _ _ _ _ => False
def mYes : MT := fun _ Q S => Q true S
def lcW (n : Nat) (vs : List Nat) (g : MG) (mt : MT) (me : ME) : List D → List D → Fm → (List D → Fm → Prop) → Prop
  | [], acc, S, k => k acc S
  | d :: ds, acc, S, k => g d S fun S1 => S1.length = n ∧ mt noE (fun b S2 => if b = true then me noE (fun r S3 => match fzR r with
      | .val y => acc.length < 16777216 ∧ lcW n vs g mt me ds (acc ++ [y]) (wipeS S3 vs) k
      | _ => False) S2 else lcW n vs g mt me ds acc (wipeS S2 vs) k) S1
def noOw (S : Fm) (vs : List Nat) : Prop := ∀ v ∈ vs, ∀ o, S[v]? ≠ some (Sl.ow o)
def mLc (n : Nat) (vs : List Nat) (mi : MI) (g : MG) (mt : MT) (me : ME) : ME := fun E Q S => mi E (fun ds S1 => S1.length = n ∧ noOw S1 vs ∧ lcW n vs g mt me ds [] (wipeS S1 vs) fun acc S2 => Q (.own (.lst acc)) (resS S1 vs S2)) S
/-- the places that a comprehension leaves alone -/
def pinC (n : Nat) (vs : List Nat) : List Nat := (List.range n).filter fun i => !vs.contains i

section
variable {K : PySem.W.Frag} {cl : Nat → Addr} {F H F' H' : Hp} {σ : L2.St} {S S' : Fm} {fp fp' : Nat → List Addr}
theorem wipeS_length (S : Fm) : ∀ vs : List Nat, (wipeS S vs).length = S.length
  | [] => rfl
  | v :: vs => by rw [wipeS, List.length_set, wipeS_length S vs]
theorem resS_length (S0 S : Fm) : ∀ vs : List Nat, (resS S0 vs S).length = S.length
  | [] => rfl
  | v :: vs => by rw [resS, List.length_set, resS_length S0 S vs]
theorem EnvR.unset {i : Nat} (E : EnvR K cl F H σ S fp) : EnvR K cl F H (σ.set i none) (S.set i .un) fp := by
  have sub : ∀ (j : Nat) (p : Sl), p ≠ .un → (S.set i .un)[j]? = some p → i ≠ j ∧ S[j]? = some p := fun j p hp h => by
    by_cases e : i = j
    · subst e
      rw [List.getElem?_set] at h
      simp only [if_true] at h
      split at h
      · cases h; exact absurd rfl hp
      · cases h
    · rw [List.getElem?_set_ne e] at h; exact ⟨e, h⟩
  refine ⟨E.sub, by rw [List.length_set, List.length_set]; exact E.len, fun j d h => ?_, fun j o h => ?_, fun j o h => ?_, fun j l o u ne h1 h2 => ?_, E.tb⟩
  · obtain ⟨e, h⟩ := sub j _ (by simp) h
    rw [List.getElem?_set_ne e]; exact E.fz j d h
  · obtain ⟨e, h⟩ := sub j _ (by simp) h
    rw [List.getElem?_set_ne e]; exact E.ow j o h
  · exact E.nf j o (sub j _ (by simp) h).2
  · exact E.dj j l o u ne (sub j _ (by simp) h1).2 (sub l _ (by simp) h2).2
theorem EnvR.wipe (E : EnvR K cl F H σ S fp) : ∀ vs : List Nat, EnvR K cl F H (L2.wipe σ vs) (wipeS S vs) fp
  | [] => E
  | v :: vs => (EnvR.wipe E vs).unset
theorem Ow.unset {i : Nat} {a : Addr} (h : Ow (S.set i .un) fp a) : Ow S fp a := by
  obtain ⟨j, o, h1, h2⟩ := h
  by_cases e : i = j
  · subst e
    rw [List.getElem?_set] at h1
    simp only [if_true] at h1
    split at h1 <;> cases h1
  · rw [List.getElem?_set_ne e] at h1; exact ⟨j, o, h1, h2⟩
theorem Ow.wipe {a : Addr} : ∀ {vs : List Nat}, Ow (wipeS S vs) fp a → Ow S fp a
  | [], h => h
  | v :: vs, h => Ow.wipe (vs := vs) h.unset
theorem Stp.wipe {F0 H0 : Hp} {S0 : Fm} {fp0 : Nat → List Addr} (st : Stp F0 H0 S0 fp0 F H S fp) (vs : List Nat) : Stp F0 H0 S0 fp0 F H (wipeS S vs) fp := ⟨st.ff, st.hh, st.nn, fun a h => st.oo a h.wipe, st.th⟩
theorem resS_get (S0 S : Fm) (j : Nat) : ∀ vs : List Nat, (j ∉ vs → (resS S0 vs S)[j]? = S[j]?) ∧ (j ∈ vs → ∀ p, (resS S0 vs S)[j]? = some p → p = S0.getD j .un)
  | [] => ⟨fun _ => rfl, fun h => by simp at h⟩
  | v :: vs => by
    obtain ⟨h1, h2⟩ := resS_get S0 S j vs
    by_cases e : v = j
    · subst e
      refine ⟨fun h => by simp at h, fun _ p hp => ?_⟩
      rw [resS, List.getElem?_set] at hp
      simp only [if_true] at hp
      split at hp
      · cases hp; rfl
      · cases hp
    · refine ⟨fun h => ?_, fun h p hp => ?_⟩
      · rw [resS, List.getElem?_set_ne e]; exact h1 (by simp at h; exact h.2)
      · rw [resS, List.getElem?_set_ne e] at hp
        exact h2 (by simp at h; rcases h with h | h; exact absurd h.symm e; exact h) p hp
theorem EnvR.res {S0 : Fm} {F0 H0 : Hp} {fp0 : Nat → List Addr} (E0 : EnvR K cl F0 H0 σ S0 fp0) {vs : List Nat} (no : noOw S0 vs) (sf : Same F0 F') (E : EnvR K cl F' H' (L2.wipe σ vs) S' fp') : EnvR K cl F' H' σ (resS S0 vs S') fp' := by
  have ow : ∀ (j : Nat) (o : O), (resS S0 vs S')[j]? = some (Sl.ow o) → S'[j]? = some (Sl.ow o) := fun j o h => by
    obtain ⟨h1, h2⟩ := resS_get S0 S' j vs
    by_cases e : j ∈ vs
    · have z := h2 e _ h
      have q := no j e o
      rw [List.getD_eq_getElem?_getD] at z
      cases hs : S0[j]? with
      | none => rw [hs] at z; cases z
      | some p => rw [hs] at z q; simp at z; subst z; exact absurd rfl q
    · rw [h1 e] at h; exact h
  refine ⟨E.sub, by rw [resS_length, E.len, L2.wipe_length], fun j d h => ?_, fun j o h => ?_, fun j o h => E.nf j o (ow j o h), fun j l o u ne h1 h2 => E.dj j l o u ne (ow j o h1) (ow l u h2), E.tb⟩
  · obtain ⟨h1, h2⟩ := resS_get S0 S' j vs
    by_cases e : j ∈ vs
    · have z := h2 e _ h
      rw [List.getD_eq_getElem?_getD] at z
      cases hs : S0[j]? with
      | none => rw [hs] at z; cases z
      | some p =>
        rw [hs] at z; simp at z; subst z
        obtain ⟨v, g1, g2⟩ := E0.fz j d hs
        exact ⟨v, g1, g2.mono sf⟩
    · rw [h1 e] at h
      obtain ⟨v, g1, g2⟩ := E.fz j d h
      exact ⟨v, (L2.wipe_some g1).1, g2⟩
  · obtain ⟨p, g1, g2⟩ := E.ow j o (ow j o h)
    exact ⟨p, (L2.wipe_some g1).1, g2⟩
theorem Ow.res {S0 : Fm} {vs : List Nat} {a : Addr} (no : noOw S0 vs) (h : Ow (resS S0 vs S') fp a) : Ow S' fp a := by
  obtain ⟨j, o, h, h2⟩ := h
  refine ⟨j, o, ?_, h2⟩
  obtain ⟨h1, h2⟩ := resS_get S0 S' j vs
  by_cases e : j ∈ vs
  · have z := h2 e _ h
    have q := no j e o
    rw [List.getD_eq_getElem?_getD] at z
    cases hs : S0[j]? with
    | none => rw [hs] at z; cases z
    | some p => rw [hs] at z q; simp at z; subst z; exact absurd rfl q
  · rw [h1 e] at h; exact h
/-- a new object beside a state -/
structure Held (F H : Hp) (S : Fm) (fp : Nat → List Addr) (D : Addr) (o : HO) : Prop where
  hd : H D = some o
  fn : F D = none
  no : ¬ Ow S fp D
  nt : ¬ TX o
theorem Held.nts {F H : Hp} {S : Fm} {fp : Nat → List Addr} {D : Addr} {o : HO} (h : Held F H S fp D o) : ∀ u, H D = some u → ¬ TX u := fun u e => by rw [h.hd] at e; cases e; exact h.nt
theorem nt_none {H : Hp} {D : Addr} (h : H D = none) : ∀ u, H D = some u → ¬ TX u := fun u e => by rw [h] at e; cases e
theorem Held.step {D : Addr} {o : HO} (h : Held F H S fp D o) (st : Stp F H S fp F' H' S' fp') : Held F' H' S' fp' D o :=
  ⟨st.hh D o h.hd (nt_of h.nt) h.no, st.nn D o h.hd h.nt h.fn h.no, (fun q => by
    rcases st.oo D q with z | z
    · exact h.no z
    · rw [h.hd] at z; cases z), h.nt⟩
theorem EnvR.updOut {D : Addr} {o : HO} (E : EnvR K cl F H σ S fp) (fn : F D = none) (no : ¬ Ow S fp D) (nt : ∀ u, H D = some u → ¬ TX u := by first | exact nt_none (by assumption) | exact Held.nts (by assumption)) : EnvR K cl F (upd H D o) σ S fp := by
  refine ⟨fun a w e => ?_, E.len, E.fz, fun j u hj => ?_, E.nf, E.dj, E.tb.upd nt⟩
  · rw [upd_ne fun z => by rw [z, fn] at e; cases e]; exact E.sub a w e
  · obtain ⟨p, h1, h2⟩ := E.ow j u hj
    exact ⟨p, h1, h2.mono (Same.refl F) fun a ha => upd_ne fun z => no (z ▸ ⟨j, u, hj, ha⟩)⟩
theorem Stp.updOut {F0 H0 : Hp} {S0 : Fm} {fp0 : Nat → List Addr} {D : Addr} {o : HO} (st : Stp F0 H0 S0 fp0 F H S fp) (h0 : H0 D = none) : Stp F0 H0 S0 fp0 F (upd H D o) S fp := by
  refine ⟨st.ff, fun a w e nt n => ?_, st.nn, st.oo, fun a q => ?_⟩
  · rw [upd_ne fun z => by rw [z, h0] at e; cases e]; exact st.hh a w e nt n
  · by_cases z : a = D
    · subst z; rw [upd_same] at q; cases q
    · rw [upd_ne z] at q; exact st.th a q
theorem wipe_get (σ : L2.St) (j : Nat) : ∀ vs : List Nat, (j ∉ vs → (L2.wipe σ vs)[j]? = σ[j]?) ∧ (j ∈ vs → j < σ.length → (L2.wipe σ vs)[j]? = some none)
  | [] => ⟨fun _ => rfl, fun h => by simp at h⟩
  | v :: vs => by
    obtain ⟨h1, h2⟩ := wipe_get σ j vs
    by_cases e : v = j
    · subst e
      refine ⟨fun h => by simp at h, fun _ hl => ?_⟩
      rw [L2.wipe, List.getElem?_set_self (by rw [L2.wipe_length]; exact hl)]
    · refine ⟨fun h => ?_, fun h hl => ?_⟩
      · rw [L2.wipe, List.getElem?_set_ne e]; exact h1 (by simp at h; exact h.2)
      · rw [L2.wipe, List.getElem?_set_ne e]
        exact h2 (by simp at h; rcases h with h | h; exact absurd h.symm e; exact h) hl
theorem wipe_again {σ σ2 : L2.St} {vs : List Nat} {n : Nat} (h1 : σ.length = n) (h2 : σ2.length = n) (h : ∀ i ∈ pinC n vs, σ2[i]? = (L2.wipe σ vs)[i]?) : L2.wipe σ2 vs = L2.wipe σ vs := by
  apply List.ext_getElem?
  intro j
  by_cases hl : j < n
  · by_cases hj : j ∈ vs
    · rw [(wipe_get σ2 j vs).2 hj (by omega), (wipe_get σ j vs).2 hj (by omega)]
    · rw [(wipe_get σ2 j vs).1 hj]
      exact h j (by simp [pinC, hl, hj])
  · rw [List.getElem?_eq_none (by rw [L2.wipe_length]; omega), List.getElem?_eq_none (by rw [L2.wipe_length]; omega)]
end

section
variable {X : Cx} {cl : Nat → Addr} {W : WX} {pin : List Nat} {j : Nat}
theorem Good.blk (g : Good X W j) {s : Shared} {H : Hp} {scope : Scope} {cenv : Env} {fp : List Addr} : Good (X.blk s H scope cenv fp) noW j :=
  ⟨g.calm, g.room, fun u s' ⟨_, _, _, _, _, _, _, _, _, _, _, _, _, _, _, _, w⟩ => w.elim, g.nd, PySem.PassesOwn.never⟩
abbrev PMTs (X : Cx) (cl : Nat → Addr) (es : List Expr) (m : MT) : Prop := PTs X es (LT X.K cl noW [] m)
theorem PTs.imp {X : Cx} {es : List Expr} {t u : TT} (h : PTs X es t) (i : ∀ σ H Q, u σ H Q → t σ H Q) : PTs X es u := ⟨fun pins s σ H Q I hw => h.run pins s σ H Q I (i σ H Q hw)⟩
theorem tNoIf : PMTs X cl [] mYes := PTs.imp pts_nil fun σ H Q ⟨S, F, fp, E0, Q0, E, h2, x, k⟩ => k true S h2 F H fp Stp.refl E
theorem tOneIf {c : Expr} {m : MT} (h : PMT X cl noW [] c m) : PMTs X cl [c] m := pts_one h
variable {K : PySem.W.Frag} {F H : Hp} {σ : L2.St} {S : Fm} {fp : Nat → List Addr}
theorem exl_no : Exl K cl noW [] σ F H S fp noE := fun _ _ q => q.elim
theorem lc_run {n : Nat} {vs : List Nat} {tg iter : Expr} {mi : MI} {g : MG} {mt : MT} {me : ME} {σ : L2.St} {H : Hp} {Q : VK} (h : LE K cl W pin (mLc n vs mi g mt me) σ H Q) :
    tLc (LI K cl W pin mi) (LG K cl (pinC n vs) g) (LT K cl noW [] mt) (LE K cl noW [] me) vs σ H Q := by
  obtain ⟨S, F, fp, E0, Q0, E, h2, x, k⟩ := h
  refine ⟨S, F, fp, E0, _, E, h2, x, fun ds S1 q1 J F1 H1 fp1 st1 e1 hJ D hD => ?_⟩
  obtain ⟨hn, hno, w⟩ := q1
  have f1D : F1 D = none := by
    cases hz : F1 D with
    | none => rfl
    | some z => rw [e1.sub _ _ hz] at hD; cases hD
  have noD : ¬ Ow S1 fp1 D := fun q => by obtain ⟨_, u, hu⟩ := e1.owned q; rw [hD] at hu; cases hu
  refine ⟨fun i m H' => m = ds.length - i ∧ i ≤ ds.length ∧ ∃ S' F' fp' acc ws, Stp F1 H1 S1 fp1 F' H' S' fp' ∧ EnvR K cl F' H' (L2.wipe σ vs) S' fp' ∧ S'.length = n ∧ Held F' H' S' fp' D (.lst ws) ∧ RepL K cl F' acc ws ∧
    lcW n vs g mt me (ds.drop i) acc S' (fun acc S2 => Q0 (.own (.lst acc)) (resS S1 vs S2)), ⟨_, rfl, Nat.zero_le _, wipeS S1 vs, F1, fp1, [], [], (Stp.refl.wipe vs).updOut hD, (e1.wipe vs).updOut f1D (fun q => noD q.wipe), by rw [wipeS_length]; exact hn,
      ⟨upd_same, f1D, fun q => noD q.wipe, fun z => z⟩, .nil, by rw [List.drop_zero]; exact w⟩, ?_⟩
  rintro i m H2 ⟨rfl, hi, S2, F2, fp2, acc, ws, st2, e2, hl2, hd2, r2, w2⟩
  obtain ⟨go, stop⟩ := hJ i F2 H2 st2.ff e2.sub
  by_cases hlt : i < ds.length
  · obtain ⟨g1, g2⟩ := go hlt
    refine .inr ⟨g1, fun H' => ∃ m', m' < ds.length - i ∧ (m' = ds.length - (i + 1) ∧ i + 1 ≤ ds.length ∧ ∃ S' F' fp' acc ws, Stp F1 H1 S1 fp1 F' H' S' fp' ∧ EnvR K cl F' H' (L2.wipe σ vs) S' fp' ∧ S'.length = n ∧ Held F' H' S' fp' D (.lst ws) ∧ RepL K cl F' acc ws ∧
      lcW n vs g mt me (ds.drop (i + 1)) acc S' (fun acc S2 => Q0 (.own (.lst acc)) (resS S1 vs S2))), fun _ z => z, fun y H3 hy => ?_⟩
    obtain ⟨G3, d, hd, sm, rx⟩ := g2 y H3 hy
    have e3 := e2.small sm
    have st3 := st2.trans (sm.step (S := S2) (fp := fp2))
    have hd3 := hd2.step (sm.step (S := S2) (fp := fp2))
    have hdr : ds.drop i = d :: ds.drop (i + 1) := by
      obtain ⟨hl, e⟩ := List.getElem?_eq_some_iff.mp hd
      rw [← e]; exact List.drop_eq_getElem_cons hl
    rw [hdr, lcW] at w2
    refine ⟨S2, G3, fp2, d, _, e3, rx, w2, fun S4 q4 σ4 p4 st4 e4 => ?_⟩
    obtain ⟨l4, q4⟩ := q4
    have hw : L2.wipe σ4 vs = L2.wipe σ vs := wipe_again (n := n) (by rw [← e1.len]; exact hn) (by rw [← e4.len]; exact l4) p4
    have s3 := r2.mono sm.ff
    refine ⟨hw, LT.mk e4 q4 exl_no fun b S5 F5 H5 fp5 q5 st5 e5 x5 => ?_⟩
    have st35 := (st3.trans st4).trans st5
    have hd5 := (hd3.step st4).step st5
    have r5 := (s3.mono st4.ff).mono st5.ff
    cases b with
    | false =>
      simp only [Bool.false_eq_true, if_false] at q5 ⊢
      refine ⟨ds.length - (i + 1), by omega, rfl, hlt, wipeS S5 vs, F5, fp5, acc, ws, st35.wipe vs, by rw [← hw]; exact e5.wipe vs, ?_, ⟨hd5.hd, hd5.fn, fun q => hd5.no q.wipe, hd5.nt⟩, r5, q5⟩
      have z := (e5.wipe vs).len
      rw [z, L2.wipe_length, ← e4.len]; exact l4
    | true =>
      simp only [if_true] at q5 ⊢
      refine LE.mk e5 q5 exl_no fun r S6 v F6 H6 fp6 q6 st6 e6 rr x6 => ?_
      obtain ⟨G6, e6', st6', sg, ra⟩ := RelR.ready e6 st6 rr
      cases hr : fzR r with
      | val y =>
        simp only [hr] at q6 ra
        have ra' : Rep K cl G6 y v := ra
        have hd6 := hd5.step st6'
        have r6 := r5.mono st6'.ff
        refine ⟨ws, hd6.hd, by rw [sizeLine_eq, ← r6.length]; exact q6.1, ds.length - (i + 1), by omega, rfl, hlt, wipeS S6 vs, G6, fp6, acc ++ [y], ws ++ [v], ((st35.trans st6').wipe vs).updOut hD, ?_, ?_, ⟨upd_same, hd6.fn, fun q => hd6.no q.wipe, fun z => z⟩, r6.app (.cons ra' .nil), q6.2⟩
        · rw [← hw]
          exact (e6'.wipe vs).updOut hd6.fn fun q => hd6.no q.wipe
        · have z := (e6'.wipe vs).len
          rw [z, L2.wipe_length, ← e4.len]; exact l4
      | own o => simp only [hr] at q6
      | slot i => simp only [hr] at q6
  · have e : i = ds.length := by omega
    subst e
    rw [List.drop_length, lcW] at w2
    refine .inl ⟨stop (Nat.le_refl _), k _ _ w2 _ F2 H2 fp2 (st1.trans ⟨st2.ff, st2.hh, st2.nn, fun a q => st2.oo a (Ow.res hno q), st2.th⟩) (EnvR.res e1 hno st2.ff e2) ⟨D, [D], rfl, ⟨rfl, ws, hd2.hd, r2⟩, fun a ha => ?_⟩⟩
    have ea : a = D := by simpa using ha
    subst ea
    exact ⟨hd2.fn, fun q => hd2.no (Ow.res hno q), .inl (st1.th _ hD)⟩
theorem qLc {elt tg iter : Expr} {ifs : List Expr} {scope : Scope} {own : List (Str × Nat)} {pos : Pos} {n : Nat} {mi : MI} {g : MG} {mt : MT} {me : ME} (gd : Good X W j) (hi : PMI X cl W pin tg iter mi) (ok : BlkOk X.N X.env.scope scope own)
    (hg : ∀ (s : Shared) (H : Hp) (C : Addr) (cc : List (Str × Addr)) (fp : List Addr), PMG (X.blk s H scope (compEnvC scope cc C X.env) fp) cl (pinC n (own.map (·.2))) tg g)
    (ht : ∀ (s : Shared) (H : Hp) (C : Addr) (cc : List (Str × Addr)) (fp : List Addr), PMTs (X.blk s H scope (compEnvC scope cc C X.env) fp) cl ifs mt)
    (he : ∀ (s : Shared) (H : Hp) (C : Addr) (cc : List (Str × Addr)) (fp : List Addr), Good (X.blk s H scope (compEnvC scope cc C X.env) fp) noW j → PM (X.blk s H scope (compEnvC scope cc C X.env) fp) cl noW [] elt me)
    (hs : ∀ x, foldedSetIterable iter X.env x = pure x := by intro _; rfl) : PM X cl W pin (.ListComp elt [⟨tg, iter, ifs, 0⟩] scope pos) (mLc n (own.map (·.2)) mi g mt me) :=
  PE.imp (pe_lc gd.calm gd.nd hi ok hg ht (fun s H C cc fp => he s H C cc fp gd.blk) hs) fun σ H Q h => lc_run (tg := tg) (iter := iter) h
/-- name = [..] -/
theorem kSetLc {i : Nat} {y : Str} {py : Pos} {elt tg iter : Expr} {ifs : List Expr} {scope : Scope} {own : List (Str × Nat)} {pos spos : Pos} {n : Nat} {mi : MI} {g : MG} {mt : MT} {me : ME} (gd : Good X W j) (hy : X.N[i]? = some y) (hyl : X.env.scope.names.lookup y = some .local)
    (hp : i ∉ pin) (hsw : swapsWith (.ListComp elt [⟨tg, iter, ifs, 0⟩] scope pos) (some (.Name y py)) spos.line X.env = pure true) (hi : PMI X cl W pin tg iter mi) (ok : BlkOk X.N X.env.scope scope own)
    (hg : ∀ (s : Shared) (H : Hp) (C : Addr) (cc : List (Str × Addr)) (fp : List Addr), PMG (X.blk s H scope (compEnvC scope cc C X.env) fp) cl (pinC n (own.map (·.2))) tg g)
    (ht : ∀ (s : Shared) (H : Hp) (C : Addr) (cc : List (Str × Addr)) (fp : List Addr), PMTs (X.blk s H scope (compEnvC scope cc C X.env) fp) cl ifs mt)
    (he : ∀ (s : Shared) (H : Hp) (C : Addr) (cc : List (Str × Addr)) (fp : List Addr), Good (X.blk s H scope (compEnvC scope cc C X.env) fp) noW j → PM (X.blk s H scope (compEnvC scope cc C X.env) fp) cl noW [] elt me)
    (hs : ∀ x, foldedSetIterable iter X.env x = pure x := by intro _; rfl) : PMS X cl W pin (.Assign [.Name y py] (.ListComp elt [⟨tg, iter, ifs, 0⟩] scope pos) spos) (sSet i (mLc n (own.map (·.2)) mi g mt me)) :=
  PS.imp (ps_setLc gd.calm gd.nd hy hyl hsw hi ok hg ht (fun s H C cc fp => he s H C cc fp gd.blk) hs) fun D σ H h =>
    have z := ls_set hp h
    lc_run (tg := tg) (iter := iter) z
theorem kSetLcF {i : Nat} {y : Str} {py : Pos} {elt tg iter : Expr} {ifs : List Expr} {scope : Scope} {own : List (Str × Nat)} {pos spos : Pos} {n : Nat} {mi : MI} {g : MG} {mt : MT} {me : ME} (gd : Good X W j) (hy : X.N[i]? = some y) (hyl : X.env.scope.names.lookup y = some .local)
    (hp : i ∉ pin) (hsw : swapsWith (.ListComp elt [⟨tg, iter, ifs, 0⟩] scope pos) (some (.Name y py)) spos.line X.env = pure true) (hi : PMI X cl W pin tg iter mi) (ok : BlkOk X.N X.env.scope scope own)
    (hg : ∀ (s : Shared) (H : Hp) (C : Addr) (cc : List (Str × Addr)) (fp : List Addr), PMG (X.blk s H scope (compEnvC scope cc C X.env) fp) cl (pinC n (own.map (·.2))) tg g)
    (ht : ∀ (s : Shared) (H : Hp) (C : Addr) (cc : List (Str × Addr)) (fp : List Addr), PMTs (X.blk s H scope (compEnvC scope cc C X.env) fp) cl ifs mt)
    (he : ∀ (s : Shared) (H : Hp) (C : Addr) (cc : List (Str × Addr)) (fp : List Addr), Good (X.blk s H scope (compEnvC scope cc C X.env) fp) noW j → PM (X.blk s H scope (compEnvC scope cc C X.env) fp) cl noW [] elt me)
    (hs : ∀ x, foldedSetIterable iter X.env x = pure x := by intro _; rfl) : PMS X cl W pin (.Assign [.Name y py] (.ListComp elt [⟨tg, iter, ifs, 0⟩] scope pos) spos) (sSet i (mFz (mLc n (own.map (·.2)) mi g mt me))) :=
  PS.imp (ps_setLc gd.calm gd.nd hy hyl hsw hi ok hg ht (fun s H C cc fp => he s H C cc fp gd.blk) hs) fun D σ H h =>
    have z := ls_set hp h
    lc_run (tg := tg) (iter := iter) (le_fz z)
end
end Mv

/-! Mv: more walks. -/
namespace Mv
open PySem L2 RT
/-- reversed(range(n)) -/
def mRev1 (m : ME) : MI := fun E Q S => m E (fun r S1 => match r with
  | .val (.int j) => (-(2 ^ 62) ≤ j ∧ j < 2 ^ 62) ∧ Q (rngC ((j.toNat : Int) - 1) (-1) j.toNat) S1
  | _ => False) S
/-- reversed(range(i, j)) -/
def mRev2 (m n : ME) : MI := fun E Q S => m E (fun q S1 => n E (fun r S2 => match q, r with
  | .val (.int i), .val (.int j) => (-(2 ^ 62) ≤ i ∧ i < 2 ^ 62 ∧ -(2 ^ 62) ≤ j ∧ j < 2 ^ 62) ∧ Q (rngC (i + ((j - i).toNat : Int) - 1) (-1) (j - i).toNat) S2
  | _, _ => False) S1) S
/-- reversed(list or tuple) -/
def mRevS (m : ME) : MI := fun E Q S => m E (fun r S1 => match fzR r with
  | .val (.lst xs) => Q xs.reverse S1
  | .val (.rol xs) => Q xs.reverse S1
  | .val (.tup xs) => Q xs.reverse S1
  | .val (.rot xs) => Q xs.reverse S1
  | _ => False) S
/-- enumerate(list) -/
def enD (xs : List D) : List D := xs.mapIdx fun i x => .tup [.int (i : Nat), x]
def mEnum (m : ME) : MI := fun E Q S => m E (fun r S1 => match fzR r with
  | .val (.lst xs) => Q (enD xs) S1
  | .val (.rol xs) => Q (enD xs) S1
  | _ => False) S
section
variable {X : Cx} {cl : Nat → Addr} {W : WX} {pin : List Nat} {tg a b e : Expr} {m n : ME} {p p2 pos pos2 : Pos}
theorem iRev1 (hg : Gl X "reversed") (hm : X.mg "reversed" = none) (hg2 : Gl X "range") (hm2 : X.mg "range" = none) (ha : PM X cl W pin a m) (hs : starEach [.Call (.Name "range" p2) [a] [] pos2] X.env = (false, eval (.Call (.Name "range" p2) [a] [] pos2) X.env) :: starEach [] X.env := by rfl)
    (na : starEach [a] X.env = (false, eval a X.env) :: starEach [] X.env := by rfl) : PMI X cl W pin tg (.Call (.Name "reversed" p) [.Call (.Name "range" p2) [a] [] pos2] [] pos) (mRev1 m) :=
  PI.imp (pi_revR hg hm (prg_1 hg2 hm2 ha na) hs) fun σ H Rk ⟨S, F, fp, E0, Q0, E, h2, x, k⟩ => LE.mk E h2 x fun r S1 v F1 H1 fp1 q1 st1 e1 rr1 x1 => by
    match r, q1, rr1 with
    | .val (.int j), q1, rr1 =>
      have z : Rep X.K cl F1 (.int j) v := rr1
      rw [Rep] at z
      subst z
      refine ⟨j, rfl, by decide, by decide, q1.1.1, q1.1.2, ?_⟩
      have e : (0 : Int) + (((j - 0).toNat : Nat) : Int) - 1 = (j.toNat : Int) - 1 := by rw [Int.sub_zero, Int.zero_add]
      rw [e, Int.sub_zero]
      exact k _ _ q1.2 _ F1 H1 fp1 st1 e1 itd_rngC
theorem iRev2 (hg : Gl X "reversed") (hm : X.mg "reversed" = none) (hg2 : Gl X "range") (hm2 : X.mg "range" = none) (ha : PM X cl W pin a m) (hb : PM X cl W pin b n) (hs : starEach [.Call (.Name "range" p2) [a, b] [] pos2] X.env = (false, eval (.Call (.Name "range" p2) [a, b] [] pos2) X.env) :: starEach [] X.env := by rfl)
    (na : starEach [a, b] X.env = (false, eval a X.env) :: starEach [b] X.env := by rfl) (nb : starEach [b] X.env = (false, eval b X.env) :: starEach [] X.env := by rfl) (hp : (backTo pos2 (starEach [b] X.env)).any (·.1) = false := by rfl) :
    PMI X cl W pin tg (.Call (.Name "reversed" p) [.Call (.Name "range" p2) [a, b] [] pos2] [] pos) (mRev2 m n) :=
  PI.imp (pi_revR hg hm (prg_2 hg2 hm2 ha hb na nb hp) hs) fun σ H Rk ⟨S, F, fp, E0, Q0, E, h2, x, k⟩ => LE.mk E h2 x fun r S1 v F1 H1 fp1 q1 st1 e1 rr1 x1 => LE.mk e1 q1 x1 fun r2 S2 v2 F2 H2 fp2 q2 st2 e2 rr2 x2 => by
    match r, r2, q2, rr1, rr2 with
    | .val (.int i), .val (.int j), q2, rr1, rr2 =>
      have z : Rep X.K cl F1 (.int i) v := rr1
      have z2 : Rep X.K cl F2 (.int j) v2 := rr2
      rw [Rep] at z z2
      subst z z2
      exact ⟨i, j, rfl, rfl, q2.1.1, q2.1.2.1, q2.1.2.2.1, q2.1.2.2.2, k _ _ q2.2 _ F2 H2 fp2 (st1.trans st2) e2 itd_rngC⟩
theorem itd_rev {K : PySem.W.Frag} {F : Hp} {a : Addr} {vs : List V} {ds : List D} (h : SqL K F a vs) (r : RepL K cl F ds vs) : ItD K cl F (Itv K a vs.length) ds.reverse := fun i G H s1 s2 => by
  have sm := Same.trans s1 s2
  rw [List.length_reverse, r.length]
  refine ⟨fun l => ⟨⟨l, vs, vs[vs.length - 1 - i], sm.seq h, List.getElem?_eq_getElem _⟩, fun x H' ⟨e1, e2⟩ => ?_⟩, fun l => l⟩
  subst e1
  obtain ⟨d, h1, h2⟩ := r.get' (e2 vs (sm.seq h))
  exact ⟨G, d, by rw [List.getElem?_reverse (by rw [r.length]; exact l), r.length]; exact h1, Small.refl s2, h2.mono s1⟩
theorem itd_revT {K : PySem.W.Frag} {F : Hp} {a : Addr} {vs : List V} {ds : List D} (h : SqT K F a vs) (r : RepL K cl F ds vs) : ItD K cl F (ItvT K a vs.length) ds.reverse := fun i G H s1 s2 => by
  have sm := Same.trans s1 s2
  rw [List.length_reverse, r.length]
  refine ⟨fun l => ⟨⟨l, vs, vs[vs.length - 1 - i], Same.sqt sm h, List.getElem?_eq_getElem _⟩, fun x H' ⟨e1, e2⟩ => ?_⟩, fun l => l⟩
  subst e1
  obtain ⟨d, h1, h2⟩ := r.get' (e2 vs (Same.sqt sm h))
  exact ⟨G, d, by rw [List.getElem?_reverse (by rw [r.length]; exact l), r.length]; exact h1, Small.refl s2, h2.mono s1⟩
theorem itd_enum {K : PySem.W.Frag} {F : Hp} {a : Addr} {vs : List V} {ds : List D} (h : SqL K F a vs) (r : RepL K cl F ds vs) : ItD K cl F (Ite K a) (enD ds) := fun i G H s1 s2 => by
  have sm := Same.trans s1 s2
  unfold enD
  rw [List.length_mapIdx, r.length]
  refine ⟨fun l => ⟨⟨vs, vs[i], sm.seq h, by simp [l]⟩, fun x H' ⟨T, y, e1, e2, e3, e4⟩ => ?_⟩, fun l => ⟨vs, sm.seq h, l⟩⟩
  subst e1 e3
  obtain ⟨d, h1, h2⟩ := r.get' (e4 vs (sm.seq h))
  have gT : G T = none := by
    cases z : G T with
    | none => rfl
    | some w => rw [s2 _ _ z] at e2; cases e2
  have sg : Same G (upd G T (.tup [.int (i : Nat), y])) := fun b o e => by rw [upd_ne fun z => by rw [z, gT] at e; cases e]; exact e
  refine ⟨upd G T (.tup [.int (i : Nat), y]), .tup [.int (i : Nat), d], by rw [List.getElem?_mapIdx, h1]; rfl, ⟨sg, fun b o e => ?_, fun b o e z => ?_, fun b o e => ?_⟩, ?_⟩
  · rw [upd_ne fun z => by rw [z, e2] at e; cases e]; exact e
  · rw [upd_ne fun w => by rw [w, e2] at e; cases e]; exact z
  · by_cases c : b = T
    · subst c; rw [upd_same] at e ⊢; exact e
    · rw [upd_ne c] at e ⊢; exact s2 _ _ e
  · rw [Rep]
    exact ⟨T, _, rfl, upd_same, .cons (by rw [Rep]) (.cons ((h2.mono s1).mono sg) .nil)⟩
theorem iRevS (hg : Gl X "reversed") (hm : X.mg "reversed" = none) (he : PM X cl W pin e m) (hs : starEach [e] X.env = (false, eval e X.env) :: starEach [] X.env := by rfl) : PMI X cl W pin tg (.Call (.Name "reversed" p) [e] [] pos) (mRevS m) :=
  PI.imp (pi_revA hg hm he hs) fun σ H Rk ⟨S, F, fp, E0, Q0, E, h2, x, k⟩ => LE.mk E h2 x fun r S1 v F1 H1 fp1 q st1 e1 rr x1 => by
    obtain ⟨G1, e1', st1', sg, ra1⟩ := RelR.ready e1 st1 rr
    cases hr : fzR r with
    | val d =>
      simp only [hr] at q ra1
      have ra : Rep X.K cl G1 d v := ra1
      cases d with
      | lst xs =>
        rw [Rep] at ra; obtain ⟨a, vs, rfl, g1, g2⟩ := ra
        exact ⟨a, vs, rfl, .inl ⟨SqL.of (e1'.sub _ _ g1), k _ _ q _ G1 H1 fp1 st1' e1' (itd_rev (SqL.of g1) g2)⟩⟩
      | rol xs =>
        rw [Rep] at ra; obtain ⟨a, vs, rfl, g1, g2⟩ := ra
        exact ⟨a, vs, rfl, .inl ⟨e1'.sub.seq g1, k _ _ q _ G1 H1 fp1 st1' e1' (itd_rev g1 g2)⟩⟩
      | tup xs =>
        rw [Rep] at ra; obtain ⟨a, vs, rfl, g1, g2⟩ := ra
        exact ⟨a, vs, rfl, .inr ⟨SqT.of (e1'.sub _ _ g1), k _ _ q _ G1 H1 fp1 st1' e1' (itd_revT (SqT.of g1) g2)⟩⟩
      | rot xs =>
        rw [Rep] at ra; obtain ⟨a, vs, rfl, g1, g2⟩ := ra
        exact ⟨a, vs, rfl, .inr ⟨Same.sqt e1'.sub g1, k _ _ q _ G1 H1 fp1 st1' e1' (itd_revT g1 g2)⟩⟩
      | _ => exact q.elim
    | own o => simp only [hr] at q
    | slot i => simp only [hr] at q
theorem iEnum' {elts : List Expr} {kk : Nat} {tpos : Pos} (hg : Gl X "enumerate") (hm : X.mg "enumerate" = none) (he : PM X cl W pin e m) (hs : starEach [e] X.env = [(false, eval e X.env)] := by rfl) (hs2 : starEach [e] X.env = (false, eval e X.env) :: starEach [] X.env := by rfl) :
    PMI X cl W pin (.Tuple elts kk tpos) (.Call (.Name "enumerate" p) [e] [] pos) (mEnum m) :=
  PI.imp (pi_enum hg hm (pa_cons he pa_nil hs2) hs) fun σ H Rk ⟨S, F, fp, E0, Q0, E, h2, x, k⟩ => LE.mk E h2 x fun r S1 v F1 H1 fp1 q st1 e1 rr x1 => by
    obtain ⟨G1, e1', st1', sg, ra1⟩ := RelR.ready e1 st1 rr
    cases hr : fzR r with
    | val d =>
      simp only [hr] at q ra1
      have ra : Rep X.K cl G1 d v := ra1
      cases d with
      | lst xs =>
        rw [Rep] at ra; obtain ⟨a, vs, rfl, g1, g2⟩ := ra
        exact ⟨a, vs, rfl, SqL.of (e1'.sub _ _ g1), k _ _ q _ G1 H1 fp1 st1' e1' (itd_enum (SqL.of g1) g2)⟩
      | rol xs =>
        rw [Rep] at ra; obtain ⟨a, vs, rfl, g1, g2⟩ := ra
        exact ⟨a, vs, rfl, e1'.sub.seq g1, k _ _ q _ G1 H1 fp1 st1' e1' (itd_enum g1 g2)⟩
      | _ => exact q.elim
    | own o => simp only [hr] at q
    | slot i => simp only [hr] at q
end
end Mv

/-! Mv: texts. -/
namespace Mv
open PySem L2
def dOrd : DOpL := d1 fun d k => match d with
  | .str x => x.length = 1 ∧ k (.val (.int (x.cps.getD 0 0 : Nat)))
  | _ => False
def dChr : DOpL := d1 fun d k => match d with
  | .int i => (0 ≤ i ∧ i ≤ 1114111) ∧ k (.val (.str ⟨#[i.toNat]⟩))
  | _ => False
def dStr : DOpL := d1 fun d k => match d with
  | .int i => i.natAbs.log2 < 1920 ∧ k (.val (.str (toString i)))
  | .str x => k (.val (.str x))
  | _ => False
def strsOf : D → Option (List D)
  | .lst xs => some xs
  | .rol xs => some xs
  | .tup xs => some xs
  | .rot xs => some xs
  | _ => none
def dJoin : DMe := fun d ds k => match d, ds with
  | .str a, [e] => ∃ ys : List Str, strsOf e = some (ys.map D.str) ∧ (ys.map (·.length)).sum + ys.length * a.length ≤ 16777216 ∧ k (.val (.str (Txt.join a ys)))
  | _, _ => False
def dStarts : DMe := fun d ds k => match d, ds with
  | .str a, [.str b] => k (.val (.bl (Txt.startswith a b)))
  | _, _ => False
def dFind : DMe := fun d ds k => match d, ds with
  | .str a, [.str b] => k (.val (.int (Txt.find a b)))
  | _, _ => False
def dSplit : DMe := fun d ds k => match d, ds with
  | .str a, [.str b] => ((b.length == 0) = false ∧ a.length + 2 ≤ 16777216) ∧ k (.own (.lst ((Txt.split a b).map D.str)))
  | _, _ => False
section
variable {X : Cx} {cl : Nat → Addr}
theorem b_ord : CallR X (.builtin "ord") (rL X.K cl dOrd) := c1 fun pins s σ H v u Q F d Q0 I r sm p q P => by
  cases d with
  | str x => exact call_ord pins s σ H _ _ Q I r ⟨x, by rw [p.str], q.1, P.int sm q.2⟩
  | _ => exact q.elim
theorem b_chr : CallR X (.builtin "chr") (rL X.K cl dChr) := c1 fun pins s σ H v u Q F d Q0 I r sm p q P => by
  cases d with
  | int i => exact call_chr pins s σ H _ _ Q I r ⟨i, by rw [p.int], q.1.1, q.1.2, P.str sm q.2⟩
  | _ => exact q.elim
theorem b_str : CallR X (.type "str") (rL X.K cl dStr) := c1 fun pins s σ H v u Q F d Q0 I r sm p q P => by
  cases d with
  | int i => exact call_str_int pins s σ H _ _ Q I r ⟨i, by rw [p.int], q.1, P.str sm q.2⟩
  | str x => exact SkE.call_str_str pins s σ H _ _ Q I r ⟨x, by rw [p.str], P.str sm q⟩
  | _ => exact q.elim
end
section
variable {K : PySem.W.Frag} {cl : Nat → Addr}
theorem PkL.one' {F H : Hp} {d : D} {vs : List V} (h : PkL K cl F H [d] vs) : ∃ v, vs = [v] ∧ Pk K cl F H d v := by
  obtain ⟨v, us, rfl, h1, h2⟩ := h
  have e : us = [] := h2
  subst e
  exact ⟨v, rfl, h1⟩
theorem strs_at {F H : Hp} {e : D} {v : V} {ys : List Str} (s : Same F H) (p : Pk K cl F H e v) (h : strsOf e = some (ys.map D.str)) : ∃ a, v = .ref a ∧ (SqL K H a (ys.map V.str) ∨ SqT K H a (ys.map V.str)) := by
  cases e with
  | lst xs =>
    cases h
    obtain ⟨a, vs, rfl, h1, h2⟩ := p.lst s
    rw [RepL.strs h2] at h1
    exact ⟨a, rfl, .inl (SqL.of h1)⟩
  | rol xs =>
    cases h
    obtain ⟨a, vs, rfl, h1, h2⟩ := p.rol s
    rw [RepL.strs h2] at h1
    exact ⟨a, rfl, .inl h1⟩
  | tup xs =>
    cases h
    obtain ⟨a, vs, rfl, h1, h2, _⟩ := p.tup s
    rw [RepL.strs h2] at h1
    exact ⟨a, rfl, .inr (SqT.of h1)⟩
  | rot xs =>
    cases h
    obtain ⟨a, vs, rfl, h1, h2, _⟩ := p.rot s
    rw [RepL.strs h2] at h1
    exact ⟨a, rfl, .inr h1⟩
  | _ => cases h
theorem me_join : MeR K cl (fun x xs H Q => ∃ a p, ∃ ys : List Str, x = .str a ∧ xs = [.ref p] ∧ (SqL K H p (ys.map V.str) ∨ SqT K H p (ys.map V.str)) ∧
    (ys.map (·.length)).sum + ys.length * a.length ≤ 16777216 ∧ Q (.str (Txt.join a ys)) H) dJoin := fun F H d v ds vs k Q s p rd q P => by
  unfold dJoin at q
  split at q
  · obtain ⟨ys, h1, h2, h3⟩ := q
    obtain ⟨u, rfl, p2⟩ := rd.one'
    obtain ⟨a, rfl, h4⟩ := strs_at s p2 h1
    exact ⟨_, a, ys, p.str, rfl, h4, h2, P.str s h3⟩
  · exact q.elim
theorem me_starts : MeR K cl (fun x xs H Q => ∃ a b, x = .str a ∧ xs = [.str b] ∧ Q (.bl (Txt.startswith a b)) H) dStarts := fun F H d v ds vs k Q s p rd q P => by
  unfold dStarts at q
  split at q
  · obtain ⟨u, rfl, p2⟩ := rd.one'
    exact ⟨_, _, p.str, by rw [p2.str], P.bl s q⟩
  · exact q.elim
theorem me_find : MeR K cl (fun x xs H Q => ∃ a b, x = .str a ∧ xs = [.str b] ∧ Q (.int (Txt.find a b)) H) dFind := fun F H d v ds vs k Q s p rd q P => by
  unfold dFind at q
  split at q
  · obtain ⟨u, rfl, p2⟩ := rd.one'
    exact ⟨_, _, p.str, by rw [p2.str], P.int s q⟩
  · exact q.elim
theorem me_split : MeR K cl (fun x xs H Q => ∃ a b, x = .str a ∧ xs = [.str b] ∧ (b.length == 0) = false ∧ a.length + 2 ≤ sizeLine ∧ rNewStrs (Txt.split a b) H Q) dSplit := fun F H d v ds vs k Q s p rd q P => by
  unfold dSplit at q
  split at q
  · obtain ⟨u, rfl, p2⟩ := rd.one'
    exact ⟨_, _, p.str, by rw [p2.str], q.1.1, by rw [sizeLine_eq]; exact q.1.2, fun a ha => P.lst s q.2 (RepL.of_strs F _) ha⟩
  · exact q.elim
end
end Mv

/-! MvX: an own error, made: class C(B(Exception)): def __init__(self, x): super().__init__(x); self.f = x -/
namespace Mx
open PySem PySem.W PySem.Calls PyProof.Rows L2
abbrev tail : List Value := [.type "Exception", .type "BaseException", .type "object"]
/-- the text of such an __init__ -/
def iBody (x f : Str) (p : Nat → Pos) : List Stmt := [.Expr (.Call (.Attribute (.Call (.Name "super" (p 0)) [] [] (p 1)) "__init__" (p 2)) [.Name x (p 3)] [] (p 4)) (p 5), .Assign [.Attribute (.Name "self" (p 6)) f (p 7)] (.Name x (p 8)) (p 9)]
def iScope (x : Str) : Scope := { kind := .function, names := [("self", .local), (x, .local), ("__class__", .free), ("super", .globalImplicit)], isGenerator := false, isCoroutine := false, more := [] }
def iArgs (x : Str) (p q : Pos) : Arguments := { posonlyargs := [], args := [{ arg := "self", annotation := none, pos := p }, { arg := x, annotation := none, pos := q }], vararg := none, kwonlyargs := [], kw_defaults := [], kwarg := none, defaults := [] }
/-- what the written part says of the class at C, its __init__ at fI -/
structure XcC (P : Program) (K : Frag) (C fI cc cda : Addr) (x f : Str) (p : Nat → Pos) (q1 q2 : Pos) : Prop where
  init : excInitIn K C tail "Exception.__new__" = true
  over : excOver K C tail = true
  hd : hasDictIn K C = true
  ini : findIn K (.ref C) "__init__" = some (some (.ref fI))
  tI : typeIn K (.ref fI) = some (.type "function")
  sa : findIn K (.ref C) "__setattr__" = some (some (.builtin "object.__setattr__"))
  no : findIn K (.ref C) f = some none
  exB : subIn K (.ref C) (.type "BaseException") = some true
  exE : subIn K (.ref C) (.type "Exception") = some true
  sC : mroIn K C (.ref C) = some true
  ty : typeIn K (.ref C) = some (.type "type")
  kC : keepIn K (.ref C) = true
  al : ks_superIn K C C "__init__" = some (some (.builtin "Exception.__init__"))
  op : nsIn K cStatics "thirdparty.any" = some none
  sup : nsIn K mainGlobals "super" = some none
  fn : ∃ (oc : Value) (od : Option Addr) (osl : Array (Option Value)) (nm qual : Str) (kV doc pm ct : Value) (an : Option Addr), K.lookup fI = some ⟨oc, od, .func (ksFn nm qual (iArgs x q1 q2) (iBody x f p) (iScope x) .none kV doc pm an (.ref cda) ct cc), osl⟩ ∧ codeIn K (.ref cda) qual = true
  code : ∃ (ccl : Value) (cdd : Option Addr) (vs : Array Value) (ccs : Array (Option Value)) (file : Str) (tf : Tok), K.lookup cda = some ⟨ccl, cdd, .fields vs, ccs⟩ ∧ vs[2]? = some (.str file tf) ∧ ((P.main.file : Str) == file) = true
  cell : ∃ (c1 : Value) (c2 : Option Addr) (c3 : Array (Option Value)), K.lookup cc = some ⟨c1, c2, .cell (some (.ref C)), c3⟩
  top : (P.main.scope.names.lookup ("super" : Str)).isSome = false
  xs : x ≠ "self"
  x2 : (x == ("__debug__" : Str)) = false
  x3 : x ≠ "__class__"
  x4 : x ≠ "super"
  bnd : ∀ (nm qual : Str) (kV doc pm ct cdv : Value) (an : Option Addr) (cc : Addr) (a u : Value), bindArgs (ksFn nm qual (iArgs x q1 q2) (iBody x f p) (iScope x) .none kV doc pm an cdv ct cc) ⟨[a, u], []⟩ = pure [(("self" : Str), a), (x, u)]
  ev : ∀ env : Env, ∃ pl : Sem Bool, eval (.Call (.Attribute (.Call (.Name "super" (p 0)) [] [] (p 1)) "__init__" (p 2)) [.Name x (p 3)] [] (p 4)) env = (do
      let ov ← attributeBase (.Call (.Name "super" (p 0)) [] [] (p 1)) "__init__" env (eval (.Call (.Name "super" (p 0)) [] [] (p 1)) env)
      standAt (p 2).atName
      let (f, first) ← holding [ov] (getMethod ov "__init__" pl)
      callWith (p 4) f first (backTo (p 4) (starEach [.Name x (p 3)] env)) [])

abbrev eO (C t : Addr) (d : Option Addr) : Obj := { cls := .ref C, dict := d, data := .fields #[.ref t, .none, .none, .none, .bool false, .none] }
section
open Builtin Builtin.ObjectAttr
variable {prog : Program} {w : World} {A : Around} {R : Result → Shared → Prop} {hp : Heap} {g : Array GenState} {d : Drawn} {t : Nat} {os : OsState}
/-- self.f = v: the first field -/
theorem osa_x {K : Frag} {name : Str} {tk : Tok} {v : Value} {x C : Addr} {fv : Array Value}
    (X : K.In hp) (hx : hp.get? x = some { cls := .ref C, data := .fields fv }) (ho : excOver K C tail = true) (hh : hasDictIn K C = true) (ha : findIn K (.ref C) name = some none)
    (hq : ∀ h' tk' dx, (∀ b o, b ≠ x → hp.get? b = some o → h'.get? b = some o) → hp.objs.size ≤ dx → dx ≠ x → h'.get? x = some { cls := .ref C, dict := some dx, data := .fields fv } →
      h'.Ns1 dx (fun y => if y = name then some v else none) → R (.ok (.ret .none)) ⟨h', g, d, tk', os⟩) :
    codeAny (model prog w) A (.call (.builtin "object.__setattr__") ⟨[.ref x, .str name tk, v], []⟩) R ⟨hp, g, d, t, os⟩ := by
  have I : InstAt hp x { cls := .ref C, data := .fields fv } C none := ⟨hx, rfl, rfl, trivial⟩
  refine osa_openX (s := ⟨hp, g, d, t, os⟩) F.store_Exception X I ho (show takerIn K C name = some none by unfold takerIn; rw [ha]; rfl) fun b => ?_
  have hxs : x ≠ hp.objs.size := Nat.ne_of_lt (Heap.lt_size hx)
  obtain ⟨cd, hcd, hh⟩ := any_some hh
  have hcls : Looks (model prog w) hp (classData C) cd := looks_clsIn X hcd
  show wpAny _ _ (storeInOwnDict (.ref x) (.ref C) (.str name tk) name v b) _ _ _
  obtain ⟨nm, bs, mro, ns, qn, hd, sn, sb, ab, col, del⟩ := cd
  dsimp only at hh
  subst hh
  unfold storeInOwnDict ownDictForStores
  repeat (first | with_reducible refine HandSPX.store_in_new ?_ ?_ | with_reducible refine wpAny_loadPart_at hx ?_ | with_reducible refine hcls.at ?_ | wp_step)
  · exact ⟨_, #[], _, (Heap.get?_update_ne _ _ _ _ hxs.symm).trans (Heap.get?_push_at rfl rfl), rfl, fun e he => absurd he (by simp), fun _ => rfl⟩
  · intro h' tk' hn' hs
    have hx₁ : (hp.push { cls := .type "dict", data := .dict #[] }).get? x = some { cls := .ref C, data := .fields fv } := Heap.get?_push_of_some _ hx
    refine hq h' tk' hp.objs.size (fun b o hb ho => ?_) (Nat.le_refl _) hxs.symm ?_ hn'
    · exact (hs.2 b (Nat.ne_of_lt (Heap.lt_size ho))).trans ((Heap.get?_update_ne _ _ _ _ hb).trans (Heap.get?_push_of_some _ ho))
    · exact (hs.2 x hxs).trans (Heap.get?_update_self _ hx₁ rfl)
end
section
variable {P : Program} {w : World} {A : Around} {R : Result → Shared → Prop} {hp base : Heap} {g : Array GenState} {d : Drawn} {t : Nat} {os : OsState} {K : Frag} {mg : Str → Option Value} {C fI cc cda e t0 : Addr} {x f : Str} {p : Nat → Pos} {q1 q2 : Pos} {u : Value}
/-- the run of such an __init__ -/
theorem init_run (T : XcC P K C fI cc cda x f p q1 q2) (M : Mod K mg base) (bk : ∀ b o, base.get? b = some o → hp.get? b = some o) (hroom : A.depth < recursionLimit) (hen : base.get? e = none) (he : hp.get? e = some (eO C t0 none))
    (hq : ∀ h' t' t1 dx, (∀ b o, b ≠ e → hp.get? b = some o → h'.get? b = some o) → hp.objs.size ≤ dx → dx ≠ e → h'.get? e = some (eO C t1 (some dx)) → h'.Ns1 dx (fun y => if y = f then some u else none) → R (.ok (.ret .none)) ⟨h', g, d, t', os⟩) :
    codeAny (model P w) A (.call (.ref fI) ⟨[.ref e, u], []⟩) R ⟨hp, g, d, t, os⟩ := by
  have X : K.In hp := M.kin.keeps bk
  obtain ⟨oc, od, osl, nm, qual, kV, doc, pm, ct, an, hfn, hcd⟩ := T.fn
  obtain ⟨ccl, cdd, vs, ccs, file, tf, hcode, hvs, hfile⟩ := T.code
  obtain ⟨c1, c2, c3, hcell⟩ := T.cell
  obtain ⟨mb, hmb, hblt⟩ := M.blt
  have xs := T.xs
  have nself : ((x == ("self" : Str)) = false) := by simpa using xs
  have nself' : ((("self" : Str) == x) = false) := by simpa using xs.symm
  have n3 : ((("__class__" : Str) == x) = false) := by simpa using T.x3.symm
  have n4 : ((("super" : Str) == x) = false) := by simpa using T.x4.symm
  have hks : (iScope x).names.lookup ("super" : Str) = some .globalImplicit := by
    show List.lookup _ [_, _, _, _] = _
    simp only [List.lookup, n4, show (("super" : Str) == ("self" : Str)) = false by decide, show (("super" : Str) == ("__class__" : Str)) = false by decide, show (("super" : Str) == ("super" : Str)) = true by decide]
  have hkc : (iScope x).names.lookup ("__class__" : Str) = some .free := by
    show List.lookup _ [_, _, _, _] = _
    simp only [List.lookup, n3, show (("__class__" : Str) == ("self" : Str)) = false by decide, show (("__class__" : Str) == ("__class__" : Str)) = true by decide]
  have hka : (iScope x).names.lookup ("self" : Str) = some .local := by
    show List.lookup _ [_, _, _, _] = _
    simp only [List.lookup, show (("self" : Str) == ("self" : Str)) = true by decide]
  have hkx : (iScope x).names.lookup x = some .local := by
    show List.lookup _ [_, _, _, _] = _
    simp only [List.lookup, nself, beq_self_eq_true]
  refine ks_codeAny_call_defAt (fd := ksFn nm qual (iArgs x q1 q2) (iBody x f p) (iScope x) .none kV doc pm an (.ref cda) ct cc) (body := iBody x f p) (binds := [("self", .ref e), (x, u)]) hroom (X _ _ hfn) rfl (M.nolimit.keeps bk) (codeRec_of X hcd) rfl (BindsTo.of_eq (T.bnd _ _ _ _ _ _ _ _ _ _ _))
    (fun y hy => by
      have : y ∈ [(("self" : Str), NameKind.local), (x, .local), ("__class__", .free), ("super", .globalImplicit)] := hy
      simp at this
      rcases this with rfl | rfl | rfl | rfl <;> (intro z; cases z))
    (fun y hy => by
      simp at hy
      rcases hy with rfl | rfl
      · exact hka
      · exact hkx) (fun h₁ hns hk₁ => ?_)
  have X1 : K.In h₁ := X.keeps hk₁
  have he1 : h₁.get? e = some (eO C t0 none) := hk₁ _ _ he
  have hmself : (fun y : Str => List.lookup y ([(("self" : Str), Value.ref e), (x, u)]).reverse) "self" = some (.ref e) := by
    show List.lookup _ [(x, u), (("self" : Str), Value.ref e)] = _
    simp only [List.lookup, nself', beq_self_eq_true]
  have hmx : (fun y : Str => List.lookup y ([(("self" : Str), Value.ref e), (x, u)]).reverse) x = some u := by
    show List.lookup _ [(x, u), (("self" : Str), Value.ref e)] = _
    simp only [List.lookup, beq_self_eq_true]
  obtain ⟨cd, hcl⟩ : ∃ cd, clsIn K C = some cd := by
    cases q : clsIn K C with
    | none => have := T.al; unfold ks_superIn at this; rw [q] at this; cases this
    | some cd => exact ⟨cd, rfl⟩
  have hal : alongIn K "__init__" ((cd.mro.dropWhile (· != .ref C)).drop 1) = some (some (.builtin "Exception.__init__")) := by
    have := T.al
    unfold ks_superIn at this
    rw [hcl] at this
    exact this
  obtain ⟨oD, hD1, hD2⟩ : ∃ oD, h₁.get? C = some oD ∧ oD.data = .cls cd := by
    have hD := hcl
    unfold clsIn at hD
    split at hD
    · rename_i c d cd' sl ho
      cases hD
      exact ⟨_, X1 _ _ ho, rfl⟩
    · cases hD
  obtain ⟨nm', N', qn', bs, bm, hdct, sn, sub, ab, col, dd, k0, k1, k2, k3, k5, hC, hT⟩ := excInit_of X1 T.init
  have I1 : InstAt h₁ e (eO C t0 none) C none := ⟨he1, rfl, rfl, trivial⟩
  have hxC : e ≠ C := ks_ne X1 I1 hcl
  obtain ⟨pl, hev⟩ := T.ev (callEnv (ksFn nm qual (iArgs x q1 q2) (iBody x f p) (iScope x) .none kV doc pm an (.ref cda) ct cc) hp.objs.size fI)
  refine ks_wpAt_execs_cons (ks_wpAt_Expr_any (ks_wpAt_MethodCall ?_ hev))
  refine ks_wpAt_super_base (env := callEnv (ksFn nm qual (iArgs x q1 q2) (iBody x f p) (iScope x) .none kV doc pm an (.ref cda) ct cc) hp.objs.size fI) hks hkc (by decide) rfl (X1 _ _ hfn) rfl rfl rfl (X1 _ _ hcode) rfl hvs hfile T.top ?_
  refine ks_loadName_global rfl hks (loadGlobal_builtin (env := callEnv (ksFn nm qual (iArgs x q1 q2) (iBody x f p) (iScope x) .none kV doc pm an (.ref cda) ct cc) hp.objs.size fI) ((M.glob.keeps bk).keeps hk₁) (mg_none_of M.kin M.glob T.sup) ((hmb.keeps bk).keeps hk₁) ((hblt _ (by decide +kernel)).trans PyProof.Rows.Boot.«super») ⟨rfl, ?_⟩)
  refine wpAny_loadName_free rfl hkc rfl ⟨_, X1 _ _ hcell, rfl⟩ ?_
  refine wpAny_loadName_local rfl hka hns hmself ?_
  refine ks_wpAny_isType_cls hD1 hD2 ⟨rfl, ?_⟩
  refine ks_wpAny_call_super hD1 hD2 he1 rfl (fun c z => by cases z) (looks_mroIn X1 T.sC) (fun h₂ hso k₂ => ?_)
  have X2 : K.In h₂ := X1.keeps k₂
  have he2 := k₂ _ _ he1
  have I2 : InstAt h₂ e (eO C t0 none) C none := ⟨he2, rfl, rfl, trivial⟩
  have hin2 : Looks (model P w) h₂ (isInstance (.ref e) (.type "Exception")) true := I2.type.andThen (looks_subIn X2 T.exE)
  refine ESX.getMethod_super hso (looks_opaque X2 T.op) (l₀ := cd.mro) (fun A Q E s k q => wpAny_bind ((looks_clsIn X2 hcl) A _ E s k (wpAny_pure q))) rfl X2 hal hxC (by decide) hin2 ?_
  have k₃ : ∀ b o, h₂.get? b = some o → (h₂.push (ESX.bw e)).get? b = some o := fun b o z => Heap.get?_push_of_some _ z
  have hu3 : (h₂.push (ESX.bw e)).get? h₂.objs.size = some (ESX.bw e) := Heap.get?_push_at rfl rfl
  refine ESX.callWith_bound (x := e) ?_ (by rfl) (by rfl)
  refine spliced_cons ?_
  have hns3 : (h₂.push (ESX.bw e)).Ns hp.objs.size (fun y : Str => List.lookup y ([(("self" : Str), Value.ref e), (x, u)]).reverse) := (hns.keeps k₂).keeps k₃
  refine ESX.ldL hns3 hmx ?_ rfl hkx T.x2
  refine spliced_nil ⟨hu3, ?_⟩
  have hC3 := k₃ _ _ (k₂ _ _ hC)
  have he3 := k₃ _ _ he2
  refine ESX.call_bw hC3 he3 hu3 (by show 1 ≤ sizeLine; rw [sizeLine_eq]; omega) fun h₄ t1 k₄ he4 => ?_
  have neL : ∀ {b : Addr} {o : Obj}, hp.get? b = some o → b ≠ hp.objs.size := fun q => Nat.ne_of_lt (Heap.lt_size q)
  have eL : hp.objs.size ≠ e := (neL he).symm
  have up4 : ∀ b o, b ≠ e → hp.get? b = some o → h₄.get? b = some o := fun b o hb q => k₄ b o hb (k₃ _ _ (k₂ _ _ (hk₁ _ _ q)))
  have X4 : K.In h₄ := M.kin.keeps fun b o q => up4 b o (fun z => by rw [z, hen] at q; cases q) (bk _ _ q)
  have hns4 : h₄.Ns hp.objs.size (fun y : Str => List.lookup y ([(("self" : Str), Value.ref e), (x, u)]).reverse) := by
    obtain ⟨o, es, ep, ho, r⟩ := hns3
    exact ⟨o, es, ep, k₄ _ _ eL ho, r⟩
  refine ks_wpAt_execs_cons (wpAt_of_wpAny (plainObj_wpAny_Assign_Attribute (ESX.ldL hns4 hmx (ESX.ldL hns4 hmself ?_ rfl hka) rfl hkx T.x2) (by rfl)))
  refine set_plain X4 (ox := eO C t1 none) (od := none) ⟨he4, rfl, rfl, trivial⟩ T.sa (osa_x X4 he4 T.over T.hd T.no fun h₅ tk₅ dx k₅ hdx ne5 he5 hns5 => ?_)
  refine wpAt_of_wpAny (wpAny_execs_nil ?_)
  refine hq h₅ _ t1 dx (fun b o hb q => k₅ b o hb (up4 b o hb q)) ?_ ne5 he5 hns5
  obtain ⟨o, es, ep, ho, r⟩ := hns4
  exact Nat.le_trans (Nat.le_of_lt (Heap.lt_size ho)) hdx
/-- C(e): the error made -/
def tMkX (C : Addr) (f : Str) (ta : TA) : L2.St → Hp → XK → Prop := fun σ H Q => ta σ H fun vs H1 => ∃ y, vs = [y] ∧ ∀ dx, H1 dx = none → Q (.ref C) (some dx) (upd H1 dx (.xd [(f, y)]))
theorem pmk_x {X : Cx} {n : Str} {k : Nat} {ea : Expr} {ta : TA} {pc pos : Pos} (T : XcC X.prog X.K C fI cc cda x f p q1 q2) (hr : Room (k + 1) X.A) (hg : Gl X n) (hm : X.mg n = some (.ref C)) (ha : PA X [ea] ta)
    (hdb : (n == ("__debug__" : Str)) = false := by decide) (he : starEach [ea] X.env = (false, eval ea X.env) :: starEach [] X.env := by rfl) :
    PMk X (.Call (.Name n pc) [ea] [] pos) (tMkX C f ta) := by
  intro pins s σ H Q I h
  refine wpAny_Call_Name_kw (ld_glob I hg hm ?_ hdb)
  refine callWith_K (h₀ := X.base) I.ok.mod.kin T.kC (thn (ha.run pos pins s σ H _ I h) fun us s1 ⟨vs, H1, I1, r1, y, ev, q1⟩ => ⟨I1.kIn, ?_⟩) he (by rfl)
  show wpAny _ _ (call (.ref C) us) _ _ _
  subst ev
  cases r1 with
  | @cons _ u0 _ ur ry rn =>
    cases rn
    obtain ⟨hp, g, dr, tk, os⟩ := s1
    obtain ⟨nm', N', qn', bs, bm, hdct, sn, sub, ab, col, dd, k0, k1, k2, k3, k5, hC, hT⟩ := excInit_of I1.kIn T.init
    refine wpAny_call (HandSPX.call_own F.excBase_Exception hT hC (looks_findIn I1.kIn T.ini) (fun self => bind_fn I1.kIn self T.tI) (by show 1 ≤ sizeLine; rw [sizeLine_eq]; omega) ?_)
    have kk : ∀ b o, hp.get? b = some o → ((hp.push (kdv_tup [u0])).push (HandSPX.excO C hp.objs.size)).get? b = some o := fun b o e => Heap.get?_push_of_some _ (Heap.get?_push_of_some _ e)
    have hget : ((hp.push (kdv_tup [u0])).push (HandSPX.excO C hp.objs.size)).get? (hp.objs.size + 1) = some (HandSPX.excO C hp.objs.size) := by heap_get
    have hsz : ((hp.push (kdv_tup [u0])).push (HandSPX.excO C hp.objs.size)).objs.size = hp.objs.size + 2 := by simp [Heap.size_push]
    have fr : ∀ {b : Addr} {o : Obj}, hp.get? b = some o → b ≠ hp.objs.size + 1 := fun q z => absurd (Heap.lt_size q) (by rw [z]; exact Nat.not_lt.mpr (Nat.le_succ _))
    refine init_run T I1.ok.mod (fun b o q => kk b o (I1.bk b o q)) (hr.make C [u0] []).depth (by
      cases q : X.base.get? (hp.objs.size + 1) with
      | none => rfl
      | some o => exact absurd rfl (fr (I1.bk _ _ q))) hget fun h' t' t1 dx k hdx ne he' hns => ⟨rfl, ?_⟩
    obtain ⟨G, g1, g2⟩ := restrict h' fun b => decide (b ≠ hp.objs.size + 1)
    have gk : ∀ b, b ≠ hp.objs.size + 1 → G.get? b = h'.get? b := fun b hb => g1 b (decide_eq_true hb)
    have ge : G.get? (hp.objs.size + 1) = none := g2 _ (by simp)
    have hle : hp.objs.size ≤ dx := Nat.le_trans (Nat.le_trans (Nat.le_add_right hp.objs.size 2) (Nat.le_of_eq hsz.symm)) hdx
    have dxn : H1 dx = none := I1.hok.fresh hle
    have J : Inv X pins σ (upd H1 dx (.xd [(f, y)])) ⟨G, g, dr, tk, os⟩ := I1.laid (t' := tk) (a := dx) (o := .xd [(f, y)]) (h' := G) (fun b o q => (gk b (fr q)).trans (k b o (fr q) (kk b o q))) hle
      ⟨_, hns.at fun o q => (gk dx ne).trans q, fun z => by
        show RelO (List.lookup z ((f, y) :: [])) (if z = f then some u0 else none)
        exact relO_put (fs := []) (mA := fun _ => none) ry (fun _ => True.intro) z⟩
    refine ⟨hp.objs.size + 1, _, _, ⟨G, g, dr, tk, os⟩, _, .ref C, some dx, rfl, J, fun b o q => ?_, ge, he', ⟨rfl, rfl⟩, rfl, rfl, ?_, rfl, J.bare, raises_own T.exB T.ty, q1 dx dxn⟩
    · by_cases z : b = hp.objs.size + 1
      · rw [z, ge] at q; cases q
      · exact (gk b z).symm.trans q
    · rw [upd_ne (Ne.symm ne)]
      exact I1.hok.fresh (by show hp.objs.size ≤ hp.objs.size + 1; omega)
end
end Mx

/-! Mv: raise and try. -/
namespace Mv
open PySem L2

/-- what a raise of the class of number c, with the field f, wishes -/
def raiseQ (c : Nat) (f : Str) (E : EX) (rs : List R) (S : Fm) : Prop := match rs with
  | [.val d] => E ⟨c, [(f, d)]⟩ S
  | _ => False
def sRaise (c : Nat) (f : Str) (m : ME) : MS := fun D S => mCons m mNil D.ex (fun rs S1 => raiseQ c f D.ex rs S1) S
section
variable {X : Cx} {cl : Nat → Addr} {W : WX} {pin : List Nat} {e : Expr} {m : ME} {pos pc pos' : Pos} {c j : Nat} {fI cc cda : Addr} {x f n : Str} {p : Nat → Pos} {q1 q2 : Pos}
theorem Post0.xd {K : PySem.W.Frag} {F H : Hp} (s : Same F H) {fs : List (Str × D)} {ws : List (Str × V)} {dx : Addr} (r : RepF K cl F fs ws) (hp : H dx = none) :
    Small F H (upd F dx (.xd ws)) (upd H dx (.xd ws)) ∧ upd F dx (.xd ws) dx = some (.xd ws) ∧ RepF K cl (upd F dx (.xd ws)) fs ws := by
  have sf : Same F (upd F dx (.xd ws)) := same_upd (s.free hp)
  refine ⟨⟨sf, same_upd hp, fun a u h z => by rw [upd_ne (ne_of_none h hp)]; exact z, fun a u e => ?_⟩, upd_same, r.mono sf⟩
  by_cases z : a = dx
  · subst z; rw [upd_same] at e ⊢; exact e
  · rw [upd_ne z] at e ⊢; exact s a u e
theorem kRaise (T : ∃ fI cc cda, Mx.XcC X.prog X.K (cl c) fI cc cda x f p q1 q2) (g : Good X W j) (hj : 1 ≤ j) (hg : Gl X n) (hm : X.mg n = some (.ref (cl c))) (he : PM X cl W pin e m)
    (hdb : (n == ("__debug__" : Str)) = false := by decide) (hs : starEach [e] X.env = (false, eval e X.env) :: starEach [] X.env := by rfl) :
    PMS X cl W pin (.Raise (some (.Call (.Name n pc) [e] [] pos')) none pos) (sRaise c f m) := by
  obtain ⟨fI, cc, cda, T⟩ := T
  exact PS.imp (ps_raise g.calm g.takes (Mx.pmk_x T (k := 0) (g.room.mono hj) hg hm (aCons he aNil hs) hdb hs)) fun D σ H h => by
    obtain ⟨S, F, fp, D0, E, h2, gl⟩ := LS.iff.mp h
    refine LA.mk E h2 gl.ex fun rs S1 vs F1 H1 fp1 q st1 e1 rr1 x1 => ?_
    match rs, q, rr1 with
    | [.val d], q, ⟨v, us, ev, r, eu⟩ =>
      have eu' : us = [] := eu
      subst eu' ev
      refine ⟨v, rfl, fun dx hd => ?_⟩
      obtain ⟨sm, e2, r2⟩ := Post0.xd (K := X.K) (cl := cl) e1.sub (fs := [(f, d)]) (ws := [(f, v)]) (dx := dx) (by rw [RepF]; exact ⟨v, [], rfl, r, by rw [RepF]⟩) hd
      exact x1 _ S1 q _ _ σ _ _ fp1 (fun _ _ => rfl) sm.step (e1.small sm) ⟨rfl, dx, _, rfl, e2, r2⟩
end

/-! ### try -/
def exNo : EX := fun _ _ => False
def sufE (i : Nat) (D : MEnds) : MEnds := { nx := fun S => D.nx (S.set i .un), bk := fun S => D.bk (S.set i .un), ct := fun S => D.ct (S.set i .un), rt := D.rt, ex := exNo }
def tryAs (i : Nat) (mt : Nat → Bool) (su : Addr → Addr → Nat → MS) (D : MEnds) (xd : XD) (S : Fm) : Prop :=
  if mt xd.c = true then ∀ a dx, su a dx xd.c (sufE i D) (S.set i (.fz (.exo a dx xd.fs))) else D.ex xd S
/-- try: b, except C as n: su -/
def sTryAs (i : Nat) (mt : Nat → Bool) (b : MS) (su : Addr → Addr → Nat → MS) : MS := fun D S => b { D with ex := tryAs i mt su D } S
def trySu (D : MEnds) : List ((Nat → Bool) × MS) → XD → Fm → Prop
  | [], xd, S => D.ex xd S
  | (mt, su) :: r, xd, S => if mt xd.c = true then su { D with ex := exNo } S else trySu D r xd S
/-- try: b, except C: su, .. -/
def sTryM (cs : List ((Nat → Bool) × MS)) (b : MS) : MS := fun D S => b { D with ex := trySu D cs } S
/-- e.f of a caught error -/
def mXf (a dx : Addr) (c c0 : Nat) (f : Str) (m : ME) : ME := fun E Q S => m E (fun r S1 => match r with
  | .val (.exo a' dx' fs) => a' = a ∧ dx' = dx ∧ c = c0 ∧ ∃ d, fs.lookup f = some d ∧ Q (.val d) S1
  | _ => False) S

section
variable {K : PySem.W.Frag} {cl : Nat → Addr} {F H : Hp} {σ : L2.St} {S : Fm} {fp : Nat → List Addr}
theorem EnvR.dropS {i : Nat} {o : Option V} (E : EnvR K cl F H σ S fp) : EnvR K cl F H (σ.set i o) (S.set i .un) fp := by
  have E' := E.setUn (i := i)
  have ne : ∀ {j : Nat} {s : Sl}, (S.set i .un)[j]? = some s → s ≠ .un → i ≠ j := fun {j s} h n z => by
    subst z
    by_cases l : i < S.length
    · rw [List.getElem?_set_self l] at h; cases h; exact n rfl
    · rw [List.getElem?_eq_none (by simpa using l)] at h; cases h
  refine ⟨E'.sub, by simpa using E'.len, fun j d h => ?_, fun j u h => ?_, E'.nf, E'.dj, E'.tb⟩
  · rw [List.getElem?_set_ne (ne h (by simp))]; exact E'.fz j d h
  · rw [List.getElem?_set_ne (ne h (by simp))]; exact E'.ow j u h
theorem Stp.dropS {F0 H0 : Hp} {S0 : Fm} {fp0 : Nat → List Addr} {i : Nat} (st : Stp F0 H0 S0 fp0 F H S fp) : Stp F0 H0 S0 fp0 F H (S.set i .un) fp := ⟨st.ff, st.hh, st.nn, fun a h => st.oo a h.setUn.1, st.th⟩
end
section
variable {X : Cx} {cl : Nat → Addr} {W : WX} {pin : List Nat} {body suite : List Stmt} {b₀ : Stmt} {b : MS} {pos np pos' : Pos} {j i : Nat} {x n : Str} {c : Value} {mt : Nat → Bool}
abbrev WNo : WX := fun _ _ _ _ => False
theorem Good.tr (g : Good X W j) {W' : WX} {pn : List (Addr × Obj)} {xe : Value → Shared → Prop} (tk : Takes (X.tr pn xe) W') (ps : PassesOwn (model X.prog X.w) X.A X.env xe) : Good (X.tr pn xe) W' j :=
  ⟨g.calm, g.room, tk, g.nd, ps⟩
theorem kTryAs {su : Addr → Addr → Nat → MS} (g : Good X W j) (hs : X.stack = X.env :: X.outer) (hf : X.env.frame = some X.env.locals) (hi : X.N[i]? = some n) (hln : X.env.kindOf n = some .local) (hp : i ∉ pin) (hc : Names X x c) (hmt : ∀ k, PySem.W.exmOne X.K (.ref (cl k)) c = some (mt k))
    (hb : ∀ (W' : WX) (pn : List (Addr × Obj)) (xe : Value → Shared → Prop), Good (X.tr pn xe) W' j → PMSs (X.tr pn xe) cl W' pin body b)
    (hsu : ∀ (a dx : Addr) (k : Nat) (oe : Obj) (pn : List (Addr × Obj)), Zc (.ref (cl k)) (some dx) oe → (∃ vs, oe.data = .fields vs) → PMSs (X.suite a ((a, oe) :: pn)) cl WNo pin (b₀ :: suite) (su a dx k)) :
    PMS X cl W pin (.Try body [.ExceptHandler (some (.Name x np)) (some n) (b₀ :: suite) pos'] [] [] pos) (sTryAs i mt b su) := by
  refine PS.imp (ps_try_as (tb := fun W' => LS X.K cl W' pin b) (ts := fun a cls d D σ H => ∃ dx k, d = some dx ∧ cls = .ref (cl k) ∧ LS X.K cl WNo pin (su a dx k) D σ H) hs hf g.nd hi hln hc g.takes
    (fun W' pn xe tk ps => hb W' pn xe (g.tr tk ps)) (fun a oe cls d pn hz hv => ⟨fun pins s σ H D I ⟨dx, k, ed, ec, h⟩ => by
      subst ed ec
      exact (hsu a dx k oe pn hz hv).run pins s σ H D I h⟩)) fun D σ H h => ?_
  obtain ⟨S, F, fp, D0, E, h2, gl⟩ := LS.iff.mp h
  refine LS.iff.mpr ⟨S, F, fp, { D0 with ex := tryAs i mt su D0 }, E, h2, fun xd S' q c' d' σ' F' H' fp' pp st e xr => ?_, gl.nx, gl.bk, gl.ct, gl.rt⟩
  obtain ⟨rfl, dx, ws, ed, hx, rf⟩ := id xr
  refine ⟨mt xd.c, hmt _, fun hb a na => ?_, fun hb => ?_⟩
  · have q' : tryAs i mt su D0 xd S' := q
    unfold tryAs at q'
    rw [if_pos hb] at q'
    refine ⟨dx, xd.c, ed, rfl, LS.iff.mpr ⟨_, F', fp', _, e.setFz (v := V.ref a) (d := .exo a dx xd.fs) (by rw [Rep]; exact ⟨rfl, ws, hx, rf⟩), q' a dx, fun _ _ z => z.elim, ?_, ?_, ?_, ?_⟩⟩
    · intro S2 q2 σ2 F2 H2 fp2 p2 st2 e2
      exact gl.nx _ q2 _ F2 H2 fp2 (fun k hk => ((pin_set hp k hk).trans ((p2 k hk).trans (pin_set hp k hk))).trans (pp k hk)) (st.trans (Stp.trans ⟨Same.refl _, fun _ _ h _ _ => h, fun _ _ _ _ h _ => h, fun a h => .inl h.setFz, fun _ h => h⟩ st2.dropS)) e2.dropS
    · intro S2 q2 σ2 F2 H2 fp2 p2 st2 e2
      exact gl.bk _ q2 _ F2 H2 fp2 (fun k hk => ((pin_set hp k hk).trans ((p2 k hk).trans (pin_set hp k hk))).trans (pp k hk)) (st.trans (Stp.trans ⟨Same.refl _, fun _ _ h _ _ => h, fun _ _ _ _ h _ => h, fun a h => .inl h.setFz, fun _ h => h⟩ st2.dropS)) e2.dropS
    · intro S2 q2 σ2 F2 H2 fp2 p2 st2 e2
      exact gl.ct _ q2 _ F2 H2 fp2 (fun k hk => ((pin_set hp k hk).trans ((p2 k hk).trans (pin_set hp k hk))).trans (pp k hk)) (st.trans (Stp.trans ⟨Same.refl _, fun _ _ h _ _ => h, fun _ _ _ _ h _ => h, fun a h => .inl h.setFz, fun _ h => h⟩ st2.dropS)) e2.dropS
    · intro r S2 q2 v σ2 F2 H2 fp2 p2 st2 e2 rr
      have s1 : Stp F' H' S' fp' F' H' (S'.set i (.fz (.exo a dx xd.fs))) fp' := ⟨Same.refl _, fun _ _ h _ _ => h, fun _ _ _ _ h _ => h, fun a h => .inl h.setFz, fun _ h => h⟩
      exact gl.rt r _ q2 v _ F2 H2 fp2 (fun k hk => ((p2 k hk).trans (pin_set hp k hk)).trans (pp k hk)) ((st.trans s1).trans st2) e2 (rr.from (st.trans s1))
  · have q' : tryAs i mt su D0 xd S' := q
    unfold tryAs at q'
    rw [if_neg (by rw [hb]; decide)] at q'
    exact gl.ex xd S' q' _ _ σ' F' H' fp' pp st e xr
inductive HdsM (X : Cx) (cl : Nat → Addr) (pin : List Nat) : List ExceptHandler → List ((Nat → Bool) × MS) → List Value → Prop
  | nil : HdsM X cl pin [] [] []
  | cons {x : Str} {c : Value} {mt : Nat → Bool} {su : MS} {b₀ : Stmt} {suite : List Stmt} {np pos' : Pos} {hds : List ExceptHandler} {l : List ((Nat → Bool) × MS)} {cs : List Value} (hc : Names X x c) (hmt : ∀ k, PySem.W.exmOne X.K (.ref (cl k)) c = some (mt k))
      (hsu : ∀ (a : Addr) (oe : Obj) (pn : List (Addr × Obj)), PMSs (X.suite a ((a, oe) :: pn)) cl WNo pin (b₀ :: suite) su) (r : HdsM X cl pin hds l cs) :
      HdsM X cl pin (.ExceptHandler (some (.Name x np)) none (b₀ :: suite) pos' :: hds) ((mt, su) :: l) (c :: cs)
theorem HdsM.ok {hds : List ExceptHandler} {l : List ((Nat → Bool) × MS)} {cs : List Value} (h : HdsM X cl pin hds l cs) : HdsOk X hds (cs.zip (l.map fun q a cls d => LS X.K cl WNo pin q.2)) := by
  induction h with
  | nil => exact .nil
  | cons hc hmt hsu r ih => exact .cons hc (fun a oe cls d pn _ _ => hsu a oe pn) ih
theorem kTryM {h₀ : ExceptHandler} {hds : List ExceptHandler} {l : List ((Nat → Bool) × MS)} {cs : List Value} (g : Good X W j) (hs : X.stack = X.env :: X.outer) (hf : X.env.frame = some X.env.locals)
    (hb : ∀ (W' : WX) (pn : List (Addr × Obj)) (xe : Value → Shared → Prop), Good (X.tr pn xe) W' j → PMSs (X.tr pn xe) cl W' pin body b) (hh : HdsM X cl pin (h₀ :: hds) l cs) :
    PMS X cl W pin (.Try body (h₀ :: hds) [] [] pos) (sTryM l b) := by
  refine PS.imp (ps_try_many (tb := fun W' => LS X.K cl W' pin b) hs hf g.takes (fun W' pn xe tk ps => hb W' pn xe (g.tr tk ps)) hh.ok) fun D σ H h => ?_
  obtain ⟨S, F, fp, D0, E, h2, gl⟩ := LS.iff.mp h
  refine LS.iff.mpr ⟨S, F, fp, { D0 with ex := trySu D0 l }, E, h2, fun xd S' q c' d' σ' F' H' fp' pp st e xr => ?_, gl.nx, gl.bk, gl.ct, gl.rt⟩
  have key : ∀ {hds : List ExceptHandler} {l : List ((Nat → Bool) × MS)} {cs : List Value}, HdsM X cl pin hds l cs → trySu D0 l xd S' → wMany X.K W D (cs.zip (l.map fun q a cls d => LS X.K cl WNo pin q.2)) c' d' σ' H' := fun {hds l cs} hh => by
    induction hh with
    | nil => exact fun q' => gl.ex xd S' q' _ _ σ' F' H' fp' pp st e xr
    | @cons x c mt su b₀ suite np pos' hds l cs hc hmt hsu r ih =>
      intro q'
      refine ⟨mt xd.c, by rw [xr.1]; exact hmt _, fun hb a na => ?_, fun hb => ?_⟩
      · unfold trySu at q'
        rw [if_pos hb] at q'
        have gl' := gl.step st pp
        exact LS.iff.mpr ⟨S', F', fp', { D0 with ex := exNo }, e, q', ⟨fun _ _ z => z.elim, gl'.nx, gl'.bk, gl'.ct, gl'.rt⟩⟩
      · unfold trySu at q'
        rw [if_neg (by rw [hb]; decide)] at q'
        exact ih q'
  exact key hh q
theorem qXf {e : Expr} {m : ME} {a dx : Addr} {k c0 : Nat} {oe : Obj} {pn : List (Addr × Obj)} {f : Str} (T : XfC X.K (cl c0)) (hno : PySem.W.findIn X.K (.ref (cl c0)) f = some none) (hz : Zc (.ref (cl k)) (some dx) oe) (hf : ∃ vs, oe.data = .fields vs)
    (he : PM (X.suite a ((a, oe) :: pn)) cl W pin e m) (hb : attributeBase e f (X.suite a ((a, oe) :: pn)).env (eval e (X.suite a ((a, oe) :: pn)).env) = eval e (X.suite a ((a, oe) :: pn)).env := by rfl) :
    PM (X.suite a ((a, oe) :: pn)) cl W pin (.Attribute e f pos) (mXf a dx k c0 f m) :=
  PE.imp (pe_xf (C := cl c0) T hno hz hf he hb) fun σ H Q ⟨S, F, fp, E0, Q0, E, h2, x, kk⟩ => LE.mk E h2 x fun r S1 v F1 H1 fp1 q st e1 rr x1 => by
    match r, q, rr with
    | .val (.exo a' dx' fs), ⟨ea, ed, ek, d, hl, q9⟩, rr9 =>
      subst ea ed ek
      have r' : Rep X.K cl F1 (.exo a' dx' fs) v := rr9
      rw [Rep] at r'
      obtain ⟨ev, ws, h1, h3⟩ := r'
      obtain ⟨u, h4, h5⟩ := h3.lookup hl
      exact ⟨ev, rfl, dx', ws, u, rfl, e1.sub _ _ h1, h4, kk _ _ q9 u F1 H1 fp1 st e1 h5⟩
end
end Mv

/-! Mv: dicts with keys of ints and texts; in. -/
namespace Mv
open PySem L2
def keyD : D → Option Key
  | .int i => some (.inl i)
  | .str x => some (.inr x)
  | _ => none
def valD (kvs : List (Key × D)) (k : Key) : Option D := (kvs.find? fun kv => decide (kv.1 = k)).map (·.2)
def putKD (kvs : List (Key × D)) (k : Key) (v : D) : List (Key × D) :=
  if (kvs.any fun kv => decide (kv.1 = k)) = true then kvs.map (fun kv => if kv.1 = k then (kv.1, v) else kv) else kvs ++ [(k, v)]
section
variable {K : PySem.W.Frag} {cl : Nat → Addr} {F H : Hp}
theorem RepK.val : ∀ {ds : List (Key × D)} {ws : List (Key × V)} (k : Key), RepK K cl F ds ws → (valD ds k).isSome = (valV ws k).isSome ∧ ∀ d, valD ds k = some d → ∃ v, valV ws k = some v ∧ Rep K cl F d v
  | [], _, k, h => by rw [RepK] at h; subst h; exact ⟨rfl, fun d e => by cases e⟩
  | (j, d) :: ds, _, k, h => by
    rw [RepK] at h
    obtain ⟨v, r, rfl, h1, h2⟩ := h
    by_cases c : j = k
    · have e1 : valD ((j, d) :: ds) k = some d := by simp [valD, List.find?_cons, c]
      have e2 : valV ((j, v) :: r) k = some v := valV_pos c
      rw [e1, e2]
      exact ⟨rfl, fun d' e => by cases e; exact ⟨v, rfl, h1⟩⟩
    · have e1 : valD ((j, d) :: ds) k = valD ds k := by simp [valD, List.find?_cons, c]
      have e2 : valV ((j, v) :: r) k = valV r k := by simp [valV, List.find?_cons, c]
      rw [e1, e2]
      exact RepK.val k h2
theorem RepK.length : ∀ {ds : List (Key × D)} {ws : List (Key × V)}, RepK K cl F ds ws → ds.length = ws.length
  | [], _, h => by rw [RepK] at h; subst h; rfl
  | (j, d) :: ds, _, h => by
    rw [RepK] at h
    obtain ⟨v, r, rfl, h1, h2⟩ := h
    simp [RepK.length h2]
theorem RepK.any : ∀ {ds : List (Key × D)} {ws : List (Key × V)} (p : Key → Bool), RepK K cl F ds ws → (ds.any fun kv => p kv.1) = ws.any fun kv => p kv.1
  | [], _, _, h => by rw [RepK] at h; subst h; rfl
  | (j, d) :: ds, _, p, h => by
    rw [RepK] at h
    obtain ⟨v, r, rfl, h1, h2⟩ := h
    simp [RepK.any p h2]
theorem RepK.app : ∀ {ds es : List (Key × D)} {ws us : List (Key × V)}, RepK K cl F ds ws → RepK K cl F es us → RepK K cl F (ds ++ es) (ws ++ us)
  | [], _, _, _, h, q => by rw [RepK] at h; subst h; exact q
  | (j, d) :: ds, _, _, _, h, q => by
    rw [RepK] at h
    obtain ⟨v, r, rfl, h1, h2⟩ := h
    show RepK K cl F ((j, d) :: (ds ++ _)) ((j, v) :: (r ++ _))
    rw [RepK]; exact ⟨v, _, rfl, h1, h2.app q⟩
theorem RepK.one {k : Key} {d : D} {v : V} (h : Rep K cl F d v) : RepK K cl F [(k, d)] [(k, v)] := by rw [RepK]; exact ⟨v, [], rfl, h, by rw [RepK]⟩
theorem RepK.mapPut {k : Key} {d : D} {v : V} (h : Rep K cl F d v) : ∀ {ds : List (Key × D)} {ws : List (Key × V)}, RepK K cl F ds ws → RepK K cl F (ds.map fun kv => if kv.1 = k then (kv.1, d) else kv) (ws.map fun kv => if kv.1 = k then (kv.1, v) else kv)
  | [], _, q => by rw [RepK] at q; subst q; exact (by rw [List.map_nil, RepK]; rfl)
  | (j, x) :: ds, _, q => by
    rw [RepK] at q
    obtain ⟨u, r, rfl, h1, h2⟩ := q
    rw [List.map_cons, List.map_cons]
    by_cases c : j = k
    · rw [if_pos c, if_pos c, RepK]; exact ⟨v, _, rfl, h, RepK.mapPut h h2⟩
    · rw [if_neg c, if_neg c, RepK]; exact ⟨u, _, rfl, h1, RepK.mapPut h h2⟩
theorem RepK.put {k : Key} {d : D} {v : V} {ds : List (Key × D)} {ws : List (Key × V)} (h : Rep K cl F d v) (q : RepK K cl F ds ws) : RepK K cl F (putKD ds k d) (putK ws k v) := by
  unfold putKD putK
  rw [q.any (fun j => decide (j = k))]
  by_cases c : (ws.any fun kv => decide (kv.1 = k)) = true
  · rw [if_pos c, if_pos c]; exact q.mapPut h
  · rw [if_neg c, if_neg c]; exact q.app (RepK.one h)
theorem Pk.key {d : D} {v : V} {k : Key} (p : Pk K cl F H d v) (h : keyD d = some k) : v = kV k := by
  cases d with
  | int i => have e := p.int; subst e; cases h; rfl
  | str i => have e := p.str; subst e; cases h; rfl
  | _ => cases h
def flatD : D → Bool
  | .non => true
  | .bl _ => true
  | .int _ => true
  | .str _ => true
  | _ => false
theorem Pk.flat {d : D} {v : V} (p : Pk K cl F H d v) (h : flatD d = true) : flatV v = true := by
  cases d with
  | non => have e := p.non; subst e; rfl
  | bl i => have e := p.bl; subst e; rfl
  | int i => have e := p.int; subst e; rfl
  | str i => have e := p.str; subst e; rfl
  | _ => cases h
theorem Rep.pk {d : D} {v : V} (h : Rep K cl F d v) : Pk K cl F H d v := .inl h
theorem eqV_flat {d e : D} {v u : V} (p : Pk K cl F H d v) (q : Pk K cl F H e u) (h : flatD d = true) (h2 : flatD e = true) : eqV v u = deq d e := by
  cases d with
  | non => have z := p.non; subst z; cases e with
    | non => have z := q.non; subst z; simp [eqV, deq]
    | bl i => have z := q.bl; subst z; simp [eqV, deq]
    | int i => have z := q.int; subst z; simp [eqV, deq]
    | str i => have z := q.str; subst z; simp [eqV, deq]
    | _ => cases h2
  | bl i => have z := p.bl; subst z; cases e with
    | non => have z := q.non; subst z; simp [eqV, deq]
    | bl i => have z := q.bl; subst z; simp [eqV, deq]
    | int i => have z := q.int; subst z; simp [eqV, deq]
    | str i => have z := q.str; subst z; simp [eqV, deq]
    | _ => cases h2
  | int i => have z := p.int; subst z; cases e with
    | non => have z := q.non; subst z; simp [eqV, deq]
    | bl i => have z := q.bl; subst z; simp [eqV, deq]
    | int i => have z := q.int; subst z; simp [eqV, deq]
    | str i => have z := q.str; subst z; simp [eqV, deq]
    | _ => cases h2
  | str i => have z := p.str; subst z; cases e with
    | non => have z := q.non; subst z; simp [eqV, deq]
    | bl i => have z := q.bl; subst z; simp [eqV, deq]
    | int i => have z := q.int; subst z; simp [eqV, deq]
    | str i => have z := q.str; subst z; simp [eqV, deq]
    | _ => cases h2
  | _ => cases h
theorem inV_flat {d : D} {v : V} (p : Pk K cl F H d v) (h : flatD d = true) : ∀ {xs : List D} {vs : List V}, RepL K cl F xs vs → xs.all flatD = true → vs.all flatV = true ∧ inV v vs = xs.any fun y => deq y d
  | [], _, r, _ => by rw [RepL] at r; subst r; exact ⟨rfl, rfl⟩
  | x :: xs, _, r, a => by
    rw [RepL] at r
    obtain ⟨u, us, rfl, h1, h2⟩ := r
    obtain ⟨a1, a2⟩ := Bool.and_eq_true_iff.mp (show (flatD x && xs.all flatD) = true from a)
    obtain ⟨b1, b2⟩ := inV_flat p h h2 a2
    refine ⟨by simp [Pk.flat (H := H) (.inl h1) a1]; simpa using b1, ?_⟩
    unfold inV at b2 ⊢
    rw [List.any_cons, List.any_cons, b2, eqV_flat (H := H) (.inl h1) p a1 h]
end
/-! ### in -/
def seqD : D → Option (List D)
  | .lst xs => some xs
  | .rol xs => some xs
  | .tup xs => some xs
  | .rot xs => some xs
  | _ => none
def inK (neg : Bool) : DOp2 := fun x y k => match y with
  | .dK kvs => ∃ key, keyD x = some key ∧ k (.val (.bl (neg ^^ (valD kvs key).isSome)))
  | .str t => ∃ c, x = .str ⟨#[c]⟩ ∧ k (.val (.bl (neg ^^ decide (c ∈ t.cps.toList))))
  | _ => ∃ xs, seqD y = some xs ∧ flatD x = true ∧ xs.all flatD = true ∧ k (.val (.bl (neg ^^ xs.any fun z => deq z x)))
def dIn : DOp2 := inK false
def dNotIn : DOp2 := inK true
section
variable {X : Cx} {cl : Nat → Addr}
theorem sq_pk {K : PySem.W.Frag} {F H : Hp} {d : D} {v : V} {xs : List D} (s : Same F H) (p : Pk K cl F H d v) (h : seqD d = some xs) : ∃ a vs, v = .ref a ∧ (SqL K H a vs ∨ SqT K H a vs) ∧ RepL K cl F xs vs := by
  cases d with
  | lst ys => cases h; obtain ⟨a, vs, e, h1, h2⟩ := p.lst s; exact ⟨a, vs, e, .inl (SqL.of h1), h2⟩
  | rol ys => cases h; obtain ⟨a, vs, e, h1, h2⟩ := p.rol s; exact ⟨a, vs, e, .inl h1, h2⟩
  | tup ys => cases h; obtain ⟨a, vs, e, h1, h2, _⟩ := p.tup s; exact ⟨a, vs, e, .inr (SqT.of h1), h2⟩
  | rot ys => cases h; obtain ⟨a, vs, e, h1, h2, _⟩ := p.rot s; exact ⟨a, vs, e, .inr h1, h2⟩
  | _ => cases h
theorem o_in (hu : X.A.units + 64 < cLine) : OpR X (compareOp .In) (r2 X.K cl dIn) := by
  intro pins s σ H x y v u Q I rx ry ⟨F, d, e, Q0, sm, p1, p2, q, P⟩
  have sq : ∀ {xs : List D}, seqD e = some xs → flatD d = true → xs.all flatD = true → Q0 (.val (.bl (false ^^ xs.any fun z => deq z d))) → wpAny (model X.prog X.w) X.A (compareOp .In v u) (EP X pins σ Q) X.xe s := fun {xs} h1 h2 h3 q => by
    obtain ⟨a, vs, rfl, hq, r⟩ := sq_pk sm p2 h1
    obtain ⟨b1, b2⟩ := inV_flat p1 h2 r h3
    exact op_in_seq pins s σ H x _ v u Q I rx ry ⟨a, vs, rfl, hq, p1.flat h2, b1, by rw [b2]; exact P.bl sm (by simpa using q)⟩
  cases e with
  | dK kvs =>
    obtain ⟨key, hk, q⟩ := q
    obtain ⟨a, ws, e, h1, h2⟩ := p2.dK sm
    subst e
    have ek := p1.key hk
    subst ek
    obtain rfl : u = Value.ref a := ry
    refine d_in (by omega) I (.inl ⟨_, _, h1, rfl, rfl⟩) rx fun s' I' => ⟨.bl _, H, I', rfl, P.bl sm ?_⟩
    rw [← (h2.val key).1]
    simpa using q
  | str t =>
    obtain ⟨c, rfl, q⟩ := q
    exact op_in_sign pins s σ H x y v u Q I rx ry ⟨c, t, p1.str, p2.str, P.bl sm (by simpa using q)⟩
  | lst xs => obtain ⟨ys, h1, h2, h3, q⟩ := q; exact sq h1 h2 h3 q
  | rol xs => obtain ⟨ys, h1, h2, h3, q⟩ := q; exact sq h1 h2 h3 q
  | tup xs => obtain ⟨ys, h1, h2, h3, q⟩ := q; exact sq h1 h2 h3 q
  | rot xs => obtain ⟨ys, h1, h2, h3, q⟩ := q; exact sq h1 h2 h3 q
  | _ => obtain ⟨ys, h1, _⟩ := q; cases h1
theorem o_notIn (hu : X.A.units + 64 < cLine) : OpR X (compareOp .NotIn) (r2 X.K cl dNotIn) := by
  intro pins s σ H x y v u Q I rx ry ⟨F, d, e, Q0, sm, p1, p2, q, P⟩
  have sq : ∀ {xs : List D}, seqD e = some xs → flatD d = true → xs.all flatD = true → Q0 (.val (.bl (true ^^ xs.any fun z => deq z d))) → wpAny (model X.prog X.w) X.A (compareOp .NotIn v u) (EP X pins σ Q) X.xe s := fun {xs} h1 h2 h3 q => by
    obtain ⟨a, vs, rfl, hq, r⟩ := sq_pk sm p2 h1
    obtain ⟨b1, b2⟩ := inV_flat p1 h2 r h3
    exact op_notIn_seq pins s σ H x _ v u Q I rx ry ⟨a, vs, rfl, hq, p1.flat h2, b1, by rw [b2]; exact P.bl sm (by simpa using q)⟩
  cases e with
  | dK kvs =>
    obtain ⟨key, hk, q⟩ := q
    obtain ⟨a, ws, e, h1, h2⟩ := p2.dK sm
    subst e
    have ek := p1.key hk
    subst ek
    obtain rfl : u = Value.ref a := ry
    refine d_notIn (by omega) I (.inl ⟨_, _, h1, rfl, rfl⟩) rx fun s' I' => ⟨.bl _, H, I', rfl, P.bl sm ?_⟩
    rw [← (h2.val key).1]
    simpa using q
  | str t =>
    obtain ⟨c, rfl, q⟩ := q
    exact op_notInS pins s σ H x y v u Q I rx ry ⟨c, t, p1.str, p2.str, P.bl sm (by simpa using q)⟩
  | lst xs => obtain ⟨ys, h1, h2, h3, q⟩ := q; exact sq h1 h2 h3 q
  | rol xs => obtain ⟨ys, h1, h2, h3, q⟩ := q; exact sq h1 h2 h3 q
  | tup xs => obtain ⟨ys, h1, h2, h3, q⟩ := q; exact sq h1 h2 h3 q
  | rot xs => obtain ⟨ys, h1, h2, h3, q⟩ := q; exact sq h1 h2 h3 q
  | _ => obtain ⟨ys, h1, _⟩ := q; cases h1
/-! ### d[k] -/
def dIxK : DOp2 := fun x y k => match x with
  | .dK kvs => ∃ key d, keyD y = some key ∧ valD kvs key = some d ∧ k (.val d)
  | _ => dIx x y k
theorem ix_anyK (hu : X.A.units + 64 < cLine) : IxR X (r2 X.K cl dIxK) := by
  intro vl sl pins s σ H x y v u Q I rx ry ⟨F, d, e, Q0, sm, p1, p2, q, P⟩ hsub
  cases d with
  | dK kvs =>
    obtain ⟨key, d, hk, hd, q⟩ := q
    obtain ⟨a, ws, ea, h1, h2⟩ := p1.dK sm
    subst ea
    have ek := p2.key hk
    subst ek
    obtain rfl : v = Value.ref a := rx
    obtain ⟨w, hw, rw'⟩ := (h2.val key).2 d hd
    have g : DGet H a (kV key) (some w) := .inl ⟨_, key, h1, rfl, hw.symm⟩
    exact PyProof.Rows.tail_any (dict_typeIs I g) PySem.F.slot_dict_getitem.lookup (d_getItem (by omega) I g ry fun w' s3 I3 rw3 => ⟨w, H, I3, rw3, P.val sm q rw'⟩) hsub
  | _ => exact ix_any vl sl pins s σ H x y v u Q I rx ry ⟨F, _, e, Q0, sm, p1, p2, q, P⟩ hsub
end
section
variable {X : Cx} {cl : Nat → Addr} {W : WX} {pin : List Nat} {a b e ix o : Expr} {ma mb m mi : ME} {i : Nat} {pos tpos pos' : Pos} {x : Str}
theorem qIxK (hu : X.A.units + 64 < cLine) (ha : PM X cl W pin a ma) (hb : PM X cl W pin b mb) (hs : PlainIx b := by intro _ _; rfl) : PM X cl W pin (.Subscript a b pos) (mBin dIxK ma mb) :=
  PE.imp (pe_ix (ix_anyK hu) ha hb hs) fun _ _ _ h => le_bin h
/-- {} -/
def mDic0 : ME := fun _ Q S => Q (.own (.dK [])) S
theorem qDic0 : PM X cl W pin (.Dict [] [] pos) mDic0 := PE.imp pe_dnewK fun σ H Q ⟨S, F, fp, E0, Q0, E, h2, xx, k⟩ p hp => by
  refine k _ _ h2 _ F _ fp (Small.step ⟨Same.refl F, same_upd hp, fun _ _ _ z => z, E.sub.trans (same_upd hp)⟩) (E.small ⟨Same.refl F, same_upd hp, fun _ _ _ z => z, E.sub.trans (same_upd hp)⟩) ?_
  exact Res0.rel (F0 := F) (H0 := H) (S0 := S) (fp0 := fp) E Stp.refl (r := .own (.dK [])) ⟨p, [p], rfl, ⟨rfl, [], upd_same, by rw [RepK]⟩, fun a ha => by
    have e : a = p := by simpa using ha
    subst e
    exact ⟨E.sub.free hp, hp⟩⟩
theorem EnvR.dkAt {K : PySem.W.Frag} {F H : Hp} {σ : L2.St} {S : Fm} {fp : Nat → List Addr} {kvs : List (Key × D)} (E : EnvR K cl F H σ S fp) (h : S[i]? = some (Sl.ow (.dK kvs))) : ∃ p ws, σ[i]? = some (some (.ref p)) ∧ H p = some (.dK ws) ∧ RepK K cl F kvs ws := by
  obtain ⟨q, h1, c⟩ := E.ow i _ h
  obtain ⟨_, ws, h2, h3⟩ := c
  exact ⟨q, ws, h1, h2, h3⟩
theorem EnvR.putK {K : PySem.W.Frag} {F H : Hp} {σ : L2.St} {S : Fm} {fp : Nat → List Addr} {xs xs' : List (Key × D)} {ws : List (Key × V)} {p : Addr} (E : EnvR K cl F H σ S fp) (h : S[i]? = some (Sl.ow (.dK xs))) (hp : σ[i]? = some (some (.ref p))) (r : RepK K cl F xs' ws) :
    EnvR K cl F (upd H p (.dK ws)) σ (S.set i (.ow (.dK xs'))) fp ∧ Stp F H S fp F (upd H p (.dK ws)) (S.set i (.ow (.dK xs'))) fp := by
  obtain ⟨q, h1, c⟩ := E.ow i _ h
  rw [hp] at h1; cases h1
  exact E.put h hp c.1 ⟨rfl, ws, upd_same, r⟩
def duQ (S : Fm) (i : Nat) (k : List (Key × D) → Prop) : Prop := ∃ xs, S[i]? = some (Sl.ow (.dK xs)) ∧ k xs
/-- d[k] = e -/
def sPutK (i : Nat) (mi m : ME) : MS := fun Z S => m Z.ex (fun r S1 => match fzR r with
  | .val d => duQ S1 i fun _ => mi Z.ex (fun q S2 => match q with
    | .val kd => duQ S2 i fun kvs => ∃ key, keyD kd = some key ∧ kvs.length < 16777216 ∧ Z.nx (S2.set i (.ow (.dK (putKD kvs key d))))
    | _ => False) S1
  | _ => False) S
theorem kPutK (ho : PE X o (tVar i)) (hi : PM X cl W pin ix mi) (he : PM X cl W pin e m)
    (h1 : PG X (.Subscript o ix tpos) (gSub (tVar i) (LE X.K cl W pin mi) rSetD)) (hs : swapsWithSole [.Subscript o ix tpos] e pos.line X.env = pure false := by rfl) (hw : swappedStores [.Subscript o ix tpos] e X.env = pure none := by rfl)
    (h2 : (assignEach [.Subscript o ix tpos] X.env).map (·.2) = [assign (.Subscript o ix tpos) X.env] := by rfl) : PMS X cl W pin (.Assign [.Subscript o ix tpos] e pos) (sPutK i mi m) :=
  PS.imp (ps_asg he h1 hs hw h2) fun D σ H h => by
    obtain ⟨S, F, fp, D0, E, h2, gl⟩ := LS.iff.mp h
    refine LE.mk E h2 gl.ex fun r S1 v F1 H1 fp1 q1 st1 e1 rr x1 => ?_
    obtain ⟨G1, e1', st1', sg, ra1⟩ := RelR.ready e1 st1 rr
    cases hr : fzR r with
    | val d =>
      simp only [hr] at q1 ra1
      obtain ⟨xs0, g0, q1⟩ := q1
      obtain ⟨p, ws, h3, h4, _⟩ := e1'.dkAt g0
      have ra : Rep X.K cl G1 d v := ra1
      refine ⟨_, h3, LE.mk e1' q1 (gl.ex.step st1' fun _ _ => rfl) fun r2 S2 v2 F2 H2 fp2 q2 st2 e2 rr2 x2 => ?_⟩
      match r2, q2, rr2 with
      | .val kd, ⟨xs, g1, key, g2, g3, g4⟩, rr2 =>
        have ek : v2 = kV key := Pk.key (H := H2) (.inl rr2) g2
        subst ek
        obtain ⟨p1, ws1, j1, j2, j3⟩ := e2.dkAt g1
        rw [h3] at j1; cases j1
        obtain ⟨k1, k2⟩ := e2.putK g1 h3 (RepK.put (k := key) (Rep.mono st2.ff _ _ ra) j3)
        exact ⟨p, _, rfl, DPut.k j2 (by rw [sizeLine_eq, ← j3.length]; exact g3), gl.nx _ g4 σ F2 _ fp2 (fun _ _ => rfl) ((st1'.trans st2).trans k2) k1⟩
    | own o => simp only [hr] at q1
    | slot i => simp only [hr] at q1
/-- name += e, of ints -/
def sAug (g : Int → Int → Int) (i : Nat) (m : ME) : MS := fun Z S => ∃ y : Int, S[i]? = some (Sl.fz (.int y)) ∧ m Z.ex (fun r S1 => match r with
  | .val (.int z) => Z.nx (S1.set i (.fz (.int (g y z))))
  | _ => False) S
theorem kAug {op : Operator} {g : Int → Int → Int} (hop : PIp X op (ipI g)) (hN : X.N.Nodup) (hi : X.N[i]? = some x) (hx : Loc X.env.scope x) (hp : i ∉ pin) (he : PM X cl W pin e m)
    (hf : X.fn x = true ∨ X.env.scope.names.lookup x = some .local := by first | exact .inl rfl | exact .inr rfl | assumption) : PMS X cl W pin (.AugAssign (.Name x pos') op e pos) (sAug g i m) :=
  PS.imp (ps_aug hN hi hx he hop hf) fun D σ H h => by
    obtain ⟨S, F, fp, D0, E, h2, gl⟩ := LS.iff.mp h
    obtain ⟨y, hy, h2⟩ := h2
    obtain ⟨v, hv, rv⟩ := E.fz i _ hy
    rw [Rep] at rv
    subst rv
    refine ⟨_, hv, LE.mk E h2 gl.ex fun r S1 v1 F1 H1 fp1 q1 st1 e1 rr x1 => ?_⟩
    match r, q1, rr with
    | .val (.int z), q1, rr =>
      have ez : v1 = .int z := by have w : Rep X.K cl F1 (.int z) v1 := rr; rwa [Rep] at w
      exact ⟨y, z, rfl, ez, gl.nx _ q1 _ F1 H1 fp1 (pin_set hp) st1.setFz (e1.setFz (by rw [Rep]))⟩
end
end Mv

/-! Mv: x[::-1] of lists and tuples. -/
namespace Mt
open PySem PySem.Spec PySem.Calls PyProof.Rows L2
section
variable {prog : Program} {w : World} {A : Around} {E : Value → Shared → Prop} {s : Shared}
theorem adjust_back (n : Nat) : Builtin.Slice.sliceAdjust none none (-1) (n : Int) = ((n : Int) - 1, -1) := by
  unfold Builtin.Slice.sliceAdjust
  simp
theorem places_back (n : Nat) : Builtin.Slice.slicePlaces ((n : Int) - 1) (-1) (-1) = n := by
  unfold Builtin.Slice.slicePlaces
  have h1 : ¬ ((-1 : Int) > 0) := by omega
  simp only [h1, if_false]
  by_cases c : (n : Int) - 1 > -1
  · simp only [c, if_true]
    rw [show (-(-1) : Int) = 1 by decide, Int.ediv_one]
    omega
  · simp only [c, if_false]
    omega
theorem sliceApplied_back {sl : Addr} {vs : Value} {n : Nat} {Q : Int × Int × Nat → Shared → Prop} (hs : s.heap.IsSliceOf sl .none .none vs) (ps : IsPart vs (some (-1)))
    (h : Q ((n : Int) - 1, -1, n) s) : wpAny (model prog w) A (Builtin.Slice.sliceApplied (.ref sl) (pure (n : Int))) Q E s := by
  obtain ⟨os, hos, hcs, hds⟩ := id hs
  unfold Builtin.Slice.sliceApplied Builtin.Slice.sliceFields
  refine wpAny_bind (wpAny_bind (wpAny_field hos hds (x := .none) rfl (wpAny_bind (wpAny_field hos hds (x := .none) rfl (wpAny_bind (wpAny_field hos hds (x := vs) rfl (wpAny_pure ?_)))))))
  refine wpAny_bind (HT.slicePart_ ps ?_)
  show wpAny _ _ (if ((-1 : Int) == 0) = true then _ else _) _ _ s
  rw [if_neg (by decide)]
  refine wpAny_bind (slicePart_none (wpAny_bind (slicePart_none (wpAny_bind (wpAny_pure ?_)))))
  show wpAny _ _ (match Builtin.Slice.sliceAdjust none none (-1) (n : Int) with | (lo, hi) => pure (lo, (-1 : Int), Builtin.Slice.slicePlaces lo hi (-1))) _ _ s
  rw [adjust_back n]
  show wpAny _ _ (pure ((n : Int) - 1, (-1 : Int), Builtin.Slice.slicePlaces ((n : Int) - 1) (-1) (-1))) _ _ s
  rw [places_back]
  exact wpAny_pure h
theorem pick_back (xs : Array Value) : ((List.range xs.size).filterMap fun (m : Nat) => xs[((xs.size : Int) - 1 + (m : Int) * (-1)).toNat]?).toArray = xs.toList.reverse.toArray := by
  congr 1
  have e : (List.range xs.size).filterMap (fun (m : Nat) => xs[((xs.size : Int) - 1 + (m : Int) * (-1)).toNat]?) = (List.range xs.size).filterMap (fun m => xs[xs.size - 1 - m]?) := by
    congr 1
    funext m
    have : ((xs.size : Int) - 1 + (m : Int) * (-1)).toNat = xs.size - 1 - m := by omega
    rw [this]
  rw [e]
  have e2 : (List.range xs.size).filterMap (fun m => xs[xs.size - 1 - m]?) = ((List.range xs.size).map fun k => xs.size - 1 - k).filterMap (xs[·]?) := by
    rw [List.filterMap_map]; rfl
  rw [e2, PySem.W.krv_range, List.filterMap_reverse, PySem.W.krv_all]
theorem getItem_tuple_back {t sl : Addr} {items : Array Value} {vs : Value} {Q : Value → Shared → Prop} (ht : IsTup s.heap t items) (hs : s.heap.IsSliceOf sl .none .none vs) (ps : IsPart vs (some (-1)))
    (h : Q (.ref s.heap.objs.size) { s with heap := s.heap.push { cls := .type "tuple", data := .seq items.toList.reverse.toArray } })
    (hsz : items.size ≤ sizeLine) : wpAny (model prog w) A (getItem (.ref t) (.ref sl)) Q E s := by
  have htake : sizeOk (.seq items.toList.reverse.toArray) := by
    show items.toList.reverse.toArray.size ≤ sizeLine
    rw [List.size_toArray, List.length_reverse, Array.length_toList]
    exact hsz
  obtain ⟨os, hos, hcs, hds⟩ := id hs
  have hTs : s.TypeIs (.ref sl) "slice" := ⟨os, hos, hcs⟩
  unfold getItem
  try with_reducible refine wpAny_holding ?_
  first | refine wpAny_bind (wpAny_pure ?_) | skip
  refine wpAny_bind (wpAny_sequenceKey ht.typeIs (by decide) ?_)
  refine wpAny_bind (wpAny_callSpecial?_slot (name := Str.ofString "__getitem__") ht.typeIs PyProof.Rows.slot_tuple_getitem
    (wpAny_call_entry PyProof.Rows.slot_tuple_getitem ht.typeIs entry_tuple_getitem ?_ (args_tuple_getitem _ _)))
  show wpAny _ _ (Builtin.Tuple.tupleItemsOf (.ref t) >>= _) _ _ s
  refine wpAny_bind (tupleItemsOf_ ht ?_)
  refine wpAny_bind (wpAny_typeOf hTs ?_)
  rw [if_pos (by decide)]
  refine wpAny_bind (sliceApplied_back hs ps ?_)
  have hno : ¬ ((((items.size : Int) - 1) == 0 && (-1 : Int) == 1 && items.size == items.size) = true) := by
    rw [show ((-1 : Int) == 1) = false by decide]; simp
  show wpAny _ _ (if (((items.size : Int) - 1) == 0 && (-1 : Int) == 1 && items.size == items.size) = true then _ else _) _ _ s
  rw [if_neg hno, pick_back]
  first
    | exact wpAny_bind (m := Builtin.Tuple.tupleExact _) (wpAny_newObj_type (wpAny_pure ⟨_, rfl, wpAny_pure h⟩) htake)
    | exact wpAny_bind (m := Builtin.Tuple.tupleExact _) (wpAny_newObj_type (wpAny_bind (wpAny_pure (wpAny_pure ⟨_, rfl, wpAny_pure h⟩))) htake)
    | exact wpAny_bind (wpAny_bind (m := Builtin.Tuple.tupleExact _) (wpAny_newObj_type (wpAny_pure (wpAny_pure ⟨_, rfl, wpAny_pure h⟩)) htake))
    | exact wpAny_bind (wpAny_bind (m := Builtin.Tuple.tupleExact _) (wpAny_newObj_type (wpAny_pure ⟨_, rfl, wpAny_pure h⟩) htake))
end
def tRevA (K : PySem.W.Frag) (te : TE) : TE := fun σ H Q => te σ H fun x H1 => ∃ a xs, x = .ref a ∧ ((SqL K H1 a xs ∧ ∀ p, H1 p = none → Q (.ref p) (upd H1 p (.lst xs.reverse))) ∨ (SqT K H1 a xs ∧ ∀ p, H1 p = none → Q (.ref p) (upd H1 p (.tup xs.reverse))))
theorem pe_revA {X : Cx} {e : Expr} {te : TE} {k : Nat} {p1 p2 p3 pos : Pos} (he : PE X e te) : PE X (.Subscript e (.Slice none none (some (.UnaryOp .USub (.Constant (.int 1) k p1) p2)) p3) pos) (tRevA X.K te) := by
  refine ⟨fun pins s σ H Q I h => ?_⟩
  refine Subscript_ (thn (he.run pins s σ H _ I h) fun v s1 ⟨x, H1, I1, r1, q1⟩ => ?_)
  obtain ⟨a, xs, ex, hx⟩ := q1
  subst ex
  cases r1
  have hst : PO X (some (.UnaryOp .USub (.Constant (.int 1) k p1) p2)) (tPart (tUn (rU fun i => .int (-i)) (tC (.int 1)))) := po_some (pe_un un_neg pe_int)
  refine wpAny_Slice (thn (po_none.run pins s1 σ H1 (fun o H2 => o = none ∧ H2 = H1) I1 ⟨rfl, rfl⟩) fun vl s2 ⟨l, H2, I2, pl, el, e2⟩ => ?_)
  subst el e2
  refine thn (po_none.run pins s2 σ H2 (fun o H3 => o = none ∧ H3 = H2) I2 ⟨rfl, rfl⟩) fun vu s3 ⟨u, H3, I3, pu, eu, e3⟩ => ?_
  subst eu e3
  refine thn (hst.run pins s3 σ H3 (fun o H4 => o = some (-1) ∧ H4 = H3) I3 ⟨1, rfl, -1, rfl, rfl, rfl⟩) fun vs s4 ⟨o, H4, I4, ps, eo, e4⟩ => ?_
  subst eo e4
  have I5 : Inv X pins σ H4 { s4 with heap := s4.heap.push { cls := .type "slice", data := .fields #[vl, vu, vs] } } := I4.kept (t' := s4.toks) fun b ob q => Heap.get?_push_of_some _ q
  show wpAny (model X.prog X.w) X.A (subscriptTail e (.Slice none none (some (.UnaryOp .USub (.Constant (.int 1) k p1) p2)) p3) (.ref a) (.ref s4.heap.objs.size)) (EP X pins σ Q) X.xe { s4 with heap := s4.heap.push { cls := .type "slice", data := .fields #[vl, vu, vs] } }
  rcases hx with ⟨hx, q⟩ | ⟨hx, q⟩
  · obtain ⟨its, r, ht, hz⟩ := I5.list hx
    have hlen := r.length
    refine tail_any (ops := [.ref a, .ref s4.heap.objs.size]) ht.isList.typeIs (PySem.slot_list_getitem.lookup) ?_ (by with_unfolding_all rfl)
    refine wpAny_getItem_list_slice ht.isList (Heap.IsSliceOf.new _ vl vu vs) pl pu ps (by decide) ?_ (by rw [List.size_toArray]; omega)
    rw [PySem.W.krv_pick]
    refine ⟨.ref _, _, I5.laid (t' := s4.toks) (o := .lst xs.reverse) (fun b ob q => Heap.get?_push_of_some _ q) (Nat.le_refl _) ?_, rfl, q _ (I5.hok.fresh (Nat.le_refl _))⟩
    exact ⟨by rw [List.length_reverse]; exact hz, _, 0, r.reverse, Heap.get?_push_size _ rfl⟩
  · obtain ⟨its, r, ht, hz⟩ := I5.tuple hx
    have hlen := r.length
    have el : vl = .none := by cases pl; rfl
    have eu : vu = .none := by cases pu; rfl
    subst el eu
    refine tail_any (ops := [.ref a, .ref s4.heap.objs.size]) ht.typeIs PyProof.Rows.slot_tuple_getitem.lookup ?_ (by with_unfolding_all rfl)
    refine getItem_tuple_back ht (Heap.IsSliceOf.new _ _ _ vs) ps ?_ (by rw [List.size_toArray]; omega)
    refine ⟨.ref _, _, I5.laid (t' := s4.toks) (o := .tup xs.reverse) (fun b ob q => Heap.get?_push_of_some _ q) (Nat.le_refl _) ?_, rfl, q _ (I5.hok.fresh (Nat.le_refl _))⟩
    exact ⟨by rw [List.length_reverse]; exact hz, its.reverse, r.reverse, IsTup.new _ _⟩
end Mt
namespace Mv
open PySem L2
def dRev : DOp1 := fun d k => match d with
  | .lst xs => k (.own (.lst xs.reverse))
  | .rol xs => k (.own (.lst xs.reverse))
  | .tup xs => k (.val (.tup xs.reverse))
  | .rot xs => k (.val (.tup xs.reverse))
  | _ => False
theorem qRevA {X : Cx} {cl : Nat → Addr} {W : WX} {pin : List Nat} {e : Expr} {m : ME} {k : Nat} {p1 p2 p3 pos : Pos} (he : PM X cl W pin e m) : PM X cl W pin (.Subscript e (.Slice none none (some (.UnaryOp .USub (.Constant (.int 1) k p1) p2)) p3) pos) (mUn dRev m) :=
  PE.imp (Mt.pe_revA he) fun σ H Q ⟨S, F, fp, E0, Q0, E, h2, x, kk⟩ => by
    refine LE.mk E h2 x fun r1 S1 v1 F1 H1 fp1 q1 st1 e1 rr1 x1 => ?_
    obtain ⟨G1, e1', st1', sg, ra1⟩ := RelR.ready e1 st1 rr1
    obtain ⟨d, p1, q3⟩ := ra1.pk e1' q1
    have po : Post0 X.K cl G1 H1 (fun r => Q0 r S1) Q := ⟨e1'.tb, fun r hr z F' H' sm rs => kk _ _ hr z F' H' fp1 (st1'.trans sm.step) (e1'.smallW sm) (rs.rel e1' st1')⟩
    cases d with
    | lst xs =>
      obtain ⟨a, vs, ev, g1, g2⟩ := p1.lst e1'.sub
      exact ⟨a, vs, ev, .inl ⟨SqL.of g1, fun p hp => po.lst e1'.sub q3 g2.reverse hp⟩⟩
    | rol xs =>
      obtain ⟨a, vs, ev, g1, g2⟩ := p1.rol e1'.sub
      exact ⟨a, vs, ev, .inl ⟨g1, fun p hp => po.lst e1'.sub q3 g2.reverse hp⟩⟩
    | tup xs =>
      obtain ⟨a, vs, ev, g1, g2, _⟩ := p1.tup e1'.sub
      exact ⟨a, vs, ev, .inr ⟨SqT.of g1, fun p hp => po.tup e1'.sub q3 g2.reverse hp⟩⟩
    | rot xs =>
      obtain ⟨a, vs, ev, g1, g2, _⟩ := p1.rot e1'.sub
      exact ⟨a, vs, ev, .inr ⟨g1, fun p hp => po.tup e1'.sub q3 g2.reverse hp⟩⟩
    | _ => exact q3.elim
end Mv

/-! Mv: enumerate over tuples. -/
namespace Mu
open PySem PySem.Spec PySem.Calls PyProof.Rows L2
open AutoSeq1 (wpAny_loadPart')
theorem meets_enumerate_newT (l : Addr) (items : Array Value) (n : Nat) (dct : Option Addr) (sl : Array (Option Value)) :
    Meets (Builtin.«enumerate.__new__» ⟨[.type "enumerate", .ref l], []⟩) (fun _ R s => s.heap.get? l = some { cls := .type "tuple", dict := dct, data := .seq items n, slots := sl } ∧
      R (.ok (.ret (.ref (s.heap.push { cls := .type "tuple_iterator", data := .fields #[.ref l, .int 0 0] }).objs.size)))
        { s with heap := (s.heap.push { cls := .type "tuple_iterator", data := .fields #[.ref l, .int 0 0] }).push { cls := .type "enumerate", data := .fields #[.none, .bool false, .ref s.heap.objs.size, rawInt 0, .none, .none] } }) :=
  .of_wp fun prog w A R s h => by
    obtain ⟨hp, g, d, tk, os⟩ := s; obtain ⟨hl, h⟩ := h
    have hsub := sub_enumerate
    have hL : Heap.IsTuple (Shared.heap ⟨hp, g, d, tk, os⟩) l items := ⟨_, hl, rfl, n, rfl⟩
    wp_walk using wpAny_loadPart' hl
    refine wpAny_stack_any fun st => wpAny_pure ?_
    split
    · rename_i c _ _ _ _ _
      cases (c == Value.type "enumerate")
      · wp_walk using wpAny_loadPart' hl, wpAny_pyIter_tuple hL
        exact ⟨_, rfl, h⟩
      · wp_walk using wpAny_loadPart' hl, wpAny_pyIter_tuple hL
        exact ⟨_, rfl, h⟩
    · wp_walk using wpAny_loadPart' hl, wpAny_pyIter_tuple hL
      exact ⟨_, rfl, h⟩
section
variable {prog : Program} {w : World} {A : Around} {E : Value → Shared → Prop} {s : Shared}
theorem call_enumerate_tuple {l : Addr} {items : Array Value} {Q : Value → Shared → Prop} (hL : s.heap.IsTuple l items)
    (h : ∀ h', IsEnum h' (s.heap.objs.size + 1) s.heap.objs.size 0 .none → h'.IsTupleIter s.heap.objs.size l 0 → h'.objs.size = s.heap.objs.size + 2 →
      (∀ b o, s.heap.get? b = some o → h'.get? b = some o) → Q (.ref (s.heap.objs.size + 1)) { s with heap := h' }) :
    wpAny (model prog w) A (call (.type "enumerate") [.ref l]) Q E s := by
  obtain ⟨⟨c, dct, dt, sl⟩, hl, hc, n, hd⟩ := hL
  replace hc : c = .type "tuple" := hc
  replace hd : dt = .seq items n := hd
  subst hc hd
  refine callType_new F.called_enumerate (by decide) (F.typeCall_enumerate_1 _) (F.newCall_enumerate_1 _) (fun obj => F.args_object_init_2 obj _) F.entry_enumerate_new
    (meets_enumerate_newT l items n dct sl) ⟨hl, ?_⟩
  have hz : (s.heap.push { cls := .type "tuple_iterator", data := .fields #[.ref l, .int 0 0] }).objs.size = s.heap.objs.size + 1 := Heap.size_push ..
  show _ ∧ _
  rw [hz]
  have he : IsEnum ((s.heap.push { cls := .type "tuple_iterator", data := .fields #[.ref l, .int 0 0] }).push
      { cls := .type "enumerate", data := .fields #[.none, .bool false, .ref s.heap.objs.size, rawInt 0, .none, .none] }) (s.heap.objs.size + 1) s.heap.objs.size 0 .none := by
    have := Heap.get?_push_size (s.heap.push { cls := .type "tuple_iterator", data := .fields #[.ref l, .int 0 0] })
      (o := { cls := .type "enumerate", data := .fields #[.none, .bool false, .ref s.heap.objs.size, rawInt 0, .none, .none] }) rfl
    rw [hz] at this; exact this
  refine ⟨⟨_, he, rfl⟩, h _ he ⟨_, Heap.get?_push_of_some _ (Heap.get?_push_size _ rfl), rfl, rfl⟩ (by rw [Heap.size_push, hz]) fun b o x => Heap.get?_push_of_some _ (Heap.get?_push_of_some _ x)⟩
end
theorem pyNext_enum_endT {prog : Program} {w : World} {A : Around} {E : Value → Shared → Prop} {s : Shared} {e it a : Addr} {items : Array Value} {i : Int} {j : Nat} {old : Value} {Q : Option Value → Shared → Prop}
    (hh : A.handled = none) (he : IsEnum s.heap e it i old) (hit : s.heap.IsTupleIter it a j) (ht : s.heap.IsTuple a items) (hj : items[j]? = none)
    (hQ : ∀ h', Heap.ExtBut it s.heap h' → Q none { s with heap := h' }) : wpAny (model prog w) A (pyNext (.ref e)) Q E s := by
  have hT : s.TypeIs (.ref e) "enumerate" := ⟨_, he, rfl⟩
  unfold pyNext
  refine wpAny_bind (wpAny_attempt (wpAny_callSpecial?_slot (name := Str.ofString "__next__") hT F.slot_enumerate_next
    (wpAny_call_entry F.slot_enumerate_next hT F.entry_enumerate_next ?_ (F.args_enumerate_next_1 _))))
  show wpAny _ _ (field (.ref e) 2 >>= _) _ _ _
  refine wpAny_bind (wpAny_field he rfl (x := .ref it) rfl ?_)
  refine wpAny_bind (wpAny_nextOf_tuple_end hh hit ht hj fun h' x he' hx' => ?_)
  obtain ⟨o, ho, hc⟩ := hx'
  refine wpAny_bind (wpAny_isInstance (T := "StopIteration") (b := true) ⟨o, ho, hc⟩ isSubtype_stop ?_)
  exact wpAny_pure (hQ _ he')
/-- the tuple at a, each item in a new pair -/
def IteT (K : PySem.W.Frag) (a : Addr) : It :=
  ⟨fun i H => ∃ (xs : List V) (x : V), SqT K H a xs ∧ xs[i]? = some x, fun i H v H' => ∃ T x, v = .ref T ∧ H T = none ∧ H' = upd H T (.tup [.int (i : Nat), x]) ∧ ∀ xs, SqT K H a xs → xs[i]? = some x, fun i H => ∃ xs : List V, SqT K H a xs ∧ xs.length ≤ i⟩
theorem turn_enumT {P : Program} {w : World} {K : PySem.W.Frag} {elts : List Expr} {kk : Nat} {tpos : Pos} (a e it : Addr) (hae : a ≠ e) (hai : a ≠ it) :
    Turn P w K (.Tuple elts kk tpos) (IteT K a) [e, it] e (fun i h => (∃ old, IsEnum h e it ((i : Nat) : Int) old) ∧ h.IsTupleIter it a i ∧ e ≠ it) where
  mem := by simp
  obj := fun i h st b hb => by
    obtain ⟨⟨old, he⟩, ⟨o, ho, hc, hd⟩, _⟩ := st
    have e' : b = e ∨ b = it := by simpa using hb
    rcases e' with z | z
    · rw [z]; exact ⟨_, he, fun v q => nomatch q⟩
    · rw [z]; exact ⟨o, ho, fun v q => by rw [hd] at q; cases q⟩
  keep := fun i h h' st k => by
    obtain ⟨⟨old, he⟩, ⟨o, ho, r⟩, hne⟩ := st
    exact ⟨⟨old, k e (by simp) _ he⟩, ⟨o, k it (by simp) _ ho, r⟩, hne⟩
  item := by
    intro X hP hw hK hc i pins s σ H E I hf st hg
    subst hP hw hK
    obtain ⟨⟨old, he⟩, hit, hne⟩ := st
    obtain ⟨xs, x, hq, hx⟩ := hg
    obtain ⟨its, rv, p, hz⟩ := I.tuple hq
    obtain ⟨u, hu, ru⟩ := rv.get hx
    have hel : e < s.heap.objs.size := Heap.lt_size he
    have hil : it < s.heap.objs.size := by obtain ⟨_, q, _⟩ := hit; exact Heap.lt_size q
    have hlt : i < its.toArray.size := by rw [List.size_toArray]; exact (List.getElem?_eq_some_iff.mp hu).1
    have D := Draws.tuple (prog := X.prog) (w := X.w) (A := X.A.in1) (show X.A.in1.handled = none from I.ok.hd hc) it a hai its.toArray
    refine wpAny_pyNext_enum_itemD D he ⟨hit, p⟩ hlt hne (by simp [hne, Ne.symm hae]) fun x' h' tk hPx ho hit' hT hsz hk => ?_
    have ex : x' = u := by
      have : its.toArray[i]? = some u := by simpa using hu
      rw [this] at hPx
      exact (Option.some.inj hPx).symm
    subst ex
    refine ⟨_, rfl, wpAny_letOwnedTupleGo_enum (s := { s with heap := h', toks := tk + 1 }) ho fun h'' he' sb => ?_⟩
    have hT2 : h''.get? s.heap.objs.size = some { cls := .type "tuple", data := .seq #[.int i tk, x'] } := (sb.2 _ (Nat.ne_of_gt hel)).trans hT
    have new : ObjOk X.prog X.w (upd H s.heap.objs.size (.tup [.int (i : Nat), x])) h'' s.heap.objs.size (.tup [.int (i : Nat), x]) :=
      ⟨by show 2 ≤ sizeLine; decide, [.int i tk, x'], .cons ⟨_, rfl⟩ (.cons ru .nil), ⟨_, hT2, rfl, _, rfl⟩⟩
    have I1 : Inv X pins σ (upd H s.heap.objs.size (.tup [.int (i : Nat), x])) { s with heap := h'', toks := tk + 1 } :=
      I.turnedNew (ch := [e, it]) (fun b ob hb q => (sb.2 b (fun z => hb (by simp [z]))).trans (hk b ob (fun z => hb (by simp [z])) (fun z => hb (by simp [z])) q)) hf (Nat.le_refl _) new
    refine ⟨.ref s.heap.objs.size, _, I1, rfl, ⟨_, x, rfl, I.hok.fresh (Nat.le_refl _), rfl, fun ys hy => by rw [I.tuple_inj hy hq]; exact hx⟩, ⟨⟨x', ?_⟩, ?_, hne⟩, fun b hb => ?_⟩
    · have e1 : ((i + 1 : Nat) : Int) = (i : Int) + 1 := by omega
      rw [e1]; exact he'
    · obtain ⟨⟨o, ho2, r⟩, _⟩ := hit'
      exact ⟨o, (sb.2 it (Ne.symm hne)).trans ho2, r⟩
    · have hb' : b < s.heap.objs.size := by
        have e' : b = e ∨ b = it := by simpa using hb
        rcases e' with z | z
        · rw [z]; exact hel
        · rw [z]; exact hil
      rw [upd_ne (Nat.ne_of_lt hb')]
      exact (hf b hb).1
  done := by
    intro X hP hw hK hc i pins s σ H E I hf st hg
    subst hP hw hK
    obtain ⟨⟨old, he⟩, hit, hne⟩ := st
    obtain ⟨xs, hq, hx⟩ := hg
    obtain ⟨its, rv, p, hz⟩ := I.tuple hq
    obtain ⟨f0, f1, f2, f3, f4, f5⟩ := hf it (by simp)
    have hl := rv.length
    exact pyNext_enum_endT (I.ok.hd hc) he hit p (by simp; omega) fun h' eb => ⟨rfl, I.turned (t' := s.toks) (fun b o hb q => eb b o hb q) f0 f1 f3 f4 f5⟩
  self := fun A i s Q E st h => let ⟨⟨_, he⟩, _⟩ := st; wpAny_pyIter_enum he h
def iEnumT (K : PySem.W.Frag) (ta : TA) : TI := fun σ H R => ta σ H fun vs H1 => ∃ a xs, vs = [.ref a] ∧ ((SqL K H1 a xs ∧ R (Ite K a) H1) ∨ (SqT K H1 a xs ∧ R (IteT K a) H1))
theorem pi_enumT {X : Cx} {e : Expr} {ta : TA} {p pos tpos : Pos} {elts : List Expr} {kk : Nat} (hg : Gl X "enumerate") (hm : X.mg "enumerate" = none) (ha : PA X [e] ta) (hs : starEach [e] X.env = [(false, eval e X.env)] := by rfl) :
    PI X (.Tuple elts kk tpos) (.Call (.Name "enumerate" p) [e] [] pos) (iEnumT X.K ta) := by
  refine ⟨fun pins s σ H R I h => ?_⟩
  refine Call_ (ld_blt I hg hm boot_enumerate (PyProof.Rows.callWith_type1 (thn (ha.run pos pins s σ H _ I h) fun us s1 ⟨vs, H1, I1, r1, q1⟩ => ?_) hs rfl))
  obtain ⟨a, xs, ex, hq⟩ := q1
  subst ex
  cases r1 with
  | cons r rr =>
    cases rr
    cases r
    have fp : ∀ b ∈ [s1.heap.objs.size + 1, s1.heap.objs.size], FpOk X pins H1 b := fun b hb => by
      have e' : b = s1.heap.objs.size + 1 ∨ b = s1.heap.objs.size := by simpa using hb
      have hle : s1.heap.objs.size ≤ b := by
        rcases e' with z | z
        · rw [z]; exact Nat.le_add_right _ _
        · rw [z]; exact Nat.le_refl _
      exact I1.fpOk hle (I1.hok.fresh hle)
    rcases hq with ⟨hq, q⟩ | ⟨hq, q⟩
    · obtain ⟨its, rv, p', hz⟩ := I1.list hq
      refine call_enumerate_list p'.isList fun h' he hit hsz hk => wpAny_pyIter_enum he ?_
      have I2 : Inv X pins σ H1 { s1 with heap := h' } := I1.kept (t' := s1.toks) hk
      exact ⟨s1.heap.objs.size + 1, [s1.heap.objs.size + 1, s1.heap.objs.size], _, _, H1, rfl, I2, turn_enum a (s1.heap.objs.size + 1) s1.heap.objs.size, ⟨⟨.none, he⟩, hit, Nat.succ_ne_self _⟩, fp, q⟩
    · obtain ⟨its, rv, p', hz⟩ := I1.tuple hq
      have hl : a < s1.heap.objs.size := by obtain ⟨o, ho, _⟩ := p'; exact Heap.lt_size ho
      refine call_enumerate_tuple p' fun h' he hit hsz hk => wpAny_pyIter_enum he ?_
      have I2 : Inv X pins σ H1 { s1 with heap := h' } := I1.kept (t' := s1.toks) hk
      exact ⟨s1.heap.objs.size + 1, [s1.heap.objs.size + 1, s1.heap.objs.size], _, _, H1, rfl, I2, turn_enumT a (s1.heap.objs.size + 1) s1.heap.objs.size (Nat.ne_of_lt (Nat.lt_succ_of_lt hl)) (Nat.ne_of_lt hl), ⟨⟨.none, he⟩, hit, Nat.succ_ne_self _⟩, fp, q⟩
end Mu
namespace Mv
open PySem L2
theorem itd_enumT {cl : Nat → Addr} {K : PySem.W.Frag} {F : Hp} {a : Addr} {vs : List V} {ds : List D} (h : SqT K F a vs) (r : RepL K cl F ds vs) : ItD K cl F (Mu.IteT K a) (enD ds) := fun i G H s1 s2 => by
  have sm := Same.trans s1 s2
  unfold enD
  rw [List.length_mapIdx, r.length]
  refine ⟨fun l => ⟨⟨vs, vs[i], Same.sqt sm h, by simp [l]⟩, fun x H' ⟨T, y, e1, e2, e3, e4⟩ => ?_⟩, fun l => ⟨vs, Same.sqt sm h, l⟩⟩
  subst e1 e3
  obtain ⟨d, h1, h2⟩ := r.get' (e4 vs (Same.sqt sm h))
  have gT : G T = none := by
    cases z : G T with
    | none => rfl
    | some w => rw [s2 _ _ z] at e2; cases e2
  have sg : Same G (upd G T (.tup [.int (i : Nat), y])) := fun b o e => by rw [upd_ne fun z => by rw [z, gT] at e; cases e]; exact e
  refine ⟨upd G T (.tup [.int (i : Nat), y]), .tup [.int (i : Nat), d], by rw [List.getElem?_mapIdx, h1]; rfl, ⟨sg, fun b o e => ?_, fun b o e z => ?_, fun b o e => ?_⟩, ?_⟩
  · rw [upd_ne fun z => by rw [z, e2] at e; cases e]; exact e
  · rw [upd_ne fun w => by rw [w, e2] at e; cases e]; exact z
  · by_cases c : b = T
    · subst c; rw [upd_same] at e ⊢; exact e
    · rw [upd_ne c] at e ⊢; exact s2 b o e
  · rw [Rep]
    exact ⟨T, _, rfl, upd_same, .cons (by rw [Rep]) (.cons (h2.mono (s1.trans sg)) .nil)⟩
def mEnumT (m : ME) : MI := fun E Q S => m E (fun r S1 => match fzR r with
  | .val (.lst xs) => Q (enD xs) S1
  | .val (.rol xs) => Q (enD xs) S1
  | .val (.tup xs) => Q (enD xs) S1
  | .val (.rot xs) => Q (enD xs) S1
  | _ => False) S
theorem iEnumT' {X : Cx} {cl : Nat → Addr} {W : WX} {pin : List Nat} {e : Expr} {m : ME} {p pos : Pos} {elts : List Expr} {kk : Nat} {tpos : Pos} (hg : Gl X "enumerate") (hm : X.mg "enumerate" = none) (he : PM X cl W pin e m) (hs : starEach [e] X.env = [(false, eval e X.env)] := by rfl) (hs2 : starEach [e] X.env = (false, eval e X.env) :: starEach [] X.env := by rfl) :
    PMI X cl W pin (.Tuple elts kk tpos) (.Call (.Name "enumerate" p) [e] [] pos) (mEnumT m) :=
  PI.imp (Mu.pi_enumT hg hm (pa_cons he pa_nil hs2) hs) fun σ H Rk ⟨S, F, fp, E0, Q0, E, h2, x, k⟩ => LE.mk E h2 x fun r S1 v F1 H1 fp1 q st1 e1 rr x1 => by
    obtain ⟨G1, e1', st1', sg, ra1⟩ := RelR.ready e1 st1 rr
    cases hr : fzR r with
    | val d =>
      simp only [hr] at q ra1
      have ra : Rep X.K cl G1 d v := ra1
      cases d with
      | lst xs =>
        rw [Rep] at ra; obtain ⟨a, vs, rfl, g1, g2⟩ := ra
        exact ⟨a, vs, rfl, .inl ⟨SqL.of (e1'.sub _ _ g1), k _ _ q _ G1 H1 fp1 st1' e1' (itd_enum (SqL.of g1) g2)⟩⟩
      | rol xs =>
        rw [Rep] at ra; obtain ⟨a, vs, rfl, g1, g2⟩ := ra
        exact ⟨a, vs, rfl, .inl ⟨e1'.sub.seq g1, k _ _ q _ G1 H1 fp1 st1' e1' (itd_enum g1 g2)⟩⟩
      | tup xs =>
        rw [Rep] at ra; obtain ⟨a, vs, rfl, g1, g2⟩ := ra
        exact ⟨a, vs, rfl, .inr ⟨SqT.of (e1'.sub _ _ g1), k _ _ q _ G1 H1 fp1 st1' e1' (itd_enumT (SqT.of g1) g2)⟩⟩
      | rot xs =>
        rw [Rep] at ra; obtain ⟨a, vs, rfl, g1, g2⟩ := ra
        exact ⟨a, vs, rfl, .inr ⟨Same.sqt e1'.sub g1, k _ _ q _ G1 H1 fp1 st1' e1' (itd_enumT g1 g2)⟩⟩
      | _ => exact q.elim
    | own o => simp only [hr] at q
    | slot i => simp only [hr] at q
end Mv

/-! Mv: a call that is handed a new thing of its own first. -/
namespace Mv
open PySem L2
section
variable {K : PySem.W.Frag} {cl : Nat → Addr} {F H F0 H0 : Hp} {σ : L2.St} {S S0 : Fm} {fp fp0 : Nat → List Addr}
/-- one place more -/
theorem EnvR.more {o : O} {p : Addr} {fq : List Addr} (E : EnvR K cl F H σ S fp) (c : CellR K cl F H o p fq) (hq : ∀ a ∈ fq, F a = none ∧ ¬ Ow S fp a) :
    EnvR K cl F H (σ ++ [some (.ref p)]) (S ++ [.ow o]) (fpSet fp S.length fq) := by
  have od : ∀ (i : Nat) (s : Sl), (S ++ [Sl.ow o])[i]? = some s → (i < S.length ∧ S[i]? = some s) ∨ (i = S.length ∧ s = .ow o) := fun i s h => by
    by_cases c : i < S.length
    · rw [List.getElem?_append_left c] at h; exact .inl ⟨c, h⟩
    · rw [List.getElem?_append_right (by omega)] at h
      have e : i - S.length = 0 := by
        by_cases z : i - S.length = 0
        · exact z
        · rw [List.getElem?_eq_none (by simp; omega)] at h; cases h
      rw [e] at h
      cases h
      exact .inr ⟨by omega, rfl⟩
  have sl : ∀ (i : Nat), i < S.length → (σ ++ [some (V.ref p)])[i]? = σ[i]? := fun i h => List.getElem?_append_left (by rw [← E.len]; exact h)
  refine ⟨E.sub, by simp [E.len], fun i d h => ?_, fun i u h => ?_, fun i u h a ha => ?_, fun i j u w ne h1 h2 a ha => ?_, E.tb⟩
  · rcases od i _ h with ⟨l, h⟩ | ⟨_, h⟩
    · rw [sl i l]; exact E.fz i d h
    · cases h
  · rcases od i _ h with ⟨l, h⟩ | ⟨l, h⟩
    · rw [sl i l]
      obtain ⟨q, h1, h2⟩ := E.ow i u h
      exact ⟨q, h1, by unfold fpSet; rw [if_neg (by omega)]; exact h2⟩
    · cases h
      subst l
      exact ⟨p, by rw [E.len]; simp, by unfold fpSet; rw [if_pos rfl]; exact c⟩
  · unfold fpSet at ha
    rcases od i _ h with ⟨l, h⟩ | ⟨l, h⟩
    · rw [if_neg (by omega)] at ha; exact E.nf i u h a ha
    · rw [if_pos l] at ha; exact (hq a ha).1
  · unfold fpSet at ha ⊢
    rcases od i _ h1 with ⟨l, h1⟩ | ⟨l, h1⟩ <;> rcases od j _ h2 with ⟨m, h2⟩ | ⟨m, h2⟩
    · rw [if_neg (by omega)] at ha
      rw [if_neg (by omega)]
      exact E.dj i j u w ne h1 h2 a ha
    · rw [if_neg (by omega)] at ha
      rw [if_pos m]
      exact fun z => (hq a z).2 ⟨i, u, h1, ha⟩
    · rw [if_pos l] at ha
      rw [if_neg (by omega)]
      exact fun z => (hq a ha).2 ⟨j, w, h2, z⟩
    · omega
theorem Ow.more {o : O} {fq : List Addr} {a : Addr} (h : Ow (S ++ [.ow o]) (fpSet fp S.length fq) a) : Ow S fp a ∨ a ∈ fq := by
  obtain ⟨i, u, h1, ha⟩ := h
  unfold fpSet at ha
  by_cases c : i < S.length
  · rw [List.getElem?_append_left c] at h1
    rw [if_neg (by omega)] at ha
    exact .inl ⟨i, u, h1, ha⟩
  · rw [List.getElem?_append_right (by omega)] at h1
    have e : i = S.length := by
      by_cases z : i - S.length = 0
      · omega
      · rw [List.getElem?_eq_none (by simp; omega)] at h1; cases h1
    rw [if_pos e] at ha
    exact .inr ha
theorem Stp.more {o : O} {fq : List Addr} (st : Stp F0 H0 S0 fp0 F H S fp) (hq : ∀ a ∈ fq, H0 a = none ∨ Ow S0 fp0 a) : Stp F0 H0 S0 fp0 F H (S ++ [.ow o]) (fpSet fp S.length fq) :=
  ⟨st.ff, st.hh, st.nn, fun a h => by
    rcases h.more with w | w
    · exact st.oo a w
    · exact (hq a w).symm, st.th⟩
/-- the last place forgotten -/
theorem EnvR.less {x : Option V} {s : Sl} (E : EnvR K cl F H (σ ++ [x]) (S ++ [s]) fp) : EnvR K cl F H σ S fp := by
  have hl : S.length = σ.length := by have := E.len; simpa using this
  have up : ∀ (i : Nat) (u : Sl), S[i]? = some u → (S ++ [s])[i]? = some u := fun i u h => by rw [List.getElem?_append_left (List.getElem?_eq_some_iff.mp h).1]; exact h
  have dn : ∀ (i : Nat) (u : Sl), S[i]? = some u → (σ ++ [x])[i]? = σ[i]? := fun i u h => List.getElem?_append_left (by rw [← hl]; exact (List.getElem?_eq_some_iff.mp h).1)
  refine ⟨E.sub, hl, fun i d h => ?_, fun i o h => ?_, fun i o h => E.nf i o (up i _ h), fun i j o u ne h1 h2 => E.dj i j o u ne (up i _ h1) (up j _ h2), E.tb⟩
  · rw [← dn i _ h]; exact E.fz i d (up i _ h)
  · rw [← dn i _ h]; exact E.ow i o (up i _ h)
theorem Ow.less {s : Sl} {a : Addr} (h : Ow S fp a) : Ow (S ++ [s]) fp a := by
  obtain ⟨i, o, h1, h2⟩ := h
  exact ⟨i, o, by rw [List.getElem?_append_left (List.getElem?_eq_some_iff.mp h1).1]; exact h1, h2⟩
theorem Stp.less {s : Sl} (st : Stp F0 H0 S0 fp0 F H (S ++ [s]) fp) : Stp F0 H0 S0 fp0 F H S fp := ⟨st.ff, st.hh, st.nn, fun a h => st.oo a h.less, st.th⟩
theorem RelR.less {x : Option V} {s : Sl} {r : R} {v : V} (h : RelR K cl H0 S0 fp0 F H (σ ++ [x]) (S ++ [s]) fp r v) (n : ∀ i, r ≠ .slot i) : RelR K cl H0 S0 fp0 F H σ S fp r v := by
  cases r with
  | val d => exact h
  | own o =>
    obtain ⟨p, fq, e, c, hq⟩ := h
    exact ⟨p, fq, e, c, fun a ha => ⟨(hq a ha).1, fun w => (hq a ha).2.1 w.less, (hq a ha).2.2⟩⟩
  | slot i => exact absurd rfl (n i)
theorem asl_more {o : O} : ∀ {rs : List R} {k : List Sl → Prop}, asl S rs k → asl (S ++ [.ow o]) rs k ∧ ∀ i ∈ slotsOf rs, i < S.length
  | [], _, h => ⟨h, fun i hi => by simp [slotsOf] at hi⟩
  | .val d :: rs, k, h => by
    obtain ⟨h1, h2⟩ := asl_more (o := o) (rs := rs) h
    exact ⟨h1, h2⟩
  | .slot i :: rs, k, h => by
    obtain ⟨u, h0, h⟩ := h
    obtain ⟨h1, h2⟩ := asl_more (o := o) (rs := rs) h
    have il : i < S.length := (List.getElem?_eq_some_iff.mp h0).1
    refine ⟨⟨u, by rw [List.getElem?_append_left il]; exact h0, h1⟩, fun j hj => ?_⟩
    rcases List.mem_cons.mp hj with e | e
    · omega
    · exact h2 j e
  | .own _ :: _, _, h => h.elim
theorem backS_more {p : Sl} : ∀ {rs : List R} {ps S : Fm}, (∀ i ∈ slotsOf rs, i < S.length) → backS rs ps (S ++ [p]) = backS rs ps S ++ [p]
  | [], ps, S, _ => by cases ps <;> rfl
  | .slot i :: rs, [], S, _ => rfl
  | .slot i :: rs, q :: ps, S, h => by
    have il : i < S.length := h i (by simp [slotsOf])
    rw [backS, backS, List.set_append_left _ _ il]
    exact backS_more fun j hj => by rw [List.length_set]; exact h j (by simp [slotsOf, hj])
  | .val _ :: rs, [], S, _ => rfl
  | .val _ :: rs, q :: ps, S, h => by
    rw [backS, backS]; exact backS_more h
  | .own _ :: rs, [], S, _ => rfl
  | .own _ :: rs, q :: ps, S, h => by
    rw [backS, backS]; exact backS_more h
end
/-- f(a, ..), a a new thing -/
def cOQ (fs : FS) (o : O) (E : EX) (Q : R → Fm → Prop) (rs : List R) (S : Fm) : Prop := (slotsOf rs).Nodup ∧ asl S rs fun as => fs (.ow o :: as) (fun xd ps => E xd (backS rs ps.tail S)) (fun r ps => Q r (backS rs ps.tail S))
def cO1 (fs : FS) (ma : MA) (E : EX) (Q : R → Fm → Prop) (r : R) (S : Fm) : Prop := match r with
  | .own o => ma E (cOQ fs o E Q) S
  | _ => False
def mCallO (fs : FS) (a : ME) (ma : MA) : ME := fun E Q S => a E (cO1 fs ma E Q) S
section
variable {X : Cx} {cl : Nat → Addr} {W : WX} {pin : List Nat} {fs : FS} {m : ME} {ma : MA}
theorem le_callO {σ : L2.St} {H : Hp} {Q : VK} (h : LE X.K cl W pin (mCallO fs m ma) σ H Q) : tCons (LE X.K cl W pin m) (LA X.K cl W pin ma) σ H fun vs H1 => spF X.K cl fs vs H1 Q (WE W σ) := by
  obtain ⟨S, F, fp, E0, Q0, E, h2, x, k⟩ := h
  refine LE.mk E h2 x fun r S1 v F1 H1 fp1 q1 st1 e1 rr1 x1 => ?_
  match r, q1, rr1 with
  | .own o, q1, ⟨p, fq, ev, c, hq⟩ =>
    subst ev
    refine LA.mk e1 q1 x1 fun rs S2 vs F2 H2 fp2 q2 st2 e2 rr2 x2 => ?_
    obtain ⟨nd, q2⟩ := q2
    have hq2 : ∀ a ∈ fq, F2 a = none ∧ ¬ Ow S2 fp2 a ∧ H2 a = H1 a := fun a ha => by
      obtain ⟨u, hu, hx⟩ := c.there2 a ha
      refine ⟨st2.nn a u hu hx (hq a ha).1 (hq a ha).2.1, fun w => ?_, by rw [hu]; exact st2.hh a u hu (nt_of hx) (hq a ha).2.1⟩
      rcases st2.oo a w with z | z
      · exact (hq a ha).2.1 z
      · rw [hu] at z; cases z
    have c2 : CellR X.K cl F2 H2 o p fq := c.mono st2.ff fun a ha => (hq2 a ha).2.2
    have e3 := e2.more c2 fun a ha => ⟨(hq2 a ha).1, (hq2 a ha).2.1⟩
    obtain ⟨q3, hlt⟩ := asl_more (o := o) q2
    have st12 := st1.trans st2
    have st3 : Stp F H S fp F2 H2 (S2 ++ [.ow o]) (fpSet fp2 S2.length fq) := st12.more fun a ha => (hq a ha).2.2
    have rr3 : RelAs X.K cl F2 (σ ++ [some (.ref p)]) (.slot S2.length :: rs) (.ref p :: vs) := by
      refine ⟨.ref p, vs, rfl, ?_, ?_⟩
      · show (σ ++ [some (V.ref p)])[S2.length]? = _
        rw [e2.len]; simp
      · have key : ∀ {rs : List R} {vs : List V}, (∀ i ∈ slotsOf rs, i < S2.length) → RelAs X.K cl F2 σ rs vs → RelAs X.K cl F2 (σ ++ [some (.ref p)]) rs vs := by
          intro rs
          induction rs with
          | nil => intro vs _ h; exact h
          | cons r rs ih =>
            intro vs hl ⟨v, us, e, h, t⟩
            refine ⟨v, us, e, ?_, ih (fun i hi => ?_) t⟩
            · cases r with
              | val d => exact h
              | own o => exact h
              | slot i =>
                show (σ ++ [some (V.ref p)])[i]? = _
                rw [List.getElem?_append_left (by rw [← e2.len]; exact hl i (by simp [slotsOf]))]
                exact h
            · cases r with
              | val d => exact hl i hi
              | own o => exact hl i hi
              | slot j => exact hl i (by simp [slotsOf, hi])
        exact key hlt rr2
    have nd3 : (slotsOf (.slot S2.length :: rs)).Nodup := by
      simp only [slotsOf, List.nodup_cons]
      exact ⟨fun z => absurd (hlt _ z) (by omega), nd⟩
    have q4 : asl (S2 ++ [.ow o]) (.slot S2.length :: rs) fun as => fs as (fun xd ps => E0 xd (backS rs ps.tail S2)) (fun r ps => Q0 r (backS rs ps.tail S2)) := ⟨o, by simp, q3⟩
    obtain ⟨as, h1, h2', h3⟩ := asl_get q4
    have A : Args (S2 ++ [.ow o]) (.slot S2.length :: rs) as := ⟨nd3, h2', h3⟩
    have bk : ∀ (ps : Fm), ps.length = rs.length + 1 → ∃ s, backS (.slot S2.length :: rs) ps (S2 ++ [.ow o]) = backS rs ps.tail S2 ++ [s] := fun ps hps => by
      cases ps with
      | nil => simp at hps
      | cons p ps =>
        refine ⟨p, ?_⟩
        rw [backS]
        have : (S2 ++ [Sl.ow o]).set S2.length p = S2 ++ [p] := by simp
        rw [this]
        exact backS_more hlt
    have lenP : ∀ {ps : Fm} {F' H' : Hp} {fp' : Nat → List Addr}, EnvR X.K cl F' H' ((V.ref p :: vs).map some) ps fp' → ps.length = rs.length + 1 := fun {ps F' H' fp'} e' => by
      have := e'.len
      have l2 := rr2.length
      simp at this
      omega
    refine ⟨as, F2, _, _, _, A.env e3 rr3, h1, fun r ps q v F' H' fp' st e' rel n0 => ?_, fun xd ps q c' d F' H' fp' st e' xr => ?_⟩
    · obtain ⟨b1, b2, b3⟩ := A.back e3 rr3 st e'
      obtain ⟨s, es⟩ := bk ps (lenP e')
      have b4 := b3 (as0 := as) rel n0
      rw [es] at b1 b2 b4
      exact k r _ q v F' H' _ (st3.trans b2).less b1.less ((b4.from st3).less n0)
    · obtain ⟨b1, b2, b3⟩ := A.back e3 rr3 st e'
      obtain ⟨s, es⟩ := bk ps (lenP e')
      rw [es] at b1 b2
      exact x xd _ q c' d σ F' H' _ (fun _ _ => rfl) (st3.trans b2).less b1.less xr
variable {k : Nat} {x : Str} {st : Stmt} {ps : List Str} {p pos : Pos} {e : Expr} {es : List Expr} {j : Nat}
theorem qCallO (F : Fnc X.prog X.w X.K X.mg X.base cl k x st ps fs) (g : Good X W j) (hk : k ≤ j) (hg : Gl X x) (he : PM X cl W pin e m) (ha : PMA X cl W pin es ma)
    (hdb : (x == ("__debug__" : Str)) = false := by decide) (hs : starEach (e :: es) X.env = (false, eval e X.env) :: starEach es X.env := by rfl) (hpl : (backTo pos (starEach es X.env)).any (·.1) = false := by rfl) :
    PM X cl W pin (.Call (.Name x p) (e :: es) [] pos) (mCallO fs m ma) := by
  obtain ⟨f, fd, F1, hm, FD, hb⟩ := F.ex
  exact PE.imp (pe_callS F1 (g.room.mono hk) hg hm FD.kp hb (fun σ => passAt g.takes σ) (pa_cons he ha hs) hdb hs hpl) fun _ _ _ h => le_callO h
end
end Mv

/-! Mv: one's own things lent for the time of an expression. -/
namespace Mv
open PySem L2
def frzS : Sl → Sl
  | .ow o => .fz (frzO o)
  | s => s
mutual
/-- texts, numbers and tuples of such -/
def pur : D → Bool
  | .non => true
  | .bl _ => true
  | .int _ => true
  | .str _ => true
  | .tup xs => purL xs
  | _ => false
def purL : List D → Bool
  | [] => true
  | x :: xs => pur x && purL xs
end
/-- m sees all things stand still; what it gives is of no part of them -/
def qLn (S : Fm) (Q : R → Fm → Prop) (r : R) (S1 : Fm) : Prop := match r with
  | .val d => pur d = true ∧ Q (.val d) S
  | _ => False
def eLn : EX := fun _ _ => False
def mLend (m : ME) : ME := fun E Q S => m eLn (qLn S Q) (S.map frzS)
section
variable {K : PySem.W.Frag} {cl : Nat → Addr} {F H F1 H1 : Hp} {σ : L2.St} {S : Fm} {fp : Nat → List Addr}
open Classical in
noncomputable def ownF (F H : Hp) (S : Fm) (fp : Nat → List Addr) : Hp := fun a => if Ow S fp a then H a else F a
open Classical in
noncomputable def notF (F1 : Hp) (S : Fm) (fp : Nat → List Addr) : Hp := fun a => if Ow S fp a then none else F1 a
theorem ownF_same (E : EnvR K cl F H σ S fp) : Same F (ownF F H S fp) := fun a o e => by
  unfold ownF
  split
  · rename_i w; rw [(E.owned w).1] at e; cases e
  · exact e
theorem ownF_sub (E : EnvR K cl F H σ S fp) : Same (ownF F H S fp) H := fun a o e => by
  unfold ownF at e
  split at e
  · exact e
  · exact E.sub _ _ e
theorem no_ow {a : Addr} : ¬ Ow (S.map frzS) fp a := fun ⟨i, o, h, _⟩ => by
  rw [List.getElem?_map] at h
  cases e : S[i]? with
  | none => rw [e] at h; cases h
  | some s => rw [e] at h; cases s <;> cases h
theorem EnvR.lend (E : EnvR K cl F H σ S fp) : EnvR K cl (ownF F H S fp) H σ (S.map frzS) fp := by
  have no : ∀ (i : Nat) (o : O), (S.map frzS)[i]? ≠ some (Sl.ow o) := fun i o h => by
    rw [List.getElem?_map] at h
    cases e : S[i]? with
    | none => rw [e] at h; cases h
    | some s => rw [e] at h; cases s <;> cases h
  refine ⟨ownF_sub E, by rw [List.length_map]; exact E.len, fun i d h => ?_, fun i o h => absurd h (no i o), fun i o h => absurd h (no i o), fun i j o u _ h => absurd h (no i o), E.tb.stay (fun a u h x z => by
    unfold ownF
    rw [if_neg fun w => ?_]
    · exact z
    · obtain ⟨u', h1, h2⟩ := E.owned2 w
      rw [h] at h1; cases h1
      exact h2 x) fun _ _ e _ => e⟩
  rw [List.getElem?_map] at h
  cases e : S[i]? with
  | none => rw [e] at h; cases h
  | some s =>
    rw [e] at h
    cases s with
    | un => cases h
    | fz d' =>
      cases h
      obtain ⟨v, h1, h2⟩ := E.fz i d e
      exact ⟨v, h1, h2.mono (ownF_same E)⟩
    | ow o =>
      cases h
      obtain ⟨p, h1, c⟩ := E.ow i o e
      refine ⟨.ref p, h1, (c.frz (E.nf i o e)).mono fun a u q => ?_⟩
      unfold addF at q
      unfold ownF
      by_cases m : a ∈ fp i
      · rw [if_pos m] at q
        rw [if_pos ⟨i, o, e, m⟩]
        exact q
      · rw [if_neg m] at q
        exact ownF_same E a u q
theorem own_not_tup (E : EnvR K cl F H σ S fp) {a : Addr} {vs : List V} (w : Ow S fp a) (h : H a = some (.tup vs)) : False := by
  obtain ⟨i, o, e, m⟩ := w
  obtain ⟨p, _, c⟩ := E.ow i o e
  cases o with
  | lst xs => obtain ⟨z, _, h1, _⟩ := c; rw [z] at m; have e : a = p := by simpa using m
              subst e; rw [h1] at h; cases h
  | dK xs => obtain ⟨z, _, h1, _⟩ := c; rw [z] at m; have e : a = p := by simpa using m
             subst e; rw [h1] at h; cases h
  | dT xs => obtain ⟨z, _, h1, _⟩ := c; rw [z] at m; have e : a = p := by simpa using m
             subst e; rw [h1] at h; cases h
  | obj cc xs => obtain ⟨z, _, _, h1, _⟩ := c; rw [z] at m; have e : a = p := by simpa using m
                 subst e; rw [h1] at h; cases h
  | two d xs => obtain ⟨q, v, vs, z, _, _, h1, _⟩ := c; rw [z] at m; have e : a = q := by simpa using m
                subst e; rw [h1] at h; cases h
  | box kd es =>
    obtain ⟨u, hu, n⟩ := CelE.there _ _ _ c.2 a m
    rw [hu] at h
    exact n vs (Option.some.inj h)
mutual
theorem pur_rep (E : EnvR K cl F H σ S fp) (hh : SameN H H1) (s1 : Same F1 H1) : ∀ (d : D) (v : V), pur d = true → Rep K cl F1 d v → Rep K cl (notF F1 S fp) d v
  | .non, v, _, h => by rw [Rep] at h ⊢; exact h
  | .bl _, v, _, h => by rw [Rep] at h ⊢; exact h
  | .int _, v, _, h => by rw [Rep] at h ⊢; exact h
  | .str _, v, _, h => by rw [Rep] at h ⊢; exact h
  | .tup xs, v, p, h => by
    rw [Rep] at h ⊢
    obtain ⟨a, vs, e, h1, h2⟩ := h
    rw [pur] at p
    refine ⟨a, vs, e, ?_, purL_rep E hh s1 xs vs p h2⟩
    unfold notF
    rw [if_neg fun w => ?_]
    · exact h1
    · obtain ⟨u, hu, hx⟩ := E.owned2 w
      have := hh a u hu (nt_of hx)
      rw [s1 _ _ h1] at this
      cases this
      exact own_not_tup E w hu
  | .lst _, _, p, _ => by simp [pur] at p
  | .rol _, _, p, _ => by simp [pur] at p
  | .rot _, _, p, _ => by simp [pur] at p
  | .dK _, _, p, _ => by simp [pur] at p
  | .dT _, _, p, _ => by simp [pur] at p
  | .obj _ _, _, p, _ => by simp [pur] at p
  | .ty _, _, p, _ => by simp [pur] at p
  | .cls _, _, p, _ => by simp [pur] at p
  | .exo _ _ _, _, p, _ => by simp [pur] at p
  | .err _ _, _, p, _ => by simp [pur] at p
  | .fn _ _ _ _ _ _, _, p, _ => by simp [pur] at p
theorem purL_rep (E : EnvR K cl F H σ S fp) (hh : SameN H H1) (s1 : Same F1 H1) : ∀ (ds : List D) (vs : List V), purL ds = true → RepL K cl F1 ds vs → RepL K cl (notF F1 S fp) ds vs
  | [], vs, _, h => by rw [RepL] at h ⊢; exact h
  | d :: ds, vs, p, h => by
    rw [RepL] at h ⊢
    obtain ⟨v, r, e, h1, h2⟩ := h
    rw [purL, Bool.and_eq_true] at p
    exact ⟨v, r, e, pur_rep E hh s1 d v p.1 h1, purL_rep E hh s1 ds r p.2 h2⟩
end
end
section
variable {X : Cx} {cl : Nat → Addr} {W : WX} {pin : List Nat} {e : Expr} {m : ME}
theorem le_lend {σ : L2.St} {H : Hp} {Q : VK} (h : LE X.K cl W pin (mLend m) σ H Q) : LE X.K cl W pin m σ H Q := by
  obtain ⟨S, F, fp, E0, Q0, E, h2, x, k⟩ := h
  refine ⟨S.map frzS, ownF F H S fp, fp, eLn, _, E.lend, h2, fun xd S' h => h.elim, fun r S1 q v F1 H1 fp1 st e1 rr => ?_⟩
  match r, q, rr with
  | .val d, ⟨p, q⟩, rr =>
    have hh : SameN H H1 := fun a o h nt => st.hh a o h nt no_ow
    have s1 := e1.sub
    have ff : Same F (notF F1 S fp) := fun a o h => by
      unfold notF
      rw [if_neg fun w => by rw [(E.owned w).1] at h; cases h]
      exact st.ff _ _ (ownF_same E a o h)
    have s2 : Same (notF F1 S fp) H1 := fun a o h => by
      unfold notF at h
      split at h
      · cases h
      · exact s1 _ _ h
    refine k _ _ q v (notF F1 S fp) H1 fp ⟨ff, fun a o h nt _ => hh a o h nt, fun a o h nx z n => ?_, fun a h => .inl h, st.th⟩ ⟨s2, E.len, fun i d h => ?_, fun i o h => ?_, fun i o h a ha => ?_, E.dj, e1.tb.stay (fun a o _ _ z => by unfold notF; split; rfl; exact z) fun _ _ e _ => e⟩ (pur_rep E hh s1 d v p rr)
    · unfold notF
      rw [if_neg n]
      refine st.nn a o h nx ?_ no_ow
      unfold ownF
      rw [if_neg n]
      exact z
    · obtain ⟨v, h1, h2⟩ := E.fz i d h
      exact ⟨v, h1, h2.mono ff⟩
    · obtain ⟨p, h1, c⟩ := E.ow i o h
      refine ⟨p, h1, c.mono ff fun a ha => ?_⟩
      obtain ⟨u, hu, hx⟩ := c.there2 a ha
      rw [hu]; exact hh a u hu (nt_of hx)
    · unfold notF
      rw [if_pos ⟨i, o, h, ha⟩]
theorem qLend (h : PM X cl W pin e m) : PM X cl W pin e (mLend m) := PE.imp h fun _ _ _ h => le_lend h
end
end Mv

/-! Mv: calls within an except suite, of defs that walk nothing and raise nothing there. -/
namespace Mq
open PySem PySem.Spec PyProof.Rows L2
abbrev St := L2.St
/-- room, whatever is handled -/
structure RoomU (k : Nat) (A : Around) : Prop where
  dp : A.depth + 3 * k + 5 < recursionLimit
  un : A.units + 16 * k + 200 < cLine
theorem RoomU.mono {j k : Nat} {A : Around} (r : RoomU k A) (h : j ≤ k) : RoomU j A := ⟨by have := r.dp; omega, by have := r.un; omega⟩
theorem RoomU.deeper {k : Nat} {A : Around} (r : RoomU (k + 1) A) (env : Env) : RoomU k (A.deeper env) :=
  ⟨by have := r.dp; show A.depth + 1 + 3 * k + 5 < _; omega, by have := r.un; show A.units + 3 + 16 * k + 200 < _; omega⟩
theorem RoomU.depth {k : Nat} {A : Around} (r : RoomU k A) : A.depth < recursionLimit := by have := r.dp; omega
theorem RoomU.units {k : Nat} {A : Around} (r : RoomU k A) : A.units + 64 < cLine := by have := r.un; omega
structure FnU (P : Program) (w : World) (K : PySem.W.Frag) (mg : Str → Option Value) (base : Heap) (CX : CXT) (k : Nat) (f : Addr) (fd : FuncData) (ps : List Str) (sp : Sp) : Prop where
  len : ∀ vs H Q E, sp vs H Q E → vs.length = ps.length
  run : ∀ (A : Around) (outer : List Env) (s : Shared) (H : Hp) (args : Args) (us : List Value) (vs : List V) (Q : VK) (E : XK), RoomU k A → Env0 P w K mg base A outer s H → BindsTo s fd args (ps.zip us) → Vals vs us → sp vs H Q E →
    codeAny (model P w) A (.call (.ref f) args) (CR CX outer P w H s Q E) s
abbrev cxU (CX : CXT) (P : Program) (w : World) (K : PySem.W.Frag) (mg : Str → Option Value) (base : Heap) (N : List Str) (qual : Str) (scope : Scope) (f : Addr) (cd : Value) (A : Around) (outer : List Env) (s : Shared) (H : Hp) (E : XK) : Cx :=
  { cxOf CX P w K mg base N qual scope f cd A outer s H E with calm := false }
theorem inv_startU {CX : CXT} {P : Program} {w : World} {K : PySem.W.Frag} {mg : Str → Option Value} {base : Heap} {N ps : List Str} {qual : Str} {scope : Scope} {f : Addr} {cd : Value} {A : Around} {outer : List Env} {s s1 : Shared} {H : Hp} {E : XK} {us : List Value} {vs : List V}
    (S : FnScope N ps scope) (e0 : Env0 P w K mg base A outer s H) (hl : vs.length = ps.length) (r : Vals vs us)
    (x : InCallC s s.heap.objs.size (bindL (envOfC qual scope s.heap.objs.size f cd).kindOf (ps.zip us) fun _ => none) (cellsFrom (s.heap.objs.size + 1) scope.names []) (bindC (envOfC qual scope s.heap.objs.size f cd).kindOf (ps.zip us) fun _ => none) s1) :
    Inv (cxU CX P w K mg base N qual scope f cd A outer s H E) [] (L2.start N vs) H s1 := by
  have hpl : ps.length ≤ N.length := by have := congrArg List.length S.pre; rw [List.length_take] at this; omega
  obtain ⟨h1, tk, rfl, hk⟩ := x.done
  have noA : ∀ b : Addr, b ∉ (cxU CX P w K mg base N qual scope f cd A outer s H E).ex := fun b z => absurd (show b ∈ ([] : List Addr) from z) (by simp)
  refine ⟨⟨e0.mod, S.kind, rfl, rfl, Nat.le_refl _, fun y z c h1 h2 => ?_, fun y hy => ?_, fun y c _ h => ?_, (fun z => Bool.noConfusion (show false = true from z)), Around.frames_deeper e0.frames, .inr ⟨rfl, rfl⟩, fun b z => absurd z (noA b), e0.bs, e0.bsz, fun b _ _ => noA b, fun b z => absurd z (noA b), e0.funs, e0.frf⟩,
    rfl, e0.bare, Un.kept hk, ⟨_, x.toInCall.ns, fun i y v h1 h2 h3 => ?_⟩, fun y c h => ⟨_, x.cell y c h⟩, e0.hok.fresh (Nat.le_refl _), fun y c h => ?_, fun q hq => ?_, e0.hok.kept hk, ?_⟩
  · exact name_of_addr x.apart (PySem.mem_of_lookup h1) (PySem.mem_of_lookup h2)
  · have hy : scope.names.lookup y = some .cell ∨ scope.names.lookup y = some .free := hy
    rcases hy with hy | hy
    · exact cell_has hy
    · exact absurd rfl (S.nofree _ (PySem.mem_of_lookup hy))
  · exact Nat.le_of_lt (x.above y c (PySem.mem_of_lookup h))
  · have hi : i < vs.length := by
      unfold L2.start at h2
      by_cases hi : i < vs.length
      · exact hi
      · rw [List.getElem?_append_right (by simpa using hi)] at h2
        rw [List.getElem?_replicate] at h2
        split at h2 <;> cases h2
    have ha : vs[i]? = some v := by
      unfold L2.start at h2
      rw [List.getElem?_append_left (by simpa using hi), List.getElem?_map] at h2
      cases e : vs[i]? with
      | none => rw [e] at h2; cases h2
      | some a => rw [e] at h2; cases h2; rfl
    obtain ⟨u, hu, rv⟩ := r.get ha
    have hp : ps[i]? = some y := by
      rw [← S.pre, List.getElem?_take_of_lt (by omega)]; exact h1
    have ndP : ps.Nodup := by rw [← S.pre]; exact S.nd.sublist (List.take_sublist _ _)
    refine ⟨u, rv, ?_⟩
    rcases S.par y (List.mem_of_getElem? hp) with k | k
    · exact .inl ⟨k, bindL_get ndP hp hu k⟩
    · obtain ⟨c, e⟩ := cell_has (n := s.heap.objs.size + 1) k
      refine .inr ⟨.inl k, c, e, ?_⟩
      have q := x.cell y c e
      rw [bindC_get ndP hp hu (by show scope.names.lookup y ≠ _; rw [k]; decide)] at q
      exact q
  · exact e0.hok.fresh (Nat.le_of_lt (x.above y c (PySem.mem_of_lookup h)))
  · exact absurd (show q ∈ ([] : List (Addr × Obj)) from hq) (by simp)
  · unfold L2.start
    show _ = N.length
    rw [List.length_append, List.length_map, List.length_replicate]
    omega
theorem fn_ofU {CX : CXT} {P : Program} {w : World} {K : PySem.W.Frag} {mg : Str → Option Value} {base : Heap} {k : Nat} {f : Addr} {name qual : Str} {params : Arguments} {body : List Stmt} {scope : Scope} {dV kV doc pm cdv ct oc : Value} {an od : Option Addr}
    {osl : Array (Option Value)} {N ps : List Str} {sp : Sp} (lk : K.lookup f = some ⟨oc, od, .func (PySem.W.fnOf name qual params body scope dV kV doc pm an cdv ct), osl⟩) (hcd : PySem.W.codeIn K cdv qual = true) (S : FnScope N ps scope)
    (len : ∀ vs H Q E, sp vs H Q E → vs.length = ps.length)
    (hbody : ∀ (A : Around) (outer : List Env) (s : Shared) (H : Hp) (vs : List V) (Q : VK) (E : XK), RoomU k (A.deeper (envOfC qual scope s.heap.objs.size f cdv)) → sp vs H Q E →
      ∃ t, PSs (cxU CX P w K mg base N qual scope f cdv A outer s H E) body t ∧ t { nx := fun _ H' => Q .non H', rt := Q } (L2.start N vs) H) :
    FnU P w K mg base CX (k + 1) f (PySem.W.fnOf name qual params body scope dV kV doc pm an cdv ct) ps sp := by
  refine ⟨len, fun A outer s H args us vs Q E hr e0 hb r hsp => ?_⟩
  have hl := len _ _ _ _ hsp
  have KX : K.In s.heap := e0.mod.kin.keeps fun b o e => (e0.bs b o e).1
  have lim : s.heap.NoLimit := e0.mod.nolimit.keeps fun b o e => (e0.bs b o e).1
  have hkind : ∀ y ∈ ps.zip us, scope.names.lookup y.1 = some .local ∨ (scope.names.lookup y.1 = some .cell ∧ ((cellsFrom (s.heap.objs.size + 1) scope.names []).lookup y.1).isSome = true) := fun ⟨n, v⟩ hy => by
    rcases S.par n (List.of_mem_zip hy).1 with q | q
    · exact .inl q
    · exact .inr ⟨q, PySem.W.cellsFrom_some _ _ _ (.inl q)⟩
  refine codeAny_call_function hr.depth (KX _ _ lk) rfl S.co S.gen rfl (PySem.W.codeRec_of KX hcd) (hb _ _ _ _ ?_)
  refine wpAny_newFunctionEnv_cells S.kind hkind fun env he s1 x => ?_
  subst he
  refine ⟨lim.keeps x.toInCall.keep, codeAny_func ?_⟩
  obtain ⟨t, ht, hq⟩ := hbody A outer s H vs Q E (hr.deeper _) hsp
  have I : Inv (cxU CX P w K mg base N qual scope f cdv A outer s H E) [] (L2.start N vs) H s1 := inv_startU S e0 hl r x
  refine wpAny_mono (ht.run [] s1 (L2.start N vs) H _ I hq) (fun fl s' hs => ?_) fun e s' hs => hs
  have fin : ∀ {σ' : St} {H' : Hp} {v : V} {u : Value}, Inv (cxU CX P w K mg base N qual scope f cdv A outer s H E) [] σ' H' s' → RelV v u → Q v H' → CE outer P w H s Q u s' :=
    fun {σ' H' v u} J rv q => ⟨v, H', J.os, J.bare, J.base, J.hok, rv, q⟩
  cases fl with
  | ret u =>
    obtain ⟨v, σ', H', J, rv, q⟩ := hs
    exact fin J rv q
  | next =>
    obtain ⟨σ', H', J, q⟩ := hs
    exact fin (v := V.non) (u := Value.none) J rfl q
  | brk =>
    obtain ⟨_, _, _, q⟩ := hs
    exact False.elim q
  | cont =>
    obtain ⟨_, _, _, q⟩ := hs
    exact False.elim q
section
variable {X : Cx} {CX : CXT} {k : Nat} {f C : Addr} {fd : FuncData} {ps : List Str} {sp : Sp} {E : St → XK} {x m : Str} {q pos apos : Pos} {e o : Expr} {es : List Expr} {ta : TE} {t : TA}
theorem run_fnU {pins : List (Addr × Obj)} {σ : St} {H : Hp} {s : Shared} {Q : VK} {us : List Value} {vs : List V} (F : FnU X.prog X.w X.K X.mg X.base CX k f fd ps sp) (hr : RoomU k X.A) (hb : Binds X.K fd ps []) (hx : PassesAt CX X σ (E σ))
    (I : Inv X pins σ H s) (r : Vals vs us) (h : sp vs H Q (E σ)) : wpAny (model X.prog X.w) X.A (call (.ref f) us) (EP X pins σ Q) X.xe s := by
  have hl : us.length = ps.length := by rw [← r.length]; exact F.len _ _ _ _ h
  have b := hb s us I.kIn (by rw [List.append_nil]; exact hl)
  rw [List.append_nil] at b
  refine wpAny_call (codeAny_mono (F.run X.A X.stack s H ⟨us, []⟩ us vs Q (E σ) hr I.env0 b r h) fun r s' hq => ?_)
  cases r with
  | error e => exact hx pins H s e s' I hq
  | ok fl =>
    cases fl with
    | ret u => exact I.after hq
    | next => exact False.elim hq
    | brk => exact False.elim hq
    | cont => exact False.elim hq
theorem pe_callU (F : FnU X.prog X.w X.K X.mg X.base CX k f fd ps sp) (hr : RoomU k X.A) (hg : Gl X x) (hm : X.mg x = some (.ref f)) (hk : PySem.W.keepIn X.K (.ref f) = true) (hb : Binds X.K fd ps []) (hx : ∀ σ, PassesAt CX X σ (E σ))
    (ha : PA X (e :: es) t) (hdb : (x == ("__debug__" : Str)) = false := by decide) (he : starEach (e :: es) X.env = (false, eval e X.env) :: starEach es X.env := by rfl) (hpl : (backTo pos (starEach es X.env)).any (·.1) = false := by rfl) :
    PE X (.Call (.Name x q) (e :: es) [] pos) (tCallS sp E t) := by
  refine ⟨fun pins s σ H Q I h => ?_⟩
  refine wpAny_Call_Name_kw (ld_glob I hg hm ?_ hdb)
  refine PySem.W.callWith_K (h₀ := X.base) I.ok.mod.kin hk (thn (ha.run pos pins s σ H _ I h) fun us s1 ⟨vs, H1, I1, r, q⟩ => ⟨I1.kIn, ?_⟩) he hpl
  exact run_fnU F hr hb (hx σ) I1 r q
end
end Mq
namespace Mv
open PySem L2 Mq
/-- what a suite may lean on -/
structure GoodU (X : Cx) (W : WX) (k : Nat) : Prop where
  room : RoomU k X.A
  takes : Takes X W
  nd : X.N.Nodup
theorem Good.suite {X : Cx} {W : WX} {k : Nat} (g : Good X W k) {a : Addr} {oe : Obj} {pn : List (Addr × Obj)} : GoodU (X.suite a ((a, oe) :: pn)) WNo k :=
  ⟨⟨g.room.dp, g.room.un⟩, fun u s' ⟨_, _, _, _, _, _, _, _, _, _, _, _, _, _, _, _, w⟩ => w.elim, g.nd⟩
/-- what is never reached -/
def sNo : MS := fun _ _ => False
def sNoR : List MS → MS := fun _ _ _ => False
theorem kNoS {X : Cx} {cl : Nat → Addr} {W : WX} {pin : List Nat} {s : Stmt} : PMS X cl W pin s sNo := ⟨fun pins s σ H D I h => by
  obtain ⟨S, F, fp, D0, E, h2, gl⟩ := LS.iff.mp h
  exact h2.elim⟩
section
variable {P : Program} {w : World} {K : PySem.W.Frag} {mg : Str → Option Value} {base : Heap} {cl : Nat → Addr}
theorem fnU_ok {x qual : Str} {params : Arguments} {body : List Stmt} {scope : Scope} {dvs : List V} {kws : List (Str × V)} {f : Addr} {fd : FuncData} {N ps : List Str} {k : Nat} {pin : List Nat} {ms : MS}
    (F : FunD K x qual params body scope dvs kws f fd) (S : FnScope N ps scope)
    (h : ∀ (cdv : Value) (A : Around) (outer : List Env) (s : Shared) (H : Hp) (E : XK), GoodU (cxU (L2.CX P w) P w K mg base N qual scope f cdv A outer s H E) (fun c d _ H' => E c d H') k →
      PMSs (cxU (L2.CX P w) P w K mg base N qual scope f cdv A outer s H E) cl (fun c d _ H' => E c d H') pin body ms) :
    FnU P w K mg base (L2.CX P w) (k + 1) f fd ps (spF K cl (fnSem N.length ps.length pin ms)) := by
  obtain ⟨oc, od, dV, kV, doc, pm, an, cdv, ct, osl, rfl, lk, hcd, _, _⟩ := F.ex
  refine fn_ofU lk hcd S (spF_len rfl) fun A outer s H vs Q E hr ⟨as, F0, fp, E0, Q0, e, hb, hQ, hE⟩ => ?_
  obtain ⟨hl, hio, hm⟩ := hb
  have hlv : as.length = vs.length := by have := e.len; simpa using this
  have hN : ps.length ≤ N.length := by have := congrArg List.length S.pre; rw [List.length_take] at this; omega
  refine ⟨LS K cl (fun c d _ H => E c d H) pin ms, h cdv A outer s H E ⟨hr, takes_of rfl rfl rfl rfl, S.nd⟩, ?_⟩
  rw [← hl] at hm
  have E1 := e.start (N := N) (by omega)
  have fin : ∀ {S' : Fm} {σ' : L2.St} {F' H' : Hp} {fp' : Nat → List Addr}, (∀ i ∈ pin, σ'[i]? = (L2.start N vs)[i]?) → Stp F0 H (as ++ List.replicate (N.length - as.length) .un) fp F' H' S' fp' → EnvR K cl F' H' σ' S' fp' →
      Stp F0 H as fp F' H' (outP pin as.length S') fp' ∧ EnvR K cl F' H' (vs.map some) (outP pin as.length S') fp' := fun {S' σ' F' H' fp'} p st e' =>
    ⟨⟨st.ff, fun a o q nt n => st.hh a o q nt fun z => n z.unstart, fun a o q nx z n => st.nn a o q nx z fun z => n z.unstart, fun a z => (st.oo a z.outP).imp_left Ow.unstart, st.th⟩, by rw [hlv]; exact e'.outP p⟩
  refine LS.iff.mpr ⟨_, F0, fp, _, E1, hm, ⟨fun xd S' q c d σ' F' H' fp' p st e' xr => ?_, fun S' q σ' F' H' fp' p st e' => ?_, fun S' q => q.elim, fun S' q => q.elim, fun r S' q v σ' F' H' fp' p st e' rr => ?_⟩⟩
  · obtain ⟨s1, e1⟩ := fin p st e'
    exact hE _ _ q c d F' H' fp' s1 e1 xr
  · obtain ⟨s1, e1⟩ := fin p st e'
    exact hQ _ _ q _ F' H' fp' s1 e1 (by show Rep _ _ _ _ _; rw [Rep]) (fun i z => by cases z)
  · obtain ⟨s1, e1⟩ := fin p st e'
    cases r with
    | val d => exact hQ _ _ q v F' H' fp' s1 e1 rr (fun i z => by cases z)
    | own o =>
      obtain ⟨p', fq, ev, c, hq⟩ := rr
      exact hQ _ _ q v F' H' fp' s1 e1 ⟨p', fq, ev, c, fun a ha => ⟨(hq a ha).1, fun z => (hq a ha).2.1 z.outP, (hq a ha).2.2.imp_right Ow.unstart⟩⟩ (fun i z => by cases z)
    | slot i =>
      obtain ⟨o, h1, h2⟩ := q
      obtain ⟨p', e2, c⟩ := e'.ow i o h1
      have e3 : σ'[i]? = some (some v) := rr
      rw [e2] at e3; cases e3
      have s2 : Stp F0 H (as ++ List.replicate (N.length - as.length) .un) fp F' H' (S'.set i .un) fp' := ⟨st.ff, st.hh, st.nn, fun a z => st.oo a z.setUn.1, st.th⟩
      obtain ⟨s3, e4⟩ := fin p s2 e'.setUn
      refine hQ _ _ h2 _ F' H' fp' s3 e4 ⟨p', fp' i, rfl, c, fun a ha => ⟨e'.nf i o h1 a ha, fun z => ?_, ?_⟩⟩ (fun i z => by cases z)
      · obtain ⟨_, j, u, ne, h5, h6⟩ := z.outP.setUn
        exact e'.dj j i u o ne h5 h1 a h6 ha
      · rcases st.oo a ⟨i, o, h1, ha⟩ with z | z
        · exact .inr z.unstart
        · exact .inl z
structure FncU (P : Program) (w : World) (K : PySem.W.Frag) (mg : Str → Option Value) (base : Heap) (cl : Nat → Addr) (k : Nat) (x : Str) (st : Stmt) (ps : List Str) (fs : FS) : Prop where
  ex : ∃ f fd, FnU P w K mg base (L2.CX P w) k f fd ps (spF K cl fs) ∧ mg x = some (.ref f) ∧ FunD K x x (defArgs st) (defBody st) (defScope st) [] [] f fd ∧ Binds K fd ps []
end
section
variable {X : Cx} {cl : Nat → Addr} {W : WX} {pin : List Nat} {fs : FS} {ma : MA} {k : Nat} {x : Str} {st : Stmt} {ps : List Str} {p pos : Pos} {e : Expr} {es : List Expr} {j : Nat}
theorem qCallU (F : FncU X.prog X.w X.K X.mg X.base cl k x st ps fs) (g : GoodU X W j) (hk : k ≤ j) (hg : Gl X x) (ha : PMA X cl W pin (e :: es) ma)
    (hdb : (x == ("__debug__" : Str)) = false := by decide) (he : starEach (e :: es) X.env = (false, eval e X.env) :: starEach es X.env := by rfl) (hpl : (backTo pos (starEach es X.env)).any (·.1) = false := by rfl) :
    PM X cl W pin (.Call (.Name x p) (e :: es) [] pos) (mCall fs ma) := by
  obtain ⟨f, fd, F1, hm, FD, hb⟩ := F.ex
  exact PE.imp (pe_callU F1 (g.room.mono hk) hg hm FD.kp hb (fun σ => passAt g.takes σ) ha hdb he hpl) fun _ _ _ h => le_call h
end
end Mv

/-! Mv: instances of the text's classes: made, their fields, their methods. -/
namespace Mv
open PySem L2
section
variable {K : PySem.W.Frag} {cl : Nat → Addr} {F H : Hp} {v : V}
theorem Pk.obj {c : Nat} {fs : List (Str × D)} (p : Pk K cl F H (.obj c fs) v) (s : Same F H) : ∃ a dx ws, v = .ref a ∧ H a = some (.ins (cl c) dx ws) ∧ RepF K cl F fs ws := by
  rcases p with p | ⟨o, a, fq, e, rfl, h, _⟩
  · rw [Rep] at p
    obtain ⟨a, dx, ws, rfl, h1, h2⟩ := p
    exact ⟨a, dx, ws, rfl, s _ _ h1, h2⟩
  · cases o <;> first | exact False.elim h | cases e
    obtain ⟨_, dx, ws, h1, h2⟩ := h
    exact ⟨a, dx, ws, rfl, h1, h2⟩
end
/-- o.f -/
def kFld (cs : List Nat) (f : Str) (Q : R → Fm → Prop) (r : R) (S1 : Fm) : Prop := pkQ S1 (fzR r) fun d => match d with
  | .obj c fs => c ∈ cs ∧ ∃ x, fs.lookup f = some x ∧ Q (.val x) S1
  | _ => False
def mFld (cs : List Nat) (f : Str) (m : ME) : ME := fun E Q S => m E (kFld cs f Q) S
/-- place.f = value -/
def kPo (cs : List Nat) (i : Nat) (f : Str) (Z : MEnds) (d : D) (S1 : Fm) (o : O) : Prop := match o with
  | .obj c fs => c ∈ cs ∧ fs.length < 1000 ∧ Z.nx (S1.set i (.ow (.obj c (putD f d fs))))
  | _ => False
def kPf (cs : List Nat) (i : Nat) (f : Str) (Z : MEnds) (r : R) (S1 : Fm) : Prop := match fzR r with
  | .val d => ∃ o, S1[i]? = some (Sl.ow o) ∧ kPo cs i f Z d S1 o
  | _ => False
def sPf (cs : List Nat) (i : Nat) (f : Str) (m : ME) : MS := fun Z S => m Z.ex (kPf cs i f Z) S
/-- f's call, as mCall asks -/
def kCa (fs : FS) (E : EX) (Q : R → Fm → Prop) (rs : List R) (S : Fm) : Prop := (slotsOf rs).Nodup ∧ asl S rs fun as => fs as (fun xd ps => E xd (backS rs ps S)) (fun r ps => Q r (backS rs ps S))
def objQ (c : Nat) (m : Str) (d : D) : Prop := match d with
  | .obj c' fs => c' = c ∧ fs.lookup m = none
  | _ => False
def kMtO (c : Nat) (n : Str) (fs : FS) (ma : MA) (E : EX) (Q : R → Fm → Prop) (r : R) (S : Fm) : Prop := match r with
  | .own _ => False
  | r => pkQ S r (objQ c n) ∧ ma E (fun rs S2 => kCa fs E Q (r :: rs) S2) S
/-- o.n(..) of class c -/
def mMt (c : Nat) (n : Str) (fs : FS) (m : ME) (ma : MA) : ME := fun E Q S => m E (kMtO c n fs ma E Q) S
/-- C(..) -/
def kMkR (Q : R → Fm → Prop) (rs : List R) (S : Fm) (r : R) (ps : Fm) : Prop := match r, ps with
  | .val .non, .ow o :: ps => Q (.own o) (backS rs ps S)
  | _, _ => False
def kMk (c : Nat) (fs : FS) (E : EX) (Q : R → Fm → Prop) (rs : List R) (S : Fm) : Prop := (slotsOf rs).Nodup ∧ asl S rs fun as => fs (.ow (.obj c []) :: as) (fun xd ps => E xd (backS rs ps.tail S)) (kMkR Q rs S)
def mMake (c : Nat) (fs : FS) (ma : MA) : ME := fun E Q S => ma E (kMk c fs E Q) S

section
variable {X : Cx} {cl : Nat → Addr} {W : WX} {pin : List Nat} {e o : Expr} {m : ME} {pos pos' : Pos} {cs : List Nat} {f : Str}
theorem qFld (hc : ∀ c ∈ cs, Cls X.K (cl c) ∧ NoAttr X.K (cl c) f) (he : PM X cl W pin e m) (hb : attributeBase e f X.env (eval e X.env) = eval e X.env := by rfl) : PM X cl W pin (.Attribute e f pos) (mFld cs f m) :=
  PE.imp (pe_fld he hb) fun σ H Q ⟨S, F, fp, E0, Q0, E, h2, x, k⟩ => LE.mk E h2 x fun r S1 v F1 H1 fp1 q1 st1 e1 rr1 x1 => by
    obtain ⟨G1, e1', st1', sg, ra1⟩ := RelR.ready e1 st1 rr1
    obtain ⟨d, p1, q4⟩ := ra1.pk e1' q1
    cases d with
    | obj c fs =>
      obtain ⟨hcs, x, hx, q⟩ := q4
      obtain ⟨a, dx, ws, rfl, h3, h4⟩ := p1.obj e1'.sub
      obtain ⟨w, h5, h6⟩ := h4.lookup hx
      exact ⟨a, cl c, dx, ws, w, rfl, h3, (hc c hcs).1, (hc c hcs).2, h5, k _ _ q w G1 H1 fp1 st1' e1' h6⟩
    | _ => exact q4.elim
theorem kPfld {i : Nat} (hc : ∀ c ∈ cs, Cls X.K (cl c) ∧ NoAttr X.K (cl c) f) (ho : PE X o (tVar i)) (he : PM X cl W pin e m) (hs : swapsWith e (some (.Attribute o f pos')) pos.line X.env = pure false := by rfl) :
    PMS X cl W pin (.Assign [.Attribute o f pos'] e pos) (sPf cs i f m) :=
  PS.imp (ps_fld ho he hs) fun D σ H h => by
    obtain ⟨S, F, fp, D0, E, h2, gl⟩ := LS.iff.mp h
    refine LE.mk E h2 gl.ex fun r S1 v F1 H1 fp1 q1 st1 e1 rr1 x1 => ?_
    obtain ⟨G1, e1', st1', sg, ra1⟩ := RelR.ready e1 st1 rr1
    unfold kPf at q1
    cases hr : fzR r with
    | val d =>
      simp only [hr] at q1 ra1
      obtain ⟨o1, h3, q1⟩ := q1
      match o1, h3, q1 with
      | .obj c fs, h3, ⟨h4, h5, h6⟩ =>
      obtain ⟨p, hp, cc⟩ := e1'.ow i _ h3
      obtain ⟨hf, dx, ws, h7, h8⟩ := cc
      have ra : Rep X.K cl G1 d v := ra1
      obtain ⟨k1, k2⟩ := e1'.put (o' := .obj c (putD f d fs)) (u := .ins (cl c) dx (putF f v ws)) h3 hp hf ⟨rfl, dx, _, upd_same, h8.put ra⟩
      exact ⟨.ref p, hp, p, cl c, dx, ws, rfl, h7, (hc c h4).1, (hc c h4).2, by rw [← h8.length]; exact h5, gl.nx _ h6 σ G1 _ fp1 (fun _ _ => rfl) (st1'.trans k2) k1⟩
    | own o => simp only [hr] at q1
    | slot i => simp only [hr] at q1
end
section
variable {X : Cx} {CX : CXT} {k : Nat} {f C : Addr} {fd : FuncData} {ps : List Str} {sp : Sp} {E : L2.St → XK} {x m : Str} {p pos apos : Pos} {e o : Expr} {es : List Expr} {ta : TE} {t : TA}
def tMethE (C : Addr) (m : Str) (sp : Sp) (E : L2.St → XK) (ta : TE) (t : TA) : TE := fun σ H Q => ta σ H fun x H1 => ∃ a dx fs, x = .ref a ∧ H1 a = some (.ins C dx fs) ∧ fs.lookup m = none ∧ t σ H1 fun vs H2 => sp (x :: vs) H2 Q (E σ)
theorem pe_methE {pl : Sem Bool} (he : PE X o ta) (c : Cls X.K C) (hm : Meth X.K C m f) (F : FnOk X.prog X.w X.K X.mg X.base CX k f fd ps sp) (hr : Room k X.A) (hb : Binds X.K fd ps []) (hx : ∀ σ, PassesAt CX X σ (E σ)) (ha : PA X (e :: es) t)
    (hst : starEach (e :: es) X.env = (false, eval e X.env) :: starEach es X.env := by rfl) (hpl : (backTo pos (starEach es X.env)).any (·.1) = false := by rfl)
    (ht : eval (.Call (.Attribute o m apos) (e :: es) [] pos) X.env = (do
      let ov ← eval o X.env
      standAt apos.atName
      let (f, first) ← holding [ov] (getMethod ov m pl)
      callWith pos f first (backTo pos (starEach (e :: es) X.env)) (backToKw pos (keywordEach [] X.env))) := by rfl) :
    PE X (.Call (.Attribute o m apos) (e :: es) [] pos) (tMethE C m sp E ta t) := by
  refine ⟨fun pins s σ H Q I h => ?_⟩
  refine PySem.W.methodCall_KW (pl := pl) (thn (he.run pins s σ H _ I h) fun u s1 ⟨x, H1, I1, rx, a, dx, fs, ex, ea, l, q⟩ => ?_) ht
  subst ex
  obtain rfl : u = Value.ref a := rx
  refine getmeth_ok I1 ea c hm l ?_
  refine PySem.W.callWith_K (first := [.ref a]) (h₀ := X.base) I.ok.mod.kin hm.kp (thn (ha.run pos pins s1 σ H1 _ I1 q) fun us s2 ⟨vs, H2, I2, r, q2⟩ => ⟨I2.kIn, ?_⟩) hst hpl
  exact run_fnS (us := .ref a :: us) (vs := .ref a :: vs) F hr hb (hx σ) I2 (.cons rfl r) q2
theorem pe_methE0 {pl : Sem Bool} (he : PE X o ta) (c : Cls X.K C) (hm : Meth X.K C m f) (F : FnOk X.prog X.w X.K X.mg X.base CX k f fd ps sp) (hr : Room k X.A) (hb : Binds X.K fd ps []) (hx : ∀ σ, PassesAt CX X σ (E σ))
    (ht : eval (.Call (.Attribute o m apos) [] [] pos) X.env = (do
      let ov ← eval o X.env
      standAt apos.atName
      let (f, first) ← holding [ov] (getMethod ov m pl)
      callWith pos f first (backTo pos (starEach [] X.env)) (backToKw pos (keywordEach [] X.env))) := by rfl) :
    PE X (.Call (.Attribute o m apos) [] [] pos) (tMethE C m sp E ta tNil) := by
  refine ⟨fun pins s σ H Q I h => ?_⟩
  refine PySem.W.methodCall_KW (pl := pl) (thn (he.run pins s σ H _ I h) fun u s1 ⟨x, H1, I1, rx, a, dx, fs, ex, ea, l, q⟩ => ?_) ht
  subst ex
  obtain rfl : u = Value.ref a := rx
  refine getmeth_ok I1 ea c hm l ?_
  exact PySem.W.callWith_K0 (first := [.ref a]) I1.kIn hm.kp (run_fnS (us := [.ref a]) (vs := [.ref a]) F hr hb (hx σ) I1 (.cons rfl .nil) q)
def tMakeS (C : Addr) (sp : Sp) (E : L2.St → XK) (t : TA) : TE := fun σ H Q => t σ H fun vs H1 => ∀ x dx, H1 x = none → H1 dx = none → dx ≠ x → sp (.ref x :: vs) (upd (upd H1 dx (.own x)) x (.ins C dx [])) (fun v H2 => v = .non ∧ Q (.ref x) H2) (E σ)
theorem run_makeS {pins : List (Addr × Obj)} {σ : L2.St} {H : Hp} {s : Shared} {Q : VK} {us : List Value} {vs : List V} (M : Mk X.K C f) (F : FnOk X.prog X.w X.K X.mg X.base CX k f fd ps sp) (hr : Room (k + 1) X.A) (hb : Binds X.K fd ps [])
    (hx : PassesAt CX X σ (E σ)) (I : Inv X pins σ H s) (r : Vals vs us)
    (h : ∀ x dx, H x = none → H dx = none → dx ≠ x → sp (.ref x :: vs) (upd (upd H dx (.own x)) x (.ins C dx [])) (fun v H2 => v = .non ∧ Q (.ref x) H2) (E σ)) :
    wpAny (model X.prog X.w) X.A (call (.ref C) us) (EP X pins σ Q) X.xe s := by
  have hq := h (s.heap.objs.size + 1) s.heap.objs.size (I.hok.fresh (Nat.le_succ _)) (I.hok.fresh (Nat.le_refl _)) (Nat.ne_of_lt (Nat.lt_succ_self _))
  have I2 := Inv.made (C := C) I
  have r2 : Vals (V.ref (s.heap.objs.size + 1) :: vs) (Value.ref (s.heap.objs.size + 1) :: us) := .cons rfl r
  have hl : (Value.ref (s.heap.objs.size + 1) :: us ++ []).length = ps.length := by
    have e := r2.length
    rw [F.len _ _ _ _ hq] at e
    rw [List.append_nil]
    exact e.symm
  have b := hb _ (Value.ref (s.heap.objs.size + 1) :: us) I2.kIn hl
  rw [List.append_nil] at b
  refine wpAny_call (make_map (f := f) I.kIn M.makes M.init (beq_iff_eq.mp M.fn) (codeAny_mono (F.run _ X.stack _ _ ⟨Value.ref (s.heap.objs.size + 1) :: us, []⟩ (Value.ref (s.heap.objs.size + 1) :: us) _ _ (E σ) (hr.make C us [])
    (I2.env0.make C us []) b r2 hq) fun r s' hq' => ?_))
  cases r with
  | error e => exact hx pins _ _ e s' I2 hq'
  | ok fl =>
    cases fl with
    | ret u =>
      obtain ⟨v, H', I3, rv, ev, q3⟩ := I2.after hq'
      subst ev
      exact ⟨rv, ⟨V.ref (s.heap.objs.size + 1), H', I3, rfl, q3⟩⟩
    | next => exact False.elim hq'
    | brk => exact False.elim hq'
    | cont => exact False.elim hq'
theorem pe_makeS (M : Mk X.K C f) (F : FnOk X.prog X.w X.K X.mg X.base CX k f fd ps sp) (hr : Room (k + 1) X.A) (hg : Gl X x) (hm : X.mg x = some (.ref C)) (hb : Binds X.K fd ps []) (hx : ∀ σ, PassesAt CX X σ (E σ))
    (ha : PA X (e :: es) t) (hdb : (x == ("__debug__" : Str)) = false := by decide) (he : starEach (e :: es) X.env = (false, eval e X.env) :: starEach es X.env := by rfl) (hpl : (backTo pos (starEach es X.env)).any (·.1) = false := by rfl) :
    PE X (.Call (.Name x p) (e :: es) [] pos) (tMakeS C sp E t) := by
  refine ⟨fun pins s σ H Q I h => ?_⟩
  refine wpAny_Call_Name_kw (ld_glob I hg hm ?_ hdb)
  refine PySem.W.callWith_K (h₀ := X.base) I.ok.mod.kin M.kp (thn (ha.run pos pins s σ H _ I h) fun us s1 ⟨vs, H1, I1, r, q⟩ => ⟨I1.kIn, ?_⟩) he hpl
  exact run_makeS M F hr hb (hx σ) I1 r q
end
section
variable {X : Cx} {cl : Nat → Addr} {W : WX} {pin : List Nat} {fs : FS} {ma : MA} {m : ME} {c : Nat} {n : Str}
theorem le_mt {σ : L2.St} {H : Hp} {Q : VK} (h : LE X.K cl W pin (mMt c n fs m ma) σ H Q) : tMethE (cl c) n (spF X.K cl fs) (WE W) (LE X.K cl W pin m) (LA X.K cl W pin ma) σ H Q := by
  obtain ⟨S, F, fp, E0, Q0, E, h2, x, k⟩ := h
  refine LE.mk E h2 x fun r S1 v F1 H1 fp1 q1 st1 e1 rr1 x1 => ?_
  have main : ∀ (r : R), (∀ o, r ≠ .own o) → RelA X.K cl F1 σ r v → pkQ S1 r (objQ c n) → ma E0 (fun rs S2 => kCa fs E0 Q0 (r :: rs) S2) S1 →
      ∃ a dx fs', v = .ref a ∧ H1 a = some (.ins (cl c) dx fs') ∧ fs'.lookup n = none ∧ LA X.K cl W pin ma σ H1 fun vs H2 => spF X.K cl fs (v :: vs) H2 Q (WE W σ) := fun r hn ra qo qa => by
    obtain ⟨d, pk, qd⟩ := ra.pk e1 qo
    cases d with
    | obj c' gs =>
      obtain ⟨rfl, hl⟩ := qd
      obtain ⟨a, dx, ws, rfl, h3, h4⟩ := pk.obj e1.sub
      refine ⟨a, dx, ws, rfl, h3, h4.lookup_none hl, LA.mk e1 qa x1 fun rs S2 vs F2 H2 fp2 q2 st2 e2 rr2 x2 => ?_⟩
      refine sp_call e2 (rs := r :: rs) ⟨_, _, rfl, ra.mono st2.ff, rr2⟩ x2 q2 fun r' S' q v' F' H' fp' st e rel => k r' S' q v' F' H' fp' ((st1.trans st2).trans st) e (rel.from (st1.trans st2))
    | _ => exact qd.elim
  match r, q1, rr1 with
  | .val d, q1, rr1 => exact main (.val d) (fun _ => by simp) rr1 q1.1 q1.2
  | .slot i, q1, rr1 => exact main (.slot i) (fun _ => by simp) rr1 q1.1 q1.2
theorem le_make {σ : L2.St} {H : Hp} {Q : VK} (h : LE X.K cl W pin (mMake c fs ma) σ H Q) : tMakeS (cl c) (spF X.K cl fs) (WE W) (LA X.K cl W pin ma) σ H Q := by
  obtain ⟨S, F, fp, E0, Q0, E, h2, x, k⟩ := h
  refine LA.mk E h2 x fun rs S2 vs F2 H20 fp2 q2 st2 e20 rr2 x2 => ?_
  intro p dx hp hdx hne
  obtain ⟨nd, q2⟩ := q2
  have hH : Same H20 (upd (upd H20 dx (.own p)) p (.ins (cl c) dx [])) := (same_upd hdx).trans (same_upd (by rw [upd_ne fun z => hne z.symm]; exact hp))
  have sm : Small F2 H20 F2 (upd (upd H20 dx (.own p)) p (.ins (cl c) dx [])) := ⟨Same.refl _, hH, fun _ _ _ h => h, e20.sub.trans hH⟩
  have e2 := e20.small sm
  have hF : F2 p = none := e20.sub.free hp
  have hO : ¬ Ow S2 fp2 p := fun w => by
    obtain ⟨u, hu⟩ := (e20.owned w).2
    rw [hp] at hu; cases hu
  have c2 : CellR X.K cl F2 (upd (upd H20 dx (.own p)) p (.ins (cl c) dx [])) (.obj c []) p [p] := ⟨rfl, dx, [], upd_same, by rw [RepF]⟩
  have e3 := e2.more c2 fun a ha => by
    have e : a = p := by simpa using ha
    subst e; exact ⟨hF, hO⟩
  obtain ⟨q3, hlt⟩ := asl_more (o := .obj c []) q2
  have st12 := st2.trans (sm.step (S := S2) (fp := fp2))
  have st3 : Stp F H S fp F2 _ (S2 ++ [.ow (.obj c [])]) (fpSet fp2 S2.length [p]) := st12.more fun a ha => by
    have e : a = p := by simpa using ha
    subst e; exact .inl (st2.th _ hp)
  have rr3 : RelAs X.K cl F2 (σ ++ [some (.ref p)]) (.slot S2.length :: rs) (.ref p :: vs) := by
    refine ⟨.ref p, vs, rfl, ?_, ?_⟩
    · show (σ ++ [some (V.ref p)])[S2.length]? = _
      rw [e2.len]; simp
    · have key : ∀ {rs : List R} {vs : List V}, (∀ i ∈ slotsOf rs, i < S2.length) → RelAs X.K cl F2 σ rs vs → RelAs X.K cl F2 (σ ++ [some (.ref p)]) rs vs := by
        intro rs
        induction rs with
        | nil => intro vs _ h; exact h
        | cons r rs ih =>
          intro vs hl ⟨v, us, e, h, t⟩
          refine ⟨v, us, e, ?_, ih (fun i hi => ?_) t⟩
          · cases r with
            | val d => exact h
            | own o => exact h
            | slot i =>
              show (σ ++ [some (V.ref p)])[i]? = _
              rw [List.getElem?_append_left (by rw [← e2.len]; exact hl i (by simp [slotsOf]))]
              exact h
          · cases r with
            | val d => exact hl i hi
            | own o => exact hl i hi
            | slot j => exact hl i (by simp [slotsOf, hi])
      exact key hlt rr2
  have nd3 : (slotsOf (.slot S2.length :: rs)).Nodup := by
    simp only [slotsOf, List.nodup_cons]
    exact ⟨fun z => absurd (hlt _ z) (by omega), nd⟩
  have q4 : asl (S2 ++ [.ow (.obj c [])]) (.slot S2.length :: rs) fun as => fs as (fun xd ps => E0 xd (backS rs ps.tail S2)) (kMkR Q0 rs S2) := ⟨.obj c [], by simp, q3⟩
  obtain ⟨as, h1, h2', h3⟩ := asl_get q4
  have A : Args (S2 ++ [.ow (.obj c [])]) (.slot S2.length :: rs) as := ⟨nd3, h2', h3⟩
  have bk : ∀ (s : Sl) (ps : Fm), backS (.slot S2.length :: rs) (s :: ps) (S2 ++ [.ow (.obj c [])]) = backS rs ps S2 ++ [s] := fun s ps => by
    rw [backS]
    have : (S2 ++ [Sl.ow (.obj c [])]).set S2.length s = S2 ++ [s] := by simp
    rw [this]
    exact backS_more hlt
  have lenP : ∀ {ps : Fm} {F' H' : Hp} {fp' : Nat → List Addr}, EnvR X.K cl F' H' ((V.ref p :: vs).map some) ps fp' → ps.length = rs.length + 1 := fun {ps F' H' fp'} e' => by
    have := e'.len
    have l2 := rr2.length
    simp at this
    omega
  refine ⟨as, F2, _, _, _, A.env e3 rr3, h1, fun r ps q v F' H' fp' st e' rel n0 => ?_, fun xd ps q c' d F' H' fp' st e' xr => ?_⟩
  · obtain ⟨b1, b2, b3⟩ := A.back e3 rr3 st e'
    unfold kMkR at q
    split at q
    · rename_i o ps
      have rv : Rep X.K cl F' .non v := rel
      rw [Rep] at rv
      subst rv
      rw [bk] at b1 b2
      have hat : (backS rs ps S2 ++ [Sl.ow o])[S2.length]? = some (Sl.ow o) := by
        have := backS_len (rs := rs) (ps := ps) (S := S2)
        rw [List.getElem?_append_right (by omega), this, Nat.sub_self]; rfl
      obtain ⟨p', hp', cc⟩ := b1.ow _ _ hat
      have hpe : (σ ++ [some (V.ref p)])[S2.length]? = some (some (V.ref p)) := by rw [e2.len]; simp
      rw [hpe] at hp'
      cases hp'
      refine ⟨rfl, k (.own o) _ q (.ref p) F' H' _ (st3.trans b2).less b1.less ⟨p, _, rfl, cc, fun a ha => ⟨b1.nf _ _ hat a ha, fun w => ?_, ?_⟩⟩⟩
      · obtain ⟨j, u, h5, h6⟩ := w
        have hj : j < (backS rs ps S2).length := (List.getElem?_eq_some_iff.mp h5).1
        have hj2 := backS_len (rs := rs) (ps := ps) (S := S2)
        exact b1.dj j S2.length u o (by omega) (by rw [List.getElem?_append_left hj]; exact h5) hat a h6 ha
      · rcases (st3.trans b2).oo a ⟨_, o, hat, ha⟩ with z | z
        · exact .inr z
        · exact .inl z
    · exact q.elim
  · obtain ⟨b1, b2, b3⟩ := A.back e3 rr3 st e'
    cases ps with
    | nil => have := lenP e'; simp at this
    | cons s ps =>
      rw [bk] at b1 b2
      exact x xd _ q c' d σ F' H' _ (fun _ _ => rfl) (st3.trans b2).less b1.less xr
end
/-- a method's reading; an __init__'s -/
structure FncM (P : Program) (w : World) (K : PySem.W.Frag) (mg : Str → Option Value) (base : Heap) (cl : Nat → Addr) (k c : Nat) (m : Str) (ps : List Str) (fs : FS) : Prop where
  ex : ∃ f fd, FnOk P w K mg base (L2.CX P w) k f fd ps (spF K cl fs) ∧ Meth K (cl c) m f ∧ Binds K fd ps []
structure FncI (P : Program) (w : World) (K : PySem.W.Frag) (mg : Str → Option Value) (base : Heap) (cl : Nat → Addr) (k c : Nat) (ps : List Str) (fs : FS) : Prop where
  ex : ∃ f fd, FnOk P w K mg base (L2.CX P w) k f fd ps (spF K cl fs) ∧ Mk K (cl c) f ∧ Binds K fd ps []
section
variable {X : Cx} {cl : Nat → Addr} {W : WX} {pin : List Nat} {fs : FS} {ma : MA} {m : ME} {c k j : Nat} {n x : Str} {o e : Expr} {es : List Expr} {p pos apos : Pos} {ps : List Str}
theorem qMt {pl : Sem Bool} (F : FncM X.prog X.w X.K X.mg X.base cl k c n ps fs) (hc : Cls X.K (cl c)) (g : Good X W j) (hk : k ≤ j) (he : PM X cl W pin o m) (ha : PMA X cl W pin (e :: es) ma)
    (hst : starEach (e :: es) X.env = (false, eval e X.env) :: starEach es X.env := by rfl) (hpl : (backTo pos (starEach es X.env)).any (·.1) = false := by rfl)
    (ht : eval (.Call (.Attribute o n apos) (e :: es) [] pos) X.env = (do
      let ov ← eval o X.env
      standAt apos.atName
      let (f, first) ← holding [ov] (getMethod ov n pl)
      callWith pos f first (backTo pos (starEach (e :: es) X.env)) (backToKw pos (keywordEach [] X.env))) := by rfl) :
    PM X cl W pin (.Call (.Attribute o n apos) (e :: es) [] pos) (mMt c n fs m ma) := by
  obtain ⟨f, fd, F1, hm, hb⟩ := F.ex
  exact PE.imp (pe_methE he hc hm F1 (g.room.mono hk) hb (fun σ => passAt g.takes σ) ha hst hpl ht) fun _ _ _ h => le_mt h
theorem qMt0 {pl : Sem Bool} (F : FncM X.prog X.w X.K X.mg X.base cl k c n ps fs) (hc : Cls X.K (cl c)) (g : Good X W j) (hk : k ≤ j) (he : PM X cl W pin o m)
    (ht : eval (.Call (.Attribute o n apos) [] [] pos) X.env = (do
      let ov ← eval o X.env
      standAt apos.atName
      let (f, first) ← holding [ov] (getMethod ov n pl)
      callWith pos f first (backTo pos (starEach [] X.env)) (backToKw pos (keywordEach [] X.env))) := by rfl) :
    PM X cl W pin (.Call (.Attribute o n apos) [] [] pos) (mMt c n fs m mNil) := by
  obtain ⟨f, fd, F1, hm, hb⟩ := F.ex
  refine PE.imp (pe_methE0 he hc hm F1 (g.room.mono hk) hb (fun σ => passAt g.takes σ) ht) fun σ H Q h => ?_
  have h' := le_mt h
  unfold tMethE at h' ⊢
  obtain ⟨S, F, fp, E0, Q0, E, h2, x, kk⟩ := h'
  refine ⟨S, F, fp, E0, Q0, E, h2, x, fun r S' q v F' H' fp' st e rr => ?_⟩
  obtain ⟨a, dx, fs', e1, e2, e3, S1, F1, fp1, E1, Q1, EE, h5, _, k1⟩ := kk r S' q v F' H' fp' st e rr
  exact ⟨a, dx, fs', e1, e2, e3, k1 _ _ h5 [] F1 _ fp1 Stp.refl EE rfl⟩
theorem qMake (F : FncI X.prog X.w X.K X.mg X.base cl k c ps fs) (g : Good X W j) (hk : k + 1 ≤ j) (hg : Gl X x) (hm : X.mg x = some (.ref (cl c))) (ha : PMA X cl W pin (e :: es) ma)
    (hdb : (x == ("__debug__" : Str)) = false := by decide) (he : starEach (e :: es) X.env = (false, eval e X.env) :: starEach es X.env := by rfl) (hpl : (backTo pos (starEach es X.env)).any (·.1) = false := by rfl) :
    PM X cl W pin (.Call (.Name x p) (e :: es) [] pos) (mMake c fs ma) := by
  obtain ⟨f, fd, F1, hM, hb⟩ := F.ex
  exact PE.imp (pe_makeS hM F1 (g.room.mono hk) hg hm hb (fun σ => passAt g.takes σ) ha hdb he hpl) fun _ _ _ h => le_make h
end
end Mv

/-! Mv: instances: isinstance, ==. -/
namespace Mv
open PySem PySem.Spec PyProof.Rows L2
/-! ### isinstance of an own class -/
def insB (K : PySem.W.Frag) (C : Addr) : Bool := He.eqO (PySem.W.findIn K (.ref C) "__class__") (some (some (.builtin "object.__class__"))) && (He.eqO (PySem.W.specialIn K (.builtin "object.__class__") "__get__") (some (some (.builtin "getset_descriptor.__get__"))) &&
  (decide (PySem.W.takesIn K (.builtin "object.__class__") = some true) && (decide (PySem.W.mroIn K C (.type "object") = some true) && (decide (PySem.W.kitOne K (.ref C) (.ref C) = some true) &&
  ["NoneType", "bool", "int", "str", "tuple", "list", "dict"].all fun n => decide (PySem.W.kitOne K (.type n) (.ref C) = some false)))))
structure InsK (K : PySem.W.Frag) (C : Addr) : Prop where
  ha : PySem.W.findIn K (.ref C) "__class__" = some (some (.builtin "object.__class__"))
  hn : PySem.W.specialIn K (.builtin "object.__class__") "__get__" = some (some (.builtin "getset_descriptor.__get__"))
  htk : PySem.W.takesIn K (.builtin "object.__class__") = some true
  hm : PySem.W.mroIn K C (.type "object") = some true
  me : PySem.W.kitOne K (.ref C) (.ref C) = some true
  no : ∀ n, (n = "NoneType" ∨ n = "bool" ∨ n = "int" ∨ n = "str" ∨ n = "tuple" ∨ n = "list" ∨ n = "dict") → PySem.W.kitOne K (.type n) (.ref C) = some false
theorem insB_ok {K : PySem.W.Frag} {C : Addr} (h : insB K C = true) : InsK K C := by
  obtain ⟨h1, h⟩ := He.ba h
  obtain ⟨h2, h⟩ := He.ba h
  obtain ⟨h3, h⟩ := He.ba h
  obtain ⟨h4, h⟩ := He.ba h
  obtain ⟨h5, h6⟩ := He.ba h
  refine ⟨He.eqO_ok h1, He.eqO_ok h2, of_decide_eq_true h3, of_decide_eq_true h4, of_decide_eq_true h5, fun n hn => ?_⟩
  have := List.all_eq_true.mp h6 n (by rcases hn with rfl | rfl | rfl | rfl | rfl | rfl | rfl <;> simp)
  exact of_decide_eq_true this
def dIsC (c0 : Nat) : DOpL := d2 fun d e k => match e with
  | .cls c => c = c0 ∧ (match d with
    | .obj c' _ => c' = c0 ∧ k (.val (.bl true))
    | d => tyN d ≠ "" ∧ k (.val (.bl false)))
  | _ => False
section
variable {X : Cx} {cl : Nat → Addr} {c : Nat}
theorem b_isC (hc : Cls X.K (cl c)) (hi : InsK X.K (cl c)) : CallR X (.builtin "isinstance") (rL X.K cl (dIsC c)) := c2 fun pins s σ H v w us Q F d e Q0 I r sm p1 p2 q P => by
  cases e with
  | cls c' =>
    obtain ⟨rfl, q⟩ := q
    have hw := p2.cls
    have neg : tyN d ≠ "" → Q0 (.val (.bl false)) → wpAny (model X.prog X.w) X.A (call (.builtin "isinstance") us) (EP X pins σ Q) X.xe s := fun h1 h2 =>
      call_isi pins s σ H _ _ Q I r ⟨v, w, _, _, false, rfl, by rw [hw]; exact .own (cl c'), tyx_of p1 sm h1, hi.no _ (tyN_in h1), P.bl sm h2⟩
    cases d with
    | obj c2 fs =>
      obtain ⟨rfl, q⟩ := q
      obtain ⟨a, dx, ws, rfl, h1, h2⟩ := p1.obj sm
      exact call_isi pins s σ H _ _ Q I r ⟨_, w, _, _, true, rfl, by rw [hw]; exact .own (cl c2), .base (.ins h1 hc hi.ha hi.hn hi.htk hi.hm), hi.me, P.bl sm q⟩
    | _ => exact neg q.1 q.2
  | _ => exact q.elim
variable {W : WX} {pin : List Nat} {x : Str} {pos : Pos}
theorem qCls (hg : Gl X x) (hm : X.mg x = some (.ref (cl c))) (hd : (x == ("__debug__" : Str)) = false := by decide) : PM X cl W pin (.Name x pos) (mC (.cls c)) :=
  qC (pe_glob (v := V.ref (cl c)) hg hm rfl hd) fun F => by rw [Rep]
end
/-! ### is of bools -/
def dIsB : DOp2 := fun d e k => match d, e with
  | .bl a, .bl b => k (.val (.bl (a == b)))
  | _, _ => False
theorem o_isB {X : Cx} {cl : Nat → Addr} : OpR X (compareOp .Is) (r2 X.K cl dIsB) := by
  intro pins s σ H x y v u Q I rx ry ⟨F, d, e, Q0, sm, p1, p2, q, P⟩
  cases d with
  | bl a =>
    cases e with
    | bl b => exact op_isBl pins s σ H x y v u Q I rx ry ⟨a, b, p1.bl, p2.bl, P.bl sm (by
        have : (decide (a = b)) = (a == b) := by cases a <;> cases b <;> rfl
        rw [this]; exact q)⟩
    | _ => exact q.elim
  | _ => exact q.elim
/-! ### == by an own __eq__ -/
def dEqO (c : Nat) (fs : FS) : DOp2 := fun d e k => match d, e with
  | .obj c1 f1, .obj c2 f2 => c1 = c ∧ c2 = c ∧ fs [.fz (.obj c1 f1), .fz (.obj c2 f2)] (fun _ _ => False) (fun r _ => ∃ b, r = .val (.bl b) ∧ k (.val (.bl b)))
  | _, _ => False
section
variable {X : Cx} {cl : Nat → Addr} {W : WX} {c k j : Nat} {ps : List Str} {fs : FS}
theorem o_eqO (F : FncM X.prog X.w X.K X.mg X.base cl k c "__eq__" ps fs) (g : Good X W j) (hk : k ≤ j) : OpR X (compareOp .Eq) (r2 X.K cl (dEqO c fs)) := by
  intro pins s σ H x y v u Q I rx ry ⟨Fz, d, e, Q0, sm, p1, p2, q, P⟩
  cases d with
  | obj c1 f1 =>
    cases e with
    | obj c2 f2 =>
      obtain ⟨rfl, rfl, q⟩ := q
      obtain ⟨a, dx, ws, rfl, h1, h2⟩ := p1.obj sm
      obtain ⟨b, dy, us, rfl, h3, h4⟩ := p2.obj sm
      obtain ⟨f, fd, F1, hm, hb⟩ := F.ex
      cases rx
      cases ry
      obtain ⟨mA, J, _⟩ := ins_get I.hok h1
      obtain ⟨mB, J', _⟩ := ins_get I.hok h3
      obtain ⟨od, J, _⟩ := J.look
      obtain ⟨od', J', _⟩ := J'.look
      obtain ⟨m, hF⟩ := I.fr
      have hr := g.room.mono hk
      show wpAny (model X.prog X.w) X.A (richCompare .Eq (.ref a) (.ref b)) (EP X pins σ Q) X.xe s
      refine PySem.W.cmp_K (op := .Eq) (tb := .ref (cl c2)) hr.units0 hF I.ok.mod.kin J J'.type (by simp [PySem.W.notFirst]) hm.at_ hm.fn ?_
      have hsp : spF X.K cl fs [.ref a, .ref b] H (fun v H' => ∃ b, v = .bl b ∧ Q0 (.val (.bl b)) ∧ SmallW X.K cl Fz H Fz H') (fun _ _ _ => False) := by
        obtain ⟨G, g1, g2, g3, g4⟩ := P.tb.split sm
        refine ⟨[.fz (.obj c2 f1), .fz (.obj c2 f2)], G, fun _ => [], _, _, ⟨g2, rfl, fun i d e => ?_, fun i o e => ?_, fun i o e => ?_, fun i j o u _ e => ?_, g3⟩, q, fun r ps q v F' H' fp' st e rr _ => ?_, fun xd ps q => q.elim⟩
        · match i, e with
          | 0, e => simp at e; subst e; exact ⟨.ref a, rfl, by rw [Rep]; exact ⟨a, dx, ws, rfl, g4 _ _ h1 (fun ps z => by cases z), h2.mono g1⟩⟩
          | 1, e => simp at e; subst e; exact ⟨.ref b, rfl, by rw [Rep]; exact ⟨b, dy, us, rfl, g4 _ _ h3 (fun ps z => by cases z), h4.mono g1⟩⟩
          | i + 2, e => simp at e
        · match i, e with
          | 0, e => simp at e
          | 1, e => simp at e
          | i + 2, e => simp at e
        · match i, e with
          | 0, e => simp at e
          | 1, e => simp at e
          | i + 2, e => simp at e
        · match i, e with
          | 0, e => simp at e
          | 1, e => simp at e
          | i + 2, e => simp at e
        · obtain ⟨bo, rfl, q2⟩ := q
          have z : Rep X.K cl F' (.bl bo) v := rr
          rw [Rep] at z
          exact ⟨bo, z, q2, Same.refl _, fun p o h nt => st.hh p o h nt fun ⟨i, o, w, _⟩ => by
            match i, w with
            | 0, w => simp at w
            | 1, w => simp at w
            | i + 2, w => simp at w, fun _ _ _ z => z, g1.trans (st.ff.trans e.sub), st.th, P.tb.by e.tb⟩
      have e0 : Env0 X.prog X.w X.K X.mg X.base X.A X.stack s H := I.env0
      have hl := F1.len _ _ _ _ hsp
      have r2 : Vals [V.ref a, V.ref b] [Value.ref a, Value.ref b] := .cons rfl (.cons rfl .nil)
      refine wpAny_call (codeAny_mono (F1.run X.A X.stack s H ⟨[.ref a, .ref b], []⟩ [.ref a, .ref b] [.ref a, .ref b] _ (fun _ _ _ => False) hr e0 (by
        have := hb s [.ref a, .ref b] I.kIn (by simpa using hl)
        simpa using this) r2 hsp) fun r s' hq => ?_)
      cases r with
      | error e =>
        obtain ⟨_, _, _, _, _, _, _, _, _, _, _, _, z⟩ := hq
        exact z.elim
      | ok fl =>
        cases fl with
        | ret w =>
          obtain ⟨z, H', I', rz, bo, ez, q2, ex⟩ := I.after hq
          subst ez
          cases rz
          have fin : Q (.bl bo) H' := P.run _ q2 (.bl bo) Fz H' ex (by show Rep _ _ _ _ _; rw [Rep])
          cases bo <;> exact ⟨.bl _, H', I', rfl, fin⟩
        | next => exact False.elim hq
        | brk => exact False.elim hq
        | cont => exact False.elim hq
    | _ => exact q.elim
  | _ => exact q.elim
end
/-! ### a tuple again and again -/
def dMulT : DOp2 := fun d e k => match d, e with
  | .tup xs, .int n => xs ≠ [] ∧ 2 ≤ n ∧ n ≤ 1000 ∧ xs.length ≤ 1000 ∧ k (.val (.tup (List.replicate n.toNat xs).flatten))
  | _, _ => False
theorem o_mulT {X : Cx} {cl : Nat → Addr} : OpR X (binaryOp .Mult) (r2 X.K cl dMulT) := by
  intro pins s σ H x y v u Q I rx ry ⟨F, d, e, Q0, sm, p1, p2, q, P⟩
  cases d with
  | tup xs =>
    cases e with
    | int n =>
      obtain ⟨q1, q2, q3, q4, q5⟩ := q
      obtain ⟨a, vs, e1, h1, g1, _⟩ := p1.tup sm
      exact op_repT pins s σ H x y v u Q I rx ry ⟨a, n, vs, e1, p2.int, SqT.of h1, fun z => q1 (by
        have := g1.length
        rw [z] at this
        exact List.length_eq_zero_iff.mp this), q2, q3, by rw [← g1.length]; exact q4, fun p hp => P.tup sm q5 (g1.rep _) hp⟩
    | _ => exact q.elim
  | _ => exact q.elim
end Mv

/-! Mv: xs[i] op= v of one's own list of ints. -/
namespace Mv
open PySem PySem.Spec PyProof.Rows L2
def rGetL : V → V → Hp → VK → Prop := fun o i H Q => ∃ p xs k v, o = .ref p ∧ i = .int k ∧ 0 ≤ k ∧ H p = some (.lst xs) ∧ L2.atI xs k = some v ∧ Q v H
theorem get_list {X : Cx} : PGet X rGetL := by
  intro pins s σ H o i ov iv Q I ro ri h
  obtain ⟨p, xs, k, z, rfl, rfl, h0, hp, he, q⟩ := h
  cases ro
  obtain ⟨t, rfl⟩ := ri
  obtain ⟨its, r, pl, hz⟩ := I.list (SqL.of hp)
  obtain ⟨j, h1, h2, h3, h4, h5⟩ := atI_get he
  obtain ⟨w, ew, rw'⟩ := r.get h2
  have hl := r.length
  have hn := line63
  have fin : EP X pins σ Q w s := ⟨z, H, I, rw', q⟩
  have hj : k.toNat = j := by
    rw [seqIndex_of h0 h5] at h1
    exact Option.some.inj h1
  exact wpAny_getItem_list pl.isList h0 (by omega) (by rw [hj]; simpa using ew) fin
def kPa4 (g : Int → Int → Int) (i : Nat) (Z : MEnds) (j y z : Int) (S : Fm) (xs : List D) : Prop := ∃ l, ixN xs.length j = some l ∧ Z.nx (S.set i (.ow (.lst (xs.set l (.int (g y z))))))
def kPa3 (g : Int → Int → Int) (i : Nat) (Z : MEnds) (j y : Int) (r : R) (S : Fm) : Prop := match r with
  | .val (.int z) => luQ S i (kPa4 g i Z j y z S)
  | _ => False
def kPa2 (g : Int → Int → Int) (i : Nat) (m : ME) (Z : MEnds) (j : Int) (S : Fm) (xs : List D) : Prop := 0 ≤ j ∧ ∃ y, L2.atI xs j = some (.int y) ∧ m Z.ex (kPa3 g i Z j y) S
def kPa1 (g : Int → Int → Int) (i : Nat) (m : ME) (Z : MEnds) (q : R) (S : Fm) : Prop := match q with
  | .val (.int j) => luQ S i (kPa2 g i m Z j S)
  | _ => False
def kPa0 (g : Int → Int → Int) (i : Nat) (mi m : ME) (Z : MEnds) (S : Fm) (_ : List D) : Prop := mi Z.ex (kPa1 g i m Z) S
def sPutA (g : Int → Int → Int) (i : Nat) (mi m : ME) : MS := fun Z S => luQ S i (kPa0 g i mi m Z S)
section
variable {X : Cx} {cl : Nat → Addr} {W : WX} {pin : List Nat} {o ix e : Expr} {mi m : ME} {i : Nat} {tpos pos : Pos} {op : Operator} {g : Int → Int → Int}
theorem kPutA (hop : PIp X op (ipI g)) (ho : PE X o (tVar i)) (hi : PM X cl W pin ix mi) (he : PM X cl W pin e m)
    (ha : ∀ ov iv new, augStore ix ov iv new = (do holding [new, ov, iv] (setItem ov iv new); release [new, ov, iv] []; pure .next) := by intros; rfl) : PMS X cl W pin (.AugAssign (.Subscript o ix tpos) op e pos) (sPutA g i mi m) :=
  PS.imp (ps_augS ho hi get_list he hop set_list ha) fun D σ H h => by
    obtain ⟨S, F, fp, D0, E, ⟨xs0, g0, h2⟩, gl⟩ := LS.iff.mp h
    obtain ⟨p, ws, h3, h4, _⟩ := E.lstAt g0
    refine ⟨_, h3, LE.mk E h2 gl.ex fun r S1 v F1 H1 fp1 q1 st1 e1 rr x1 => ?_⟩
    match r, q1, rr with
    | .val (.int j), ⟨xs, g1, h0, y, hy, q2⟩, rr =>
      have ev : v = .int j := by have w : Rep X.K cl F1 (.int j) v := rr; rwa [Rep] at w
      subst ev
      obtain ⟨p1, ws1, j1, j2, j3⟩ := e1.lstAt g1
      rw [h3] at j1; cases j1
      obtain ⟨u, hu1, hu2⟩ := j3.atI hy
      rw [Rep] at hu2
      subst hu2
      refine ⟨p, ws1, j, _, rfl, rfl, h0, j2, hu1, LE.mk e1 q2 (gl.ex.step st1 fun _ _ => rfl) fun r2 S2 v2 F2 H2 fp2 q3 st2 e2 rr2 x2 => ?_⟩
      match r2, q3, rr2 with
      | .val (.int z), ⟨xs2, g2, l, hl, q4⟩, rr2 =>
        have ez : v2 = .int z := by have w : Rep X.K cl F2 (.int z) v2 := rr2; rwa [Rep] at w
        subst ez
        refine ⟨y, z, rfl, rfl, ?_⟩
        obtain ⟨p2, ws2, k1, k2, k3⟩ := e2.lstAt g2
        rw [h3] at k1; cases k1
        obtain ⟨m1, m2⟩ := e2.putL g2 h3 (RepL.setAt l k3 (show Rep X.K cl F2 (.int (g y z)) (.int (g y z)) by rw [Rep]))
        exact ⟨p, ws2, j, l, rfl, rfl, k2, by rw [← k3.length]; exact hl, gl.nx _ q4 σ F2 _ fp2 (fun _ _ => rfl) ((st1.trans st2).trans m2) m1⟩
end
end Mv

/-! Mv: dicts walked (locked meanwhile), displayed, popped; sorted texts. -/
namespace Mv
open PySem L2
def keyDD : Key → D
  | .inl i => .int i
  | .inr x => .str x
def keysD (kvs : List (Key × D)) : List D := kvs.map fun kv => keyDD kv.1
/-- alike but for a dict's lock -/
def sam (o o' : HO) : Prop := o = o' ∨ ∃ ws, dks o = some ws ∧ dks o' = some ws
def LkR (F G : Hp) : Prop := ∀ b o, F b = some o → ∃ o', G b = some o' ∧ sam o o'
theorem LkR.at {F G : Hp} (e : LkR F G) {a : Addr} {o : HO} (h : F a = some o) (n : dks o = none) : G a = some o := by
  obtain ⟨o', h1, h2⟩ := e a o h
  rcases h2 with rfl | ⟨ws, h2, _⟩
  · exact h1
  · rw [n] at h2; cases h2
theorem LkR.sqt {K : PySem.W.Frag} {F G : Hp} {a : Addr} {xs : List V} (e : LkR F G) (h : SqT K F a xs) : SqT K G a xs := by
  rcases h with (h | ⟨o, h⟩) | h
  · exact .inl (.inl (e.at h rfl))
  · exact .inl (.inr ⟨o, e.at h rfl⟩)
  · exact .inr h
theorem LkR.sql {K : PySem.W.Frag} {F G : Hp} {a : Addr} {xs : List V} (e : LkR F G) (h : SqL K F a xs) : SqL K G a xs := by
  rcases h with (h | ⟨o, h⟩) | h
  · exact .inl (.inl (e.at h rfl))
  · exact .inl (.inr ⟨o, e.at h rfl⟩)
  · exact .inr h
section
variable {K : PySem.W.Frag} {cl : Nat → Addr} {F G H H' : Hp}
mutual
theorem Rep.lk (e : LkR F G) : ∀ (d : D) (v : V), Rep K cl F d v → Rep K cl G d v
  | .non, _, h => h
  | .bl _, _, h => h
  | .int _, _, h => h
  | .str _, _, h => h
  | .tup xs, _, ⟨a, vs, h1, h2, h3⟩ => ⟨a, vs, h1, e.at h2 rfl, RepL.lk e xs vs h3⟩
  | .rot xs, _, ⟨a, vs, h1, h2, h3⟩ => ⟨a, vs, h1, e.sqt h2, RepL.lk e xs vs h3⟩
  | .lst xs, _, ⟨a, vs, h1, h2, h3⟩ => ⟨a, vs, h1, e.at h2 rfl, RepL.lk e xs vs h3⟩
  | .rol xs, _, ⟨a, vs, h1, h2, h3⟩ => ⟨a, vs, h1, e.sql h2, RepL.lk e xs vs h3⟩
  | .dK kvs, _, ⟨a, o, ws, h1, h2, h4, h3⟩ => by
    obtain ⟨o', g1, g2⟩ := e a o h2
    refine ⟨a, o', ws, h1, g1, ?_, RepK.lk e kvs ws h3⟩
    rcases g2 with rfl | ⟨ws', g2, g3⟩
    · exact h4
    · rw [h4] at g2; cases g2; exact g3
  | .dT kvs, _, ⟨a, ws, h1, h2, h3⟩ => ⟨a, ws, h1, e.at h2 rfl, RepT.lk e kvs ws h3⟩
  | .obj c fs, _, ⟨a, dx, ws, h1, h2, h3⟩ => ⟨a, dx, ws, h1, e.at h2 rfl, RepF.lk e fs ws h3⟩
  | .ty n, _, h => h
  | .cls n, _, h => h
  | .exo a dx fs, _, ⟨h1, ws, h2, h3⟩ => ⟨h1, ws, e.at h2 rfl, RepF.lk e fs ws h3⟩
  | .err c fs, _, ⟨a, dx, ws, h1, h0, h2, h3⟩ => ⟨a, dx, ws, h1, e.at h0 rfl, e.at h2 rfl, RepF.lk e fs ws h3⟩
  | .fn f c o u cv d, _, ⟨h1, h2, h3, h4, h5, h6⟩ => ⟨h1, e.at h2 h5, e.at h3 h6, Rep.lk e d cv h4, h5, h6⟩
theorem RepL.lk (e : LkR F G) : ∀ (ds : List D) (vs : List V), RepL K cl F ds vs → RepL K cl G ds vs
  | [], _, h => h
  | d :: ds, _, ⟨v, r, h1, h2, h3⟩ => ⟨v, r, h1, Rep.lk e d v h2, RepL.lk e ds r h3⟩
theorem RepK.lk (e : LkR F G) : ∀ (ds : List (Key × D)) (vs : List (Key × V)), RepK K cl F ds vs → RepK K cl G ds vs
  | [], _, h => h
  | (k, d) :: ds, _, ⟨v, r, h1, h2, h3⟩ => ⟨v, r, h1, Rep.lk e d v h2, RepK.lk e ds r h3⟩
theorem RepT.lk (e : LkR F G) : ∀ (ds : List (List Key × D)) (vs : List (List Key × V)), RepT K cl F ds vs → RepT K cl G ds vs
  | [], _, h => h
  | (k, d) :: ds, _, ⟨v, r, h1, h2, h3⟩ => ⟨v, r, h1, Rep.lk e d v h2, RepT.lk e ds r h3⟩
theorem RepF.lk (e : LkR F G) : ∀ (ds : List (Str × D)) (vs : List (Str × V)), RepF K cl F ds vs → RepF K cl G ds vs
  | [], _, h => h
  | (k, d) :: ds, _, ⟨v, r, h1, h2, h3⟩ => ⟨v, r, h1, Rep.lk e d v h2, RepF.lk e ds r h3⟩
end
mutual
theorem CelE.lk (e : LkR F G) : ∀ (x : El) (v : V) (fp : List Addr), CelE K cl F H x v fp → (∀ a ∈ fp, H' a = H a) → CelE K cl G H' x v fp
  | .d x, v, fp, h, hh => by rw [CelE] at h ⊢; exact ⟨h.1, Rep.lk e x v h.2⟩
  | .n kd es, v, fp, h, hh => by
    rw [CelE] at h ⊢
    obtain ⟨p, fq, vs, rfl, rfl, h1, h2⟩ := h
    exact ⟨p, fq, vs, rfl, rfl, h1.mono (hh p (by simp)), CelEs.lk e es vs fq h2 fun a ha => hh a (List.mem_cons_of_mem _ ha)⟩
theorem CelEs.lk (e : LkR F G) : ∀ (xs : List El) (vs : List V) (fp : List Addr), CelEs K cl F H xs vs fp → (∀ a ∈ fp, H' a = H a) → CelEs K cl G H' xs vs fp
  | [], vs, fp, h, hh => by rw [CelEs] at h ⊢; exact h
  | x :: xs, vs, fp, h, hh => by
    rw [CelEs] at h ⊢
    obtain ⟨v, r, f1, f2, rfl, rfl, h1, h2⟩ := h
    exact ⟨v, r, f1, f2, rfl, rfl, CelE.lk e x v f1 h1 fun a ha => hh a (List.mem_append_left _ ha), CelEs.lk e xs r f2 h2 fun a ha => hh a (List.mem_append_right _ ha)⟩
end
theorem CellR.lk {o : O} {p : Addr} {fq : List Addr} (h : CellR K cl F H o p fq) (e : LkR F G) (hh : ∀ a ∈ fq, H' a = H a) : CellR K cl G H' o p fq := by
  cases o with
  | lst xs => obtain ⟨rfl, vs, h1, h2⟩ := h; exact ⟨rfl, vs, by rw [hh p (by simp)]; exact h1, h2.lk e⟩
  | dK xs => obtain ⟨rfl, vs, h1, h2⟩ := h; exact ⟨rfl, vs, by rw [hh p (by simp)]; exact h1, h2.lk e⟩
  | dT xs => obtain ⟨rfl, vs, h1, h2⟩ := h; exact ⟨rfl, vs, by rw [hh p (by simp)]; exact h1, h2.lk e⟩
  | obj c xs => obtain ⟨rfl, dx, vs, h1, h2⟩ := h; exact ⟨rfl, dx, vs, by rw [hh p (by simp)]; exact h1, h2.lk e⟩
  | box kd es => exact ⟨h.1, CelE.lk e _ _ _ h.2 hh⟩
  | two d xs => obtain ⟨q, v, vs, rfl, h0, hv, h1, h2⟩ := h; exact ⟨q, v, vs, rfl, e.at h0 rfl, hv.lk e, by rw [hh q (by simp)]; exact h1, h2.lk e⟩
variable {σ : L2.St} {S : Fm} {fp : Nat → List Addr} {a : Addr} {od : Obj} {ws : List (Key × V)}
theorem LkR.of {o o' : HO} (h : F a = some o) (s : sam o o') : LkR F (upd F a o') := fun b u e => by
  by_cases z : b = a
  · subst z
    rw [h] at e; cases e
    exact ⟨o', upd_same, s⟩
  · exact ⟨u, by rw [upd_ne z]; exact e, .inl rfl⟩
/-- a thing that stands still changes its lock -/
theorem EnvR.relk {o o' : HO} (E : EnvR K cl F H σ S fp) (h : F a = some o) (s : sam o o') : EnvR K cl (upd F a o') (upd H a o') σ S fp := by
  have lk : LkR F (upd F a o') := LkR.of h s
  have out : ∀ i u, S[i]? = some (Sl.ow u) → ∀ b ∈ fp i, b ≠ a := fun i u hi b hb z => by
    have := E.nf i u hi b hb
    rw [z, h] at this; cases this
  refine ⟨fun b u e => ?_, E.len, fun i d hi => ?_, fun i u hi => ?_, fun i u hi b hb => ?_, E.dj, E.tb.stay (fun b u e q z => ?_) fun b u e q => ?_⟩
  · by_cases z : b = a
    · subst z; rw [upd_same] at e ⊢; exact e
    · rw [upd_ne z] at e ⊢; exact E.sub b u e
  · obtain ⟨v, h1, h2⟩ := E.fz i d hi
    exact ⟨v, h1, Rep.lk lk d v h2⟩
  · obtain ⟨p, h1, h2⟩ := E.ow i u hi
    exact ⟨p, h1, h2.lk lk fun b hb => upd_ne (out i u hi b hb)⟩
  · rw [upd_ne (out i u hi b hb)]; exact E.nf i u hi b hb
  · rw [upd_ne fun w => by rw [w, h] at z; cases z]; exact z
  · by_cases z : b = a
    · subst z
      rw [E.sub _ _ h] at e
      cases e
      rcases s with rfl | ⟨ws, h2, _⟩
      · exact upd_same
      · exfalso
        cases o <;> first | exact q | cases h2
    · rw [upd_ne z]; exact e
/-- unlocked again -/
theorem Stp.unlk {F0 H0 F' H' : Hp} {S0 S' : Fm} {fp0 fp' : Nat → List Addr} {o o' : HO} (s0 : Same F0 H0) (h : F0 a = some o) (st : Stp (upd F0 a o') (upd H0 a o') S0 fp0 F' H' S' fp') (hn : ¬ Ow S0 fp0 a) : Stp F0 H0 S0 fp0 (upd F' a o) (upd H' a o) S' fp' := by
  refine ⟨fun b u e => ?_, fun b u e nt n => ?_, fun b u e nx z n => ?_, fun b q => ?_, fun b q => ?_⟩
  · by_cases z : b = a
    · subst z; rw [h] at e; cases e; exact upd_same
    · rw [upd_ne z]; exact st.ff b u (by rw [upd_ne z]; exact e)
  · by_cases z : b = a
    · subst z; rw [s0 _ _ h] at e; cases e; exact upd_same
    · rw [upd_ne z]; exact st.hh b u (by rw [upd_ne z]; exact e) nt n
  · have ne : b ≠ a := fun w => by rw [w, h] at z; cases z
    rw [upd_ne ne]
    exact st.nn b u (by rw [upd_ne ne]; exact e) nx (by rw [upd_ne ne]; exact z) n
  · rcases st.oo b q with w | w
    · exact .inl w
    · by_cases z : b = a
      · subst z; rw [upd_same] at w; cases w
      · rw [upd_ne z] at w; exact .inr w
  · by_cases z : b = a
    · subst z; rw [upd_same] at q; cases q
    · rw [upd_ne z] at q
      have := st.th b q
      rwa [upd_ne z] at this
theorem RelR.unlk {H0 F' H' : Hp} {S0 S' : Fm} {fp0 fp' : Nat → List Addr} {o o' : HO} {r : R} {v : V} (h' : F' a = some o') (s : sam o' o) (rr : RelR K cl (upd H0 a o') S0 fp0 F' H' σ S' fp' r v) : RelR K cl H0 S0 fp0 (upd F' a o) (upd H' a o) σ S' fp' r v := by
  have lk : LkR F' (upd F' a o) := LkR.of h' s
  cases r with
  | val d => exact Rep.lk lk d v rr
  | own u =>
    obtain ⟨p, fq, e, c, hq⟩ := rr
    have ne : ∀ b ∈ fq, b ≠ a := fun b hb z => by
      have := (hq b hb).1
      rw [z, h'] at this; cases this
    refine ⟨p, fq, e, c.lk lk fun b hb => upd_ne (ne b hb), fun b hb => ⟨by rw [upd_ne (ne b hb)]; exact (hq b hb).1, (hq b hb).2.1, ?_⟩⟩
    rcases (hq b hb).2.2 with w | w
    · rw [upd_ne (ne b hb)] at w; exact .inl w
    · exact .inr w
  | slot i => exact rr
theorem RepK.keys : ∀ {ds : List (Key × D)} {ws : List (Key × V)} {i : Nat} {k : Key} {v : V}, RepK K cl F ds ws → ws[i]? = some (k, v) → ∃ d, ds[i]? = some (k, d) ∧ Rep K cl F d v
  | [], _, _, _, _, h, e => by rw [RepK] at h; subst h; simp at e
  | (j, d) :: ds, _, 0, k, v, h, e => by
    rw [RepK] at h
    obtain ⟨u, r, rfl, h1, h2⟩ := h
    simp at e
    obtain ⟨rfl, rfl⟩ := e
    exact ⟨d, rfl, h1⟩
  | (j, d) :: ds, _, i + 1, k, v, h, e => by
    rw [RepK] at h
    obtain ⟨u, r, rfl, h1, h2⟩ := h
    obtain ⟨x, g1, g2⟩ := RepK.keys (i := i) h2 (by simpa using e)
    exact ⟨x, by simpa using g1, g2⟩
theorem itd_keys {ds : List (Key × D)} (h : F a = some (.frz od (.dK ws))) (r : RepK K cl F ds ws) : ItD K cl F (Itk a od ws) (keysD ds) := fun i G H s1 s2 => by
  have e := s2 _ _ (s1 _ _ h)
  have l : (keysD ds).length = ws.length := by unfold keysD; rw [List.length_map, r.length]
  refine ⟨fun hi => ⟨⟨e, by omega⟩, fun x H' ⟨e1, k, v, e2, e3⟩ => ?_⟩, fun hi => ⟨e, by omega⟩⟩
  subst e1
  obtain ⟨d, g1, g2⟩ := r.keys e2
  refine ⟨G, keyDD k, by unfold keysD; rw [List.getElem?_map, g1]; rfl, Small.refl s2, ?_⟩
  subst e3
  cases k with
  | inl i => rw [keyDD, Rep]; rfl
  | inr x => rw [keyDD, Rep]; rfl
end

/-! ### the rules -/
def NoFrz (X : Cx) (a : Addr) : Prop := ∀ o' u', X.H_0 a ≠ some (.frz o' u')
/-- what is wanted, or what is wanted behind an unlocking -/
def unQ (X : Cx) (Q : Hp → Prop) (H' : Hp) : Prop := Q H' ∨ ∃ d od u, H' d = some (.frz od u) ∧ NoFrz X d ∧ Q (upd H' d u)
def tUnl (X : Cx) (t : TS) : TS := fun D σ H => t ⟨fun σ' H' => unQ X (D.nx σ') H', fun v H' => unQ X (D.rt v) H', fun σ' H' => unQ X (D.bk σ') H', fun σ' H' => unQ X (D.ct σ') H'⟩ σ H
def tUnlE (X : Cx) (t : TE) : TE := fun σ H Q => t σ H fun v H' => unQ X (Q v) H'
def tKeysL (X : Cx) (te : TE) : TI := fun σ H R => te σ H fun v H1 => ∃ a, v = .ref a ∧ ((∃ kvs, H1 a = some (.dK kvs) ∧ ∀ od, NoFrz X a → R (Itk a od kvs) (upd H1 a (.frz od (.dK kvs)))) ∨ ∃ od kvs, H1 a = some (.frz od (.dK kvs)) ∧ R (Itk a od kvs) H1)
section
variable {X : Cx}
theorem ps_unl {st : Stmt} {t : TS} (h : PS X st t) : PS X st (tUnl X t) := by
  refine ⟨fun pins s σ H D I hw => ?_⟩
  refine thn (h.run pins s σ _ _ I hw) fun f s1 q => ?_
  have go : ∀ {σ' : L2.St} {H' : Hp} {Q : Hp → Prop}, Inv X pins σ' H' s1 → unQ X Q H' → ∃ H2, Inv X pins σ' H2 s1 ∧ Q H2 := fun {σ' H' Q} I2 q => by
    rcases q with q | ⟨d, od, u, e, n, q⟩
    · exact ⟨H', I2, q⟩
    · exact ⟨_, I2.unlock e n, q⟩
  cases f with
  | next => obtain ⟨σ', H', I2, q⟩ := q; obtain ⟨H2, I3, q⟩ := go I2 q; exact ⟨σ', H2, I3, q⟩
  | brk => obtain ⟨σ', H', I2, q⟩ := q; obtain ⟨H2, I3, q⟩ := go I2 q; exact ⟨σ', H2, I3, q⟩
  | cont => obtain ⟨σ', H', I2, q⟩ := q; obtain ⟨H2, I3, q⟩ := go I2 q; exact ⟨σ', H2, I3, q⟩
  | ret v => obtain ⟨x, σ', H', I2, r, q⟩ := q; obtain ⟨H2, I3, q⟩ := go I2 q; exact ⟨x, σ', H2, I3, r, q⟩
theorem pe_unl {e : Expr} {t : TE} (h : PE X e t) : PE X e (tUnlE X t) := by
  refine ⟨fun pins s σ H Q I hw => ?_⟩
  refine thn (h.run pins s σ _ _ I hw) fun v s1 ⟨x, H1, I2, r, q⟩ => ?_
  rcases q with q | ⟨d, od, u, e, n, q⟩
  · exact ⟨x, H1, I2, r, q⟩
  · exact ⟨x, _, I2.unlock e n, r, q⟩
theorem pi_keysL {tg e : Expr} {td : TE} (he : PE X e td) : PI X tg e (tKeysL X td) := by
  refine ⟨fun pins s σ H R I h => ?_⟩
  refine thn (he.run pins s σ H _ I h) fun u s1 ⟨x, H1, I1, rx, a, ex, q⟩ => ?_
  subst ex
  obtain rfl : u = Value.ref a := rx
  have go : ∀ {H2 : Hp} {od : Obj} {kvs : List (Key × V)}, Inv X pins σ H2 s1 → H2 a = some (.frz od (.dK kvs)) → R (Itk a od kvs) H2 → wpAny (model X.prog X.w) X.A (pyIter (.ref a)) (PIE X pins σ tg R) X.xe s1 := fun {H2 od kvs} I2 hd q => by
    obtain ⟨hs, hgd, hx, es, ep, vs, hdt, hsz, kv, hm⟩ := I2.frzK hd
    refine iter_keys hs hgd hx hdt (pi_one (tk := s1.toks) I2 _ (turn_keys _ hdt) ⟨_, Heap.get?_push_size _ rfl, rfl, ?_⟩ q)
    rw [hsz] <;> rfl
  rcases q with ⟨kvs, hd, q⟩ | ⟨od, kvs, hd, q⟩
  · obtain ⟨od, I2⟩ := I1.lock hd True.intro
    exact go I2 upd_same (q od (I1.nofrz hd True.intro))
  · exact go I1 hd q
end
section
variable {X : Cx} {cl : Nat → Addr} {W : WX} {pin : List Nat} {tg it e : Expr} {body : List Stmt} {me : ME} {mi : MI} {g : MG} {mb : MS} {pos : Pos} {j : Nat}
/-- the heart of a for -/
theorem for_core {K : PySem.W.Frag} {D0 : MEnds} {Dn : Ends} {J : It} {ds : List D} {σ : L2.St} {F H : Hp} {S : Fm} {fp : Nat → List Addr} (hJ : ItD K cl F J ds) (E : EnvR K cl F H σ S fp) (w : forW g mb D0 ds S) (gl : Goal K cl W pin σ F H S fp D0 Dn) :
    ∃ Wv : Nat → Nat → L2.St → Hp → Prop, (∃ m, Wv 0 m σ H) ∧ ∀ i m σ H, Wv i m σ H →
      (J.stop i H ∧ Dn.nx σ H) ∨ (J.go i H ∧ ∃ N : L2.St → Hp → Prop, (∀ σ' H', N σ' H' → ∃ m', m' < m ∧ Wv (i + 1) m' σ' H') ∧ ∀ x H', J.yld i H x H' → LG K cl pin g x σ H' fun σ2 H2 => LS K cl W pin mb { Dn with nx := N, ct := N, bk := Dn.nx } σ2 H2) := by
  refine ⟨fun i m σ' H' => m = ds.length - i ∧ i ≤ ds.length ∧ ∃ S' F' fp', (∀ i ∈ pin, σ'[i]? = σ[i]?) ∧ Stp F H S fp F' H' S' fp' ∧ EnvR K cl F' H' σ' S' fp' ∧ forW g mb D0 (ds.drop i) S', ⟨_, rfl, Nat.zero_le _, S, F, fp, fun _ _ => rfl, Stp.refl, E, by rw [List.drop_zero]; exact w⟩, ?_⟩
  rintro i m σ2 H2 ⟨rfl, hi, S2, F2, fp2, p2, st2, e2, w2⟩
  obtain ⟨go, stop⟩ := hJ i F2 H2 st2.ff e2.sub
  by_cases hlt : i < ds.length
  · obtain ⟨g1, g2⟩ := go hlt
    refine .inr ⟨g1, fun σ' H' => ∃ m', m' < ds.length - i ∧ (m' = ds.length - (i + 1) ∧ i + 1 ≤ ds.length ∧ ∃ S' F' fp', (∀ i ∈ pin, σ'[i]? = σ[i]?) ∧ Stp F H S fp F' H' S' fp' ∧ EnvR K cl F' H' σ' S' fp' ∧ forW g mb D0 (ds.drop (i + 1)) S'), fun _ _ z => z, fun x H3 y => ?_⟩
    obtain ⟨G3, d, hd, sm, rx⟩ := g2 x H3 y
    have e3 := e2.small sm
    have st3 := st2.trans (sm.step (S := S2) (fp := fp2))
    have hdr : ds.drop i = d :: ds.drop (i + 1) := by
      obtain ⟨hl, e⟩ := List.getElem?_eq_some_iff.mp hd
      rw [← e]; exact List.drop_eq_getElem_cons hl
    rw [hdr] at w2
    refine ⟨S2, G3, fp2, d, _, e3, rx, w2, fun S4 q4 σ4 p4 st4 e4 => ?_⟩
    have gl4 := gl.step (st3.trans st4) (fun i hi => (p4 i hi).trans (p2 i hi))
    have again : ∀ S', forW g mb D0 (ds.drop (i + 1)) S' → ∀ σ' F' H' fp', (∀ i ∈ pin, σ'[i]? = σ4[i]?) → Stp G3 H3 S4 fp2 F' H' S' fp' → EnvR K cl F' H' σ' S' fp' →
        ∃ m', m' < ds.length - i ∧ (m' = ds.length - (i + 1) ∧ i + 1 ≤ ds.length ∧ ∃ S' F' fp', (∀ i ∈ pin, σ'[i]? = σ[i]?) ∧ Stp F H S fp F' H' S' fp' ∧ EnvR K cl F' H' σ' S' fp' ∧ forW g mb D0 (ds.drop (i + 1)) S') := fun S' w' σ' F' H' fp' p st e =>
      ⟨ds.length - (i + 1), by omega, rfl, hlt, S', F', fp', fun i hi => (p i hi).trans ((p4 i hi).trans (p2 i hi)), (st3.trans st4).trans st, e, w'⟩
    exact LS.iff.mpr ⟨S4, G3, fp2, _, e4, q4, ⟨gl4.ex, again, gl4.nx, again, gl4.rt⟩⟩
  · have hdr : ds.drop i = [] := List.drop_eq_nil_of_le (by omega)
    rw [hdr] at w2
    exact .inl ⟨stop (by omega), gl.nx S2 w2 σ2 F2 H2 fp2 p2 st2 e2⟩
/-- for x in a dict -/
def sForK (me : ME) (g : MG) (b : MS) : MS := fun Z S => me Z.ex (fun r S1 => match fzR r with
  | .val (.dK kvs) => forW g b { Z with ex := noE } (keysD kvs) S1
  | _ => False) S
theorem kForK (gd : Good X W j) (he : PM X cl W pin it me) (hg : PMG X cl pin tg g) (hb : PMSs X cl W pin body mb) (hs : ∀ x, foldedSetIterable it X.env x = pure x := by intro _; rfl) : PMS X cl W pin (.For tg it body [] pos) (sForK me g mb) :=
  PS.imp (ps_unl (ps_for gd.pass gd.calm (pi_keysL he) hg hb hs)) fun D σ H h => by
    obtain ⟨S, F, fp, D0, E, h2, gl⟩ := LS.iff.mp h
    refine LE.mk E h2 gl.ex fun r S1 v F1 H1 fp1 q1 st1 e1 rr x1 => ?_
    obtain ⟨G1, e1', st1', sg, ra1⟩ := RelR.ready e1 st1 rr
    cases hr : fzR r with
    | val d =>
      simp only [hr] at q1 ra1
      have ra : Rep X.K cl G1 d v := ra1
      cases d with
      | dK kvs =>
        rw [Rep] at ra
        obtain ⟨a, o, ws, rfl, ha, ho, rk⟩ := ra
        have gl1 := gl.step st1' (fun _ _ => rfl)
        refine ⟨a, rfl, ?_⟩
        have cases : o = .dK ws ∨ ∃ od, o = .frz od (.dK ws) := by
          unfold dks at ho
          split at ho
          · cases ho; exact .inl rfl
          · cases ho; exact .inr ⟨_, rfl⟩
          · cases ho
        have noEx : ∀ {σ' F' H' S' fp'}, Exl X.K cl W pin σ' F' H' S' fp' noE := fun {_ _ _ _ _} _ _ q => q.elim
        rcases cases with rfl | ⟨od, rfl⟩
        · refine .inl ⟨ws, e1'.sub _ _ ha, fun od nf => ?_⟩
          have sm : sam (.dK ws) (.frz od (.dK ws)) := .inr ⟨ws, rfl, rfl⟩
          have sm' : sam (.frz od (.dK ws)) (.dK ws) := .inr ⟨ws, rfl, rfl⟩
          have e2 := e1'.relk ha sm
          have noA : ¬ Ow S1 fp1 a := fun q => by have := (e1'.owned q).1; rw [ha] at this; cases this
          refine for_core (D0 := { D0 with ex := noE }) (itd_keys upd_same (RepK.lk (LkR.of ha sm) _ _ rk)) e2 q1 ⟨noEx, fun S' q σ' F' H' fp' p st e => ?_, fun S' q σ' F' H' fp' p st e => ?_, fun S' q σ' F' H' fp' p st e => ?_, fun r S' q v σ' F' H' fp' p st e rr => ?_⟩
          · have fa := st.ff _ _ upd_same
            exact .inr ⟨a, od, _, e.sub _ _ fa, nf, gl1.nx S' q σ' _ _ fp' p (st.unlk e1'.sub ha noA) (e.relk fa sm')⟩
          · have fa := st.ff _ _ upd_same
            exact .inr ⟨a, od, _, e.sub _ _ fa, nf, gl1.bk S' q σ' _ _ fp' p (st.unlk e1'.sub ha noA) (e.relk fa sm')⟩
          · have fa := st.ff _ _ upd_same
            exact .inr ⟨a, od, _, e.sub _ _ fa, nf, gl1.ct S' q σ' _ _ fp' p (st.unlk e1'.sub ha noA) (e.relk fa sm')⟩
          · have fa := st.ff _ _ upd_same
            exact .inr ⟨a, od, _, e.sub _ _ fa, nf, gl1.rt r S' q v σ' _ _ fp' p (st.unlk e1'.sub ha noA) (e.relk fa sm') (rr.unlk fa sm')⟩
        · refine .inr ⟨od, ws, e1'.sub _ _ ha, ?_⟩
          refine for_core (D0 := { D0 with ex := noE }) (itd_keys ha rk) e1' q1 ⟨noEx, fun S' q σ' F' H' fp' p st e => .inl (gl1.nx S' q σ' F' H' fp' p st e), fun S' q σ' F' H' fp' p st e => .inl (gl1.bk S' q σ' F' H' fp' p st e), fun S' q σ' F' H' fp' p st e => .inl (gl1.ct S' q σ' F' H' fp' p st e), fun r S' q v σ' F' H' fp' p st e rr => .inl (gl1.rt r S' q v σ' F' H' fp' p st e rr)⟩
      | _ => exact q1.elim
    | own o => simp only [hr] at q1
    | slot i => simp only [hr] at q1
theorem lc_core' {K : PySem.W.Frag} {n : Nat} {vs : List Nat} {g : MG} {mt : MT} {me : ME} {σ : L2.St} {F1 H1 : Hp} {S1 : Fm} {fp1 : Nat → List Addr} {J : It} {ds : List D} {Kk : List D → Fm → Prop} {Q : VK} (e1 : EnvR K cl F1 H1 σ S1 fp1) (hJ : ItD K cl F1 J ds) (hn : S1.length = n) (hno : noOw S1 vs) (w : lcW n vs g mt me ds [] (wipeS S1 vs) Kk)
    (k : ∀ acc S2, Kk acc S2 → ∀ D F2 H2 fp2, Stp F1 H1 S1 fp1 F2 H2 (resS S1 vs S2) fp2 → EnvR K cl F2 H2 σ (resS S1 vs S2) fp2 → RelR K cl H1 S1 fp1 F2 H2 σ (resS S1 vs S2) fp2 (.own (.lst acc)) (.ref D) → Q (.ref D) H2) :
    ∀ D, H1 D = none → ∃ W : Nat → Nat → Hp → Prop, (∃ m, W 0 m (upd H1 D (.lst []))) ∧ ∀ i m H, W i m H →
      (J.stop i H ∧ Q (.ref D) H) ∨ (J.go i H ∧ ∃ Nx : Hp → Prop, (∀ H', Nx H' → ∃ m', m' < m ∧ W (i + 1) m' H') ∧ ∀ x H', J.yld i H x H' → LG K cl (pinC n vs) g x (L2.wipe σ vs) H' fun σ2 H2 => L2.wipe σ2 vs = L2.wipe σ vs ∧ LT K cl noW [] mt σ2 H2 fun b H3 =>
        if b = true then LE K cl noW [] me σ2 H3 fun y H4 => ∃ acc, H4 D = some (.lst acc) ∧ acc.length < sizeLine ∧ Nx (upd H4 D (.lst (acc ++ [y]))) else Nx H3) := by
  intro D hD
  have f1D : F1 D = none := by
    cases hz : F1 D with
    | none => rfl
    | some z => rw [e1.sub _ _ hz] at hD; cases hD
  have noD : ¬ Ow S1 fp1 D := fun q => by obtain ⟨_, u, hu⟩ := e1.owned q; rw [hD] at hu; cases hu
  refine ⟨fun i m H' => m = ds.length - i ∧ i ≤ ds.length ∧ ∃ S' F' fp' acc ws, Stp F1 H1 S1 fp1 F' H' S' fp' ∧ EnvR K cl F' H' (L2.wipe σ vs) S' fp' ∧ S'.length = n ∧ Held F' H' S' fp' D (.lst ws) ∧ RepL K cl F' acc ws ∧
    lcW n vs g mt me (ds.drop i) acc S' Kk, ⟨_, rfl, Nat.zero_le _, wipeS S1 vs, F1, fp1, [], [], (Stp.refl.wipe vs).updOut hD, (e1.wipe vs).updOut f1D (fun q => noD q.wipe), by rw [wipeS_length]; exact hn,
      ⟨upd_same, f1D, fun q => noD q.wipe, fun z => z⟩, .nil, by rw [List.drop_zero]; exact w⟩, ?_⟩
  rintro i m H2 ⟨rfl, hi, S2, F2, fp2, acc, ws, st2, e2, hl2, hd2, r2, w2⟩
  obtain ⟨go, stop⟩ := hJ i F2 H2 st2.ff e2.sub
  by_cases hlt : i < ds.length
  · obtain ⟨g1, g2⟩ := go hlt
    refine .inr ⟨g1, fun H' => ∃ m', m' < ds.length - i ∧ (m' = ds.length - (i + 1) ∧ i + 1 ≤ ds.length ∧ ∃ S' F' fp' acc ws, Stp F1 H1 S1 fp1 F' H' S' fp' ∧ EnvR K cl F' H' (L2.wipe σ vs) S' fp' ∧ S'.length = n ∧ Held F' H' S' fp' D (.lst ws) ∧ RepL K cl F' acc ws ∧
      lcW n vs g mt me (ds.drop (i + 1)) acc S' Kk), fun _ z => z, fun y H3 hy => ?_⟩
    obtain ⟨G3, d, hd, sm, rx⟩ := g2 y H3 hy
    have e3 := e2.small sm
    have st3 := st2.trans (sm.step (S := S2) (fp := fp2))
    have hd3 := hd2.step (sm.step (S := S2) (fp := fp2))
    have hdr : ds.drop i = d :: ds.drop (i + 1) := by
      obtain ⟨hl, e⟩ := List.getElem?_eq_some_iff.mp hd
      rw [← e]; exact List.drop_eq_getElem_cons hl
    rw [hdr, lcW] at w2
    refine ⟨S2, G3, fp2, d, _, e3, rx, w2, fun S4 q4 σ4 p4 st4 e4 => ?_⟩
    obtain ⟨l4, q4⟩ := q4
    have hw : L2.wipe σ4 vs = L2.wipe σ vs := wipe_again (n := n) (by rw [← e1.len]; exact hn) (by rw [← e4.len]; exact l4) p4
    have s3 := r2.mono sm.ff
    refine ⟨hw, LT.mk e4 q4 exl_no fun b S5 F5 H5 fp5 q5 st5 e5 x5 => ?_⟩
    have st35 := (st3.trans st4).trans st5
    have hd5 := (hd3.step st4).step st5
    have r5 := (s3.mono st4.ff).mono st5.ff
    cases b with
    | false =>
      simp only [Bool.false_eq_true, if_false] at q5 ⊢
      refine ⟨ds.length - (i + 1), by omega, rfl, hlt, wipeS S5 vs, F5, fp5, acc, ws, st35.wipe vs, by rw [← hw]; exact e5.wipe vs, ?_, ⟨hd5.hd, hd5.fn, fun q => hd5.no q.wipe, hd5.nt⟩, r5, q5⟩
      have z := (e5.wipe vs).len
      rw [z, L2.wipe_length, ← e4.len]; exact l4
    | true =>
      simp only [if_true] at q5 ⊢
      refine LE.mk e5 q5 exl_no fun r S6 v F6 H6 fp6 q6 st6 e6 rr x6 => ?_
      obtain ⟨G6, e6', st6', sg, ra⟩ := RelR.ready e6 st6 rr
      cases hr : fzR r with
      | val y =>
        simp only [hr] at q6 ra
        have ra' : Rep K cl G6 y v := ra
        have hd6 := hd5.step st6'
        have r6 := r5.mono st6'.ff
        refine ⟨ws, hd6.hd, by rw [sizeLine_eq, ← r6.length]; exact q6.1, ds.length - (i + 1), by omega, rfl, hlt, wipeS S6 vs, G6, fp6, acc ++ [y], ws ++ [v], ((st35.trans st6').wipe vs).updOut hD, ?_, ?_, ⟨upd_same, hd6.fn, fun q => hd6.no q.wipe, fun z => z⟩, r6.app (.cons ra' .nil), q6.2⟩
        · rw [← hw]
          exact (e6'.wipe vs).updOut hd6.fn fun q => hd6.no q.wipe
        · have z := (e6'.wipe vs).len
          rw [z, L2.wipe_length, ← e4.len]; exact l4
      | own o => simp only [hr] at q6
      | slot i => simp only [hr] at q6
  · have e : i = ds.length := by omega
    subst e
    rw [List.drop_length, lcW] at w2
    refine .inl ⟨stop (Nat.le_refl _), k _ _ w2 _ F2 H2 fp2 ⟨st2.ff, st2.hh, st2.nn, fun a q => st2.oo a (Ow.res hno q), st2.th⟩ (EnvR.res e1 hno st2.ff e2) ⟨D, [D], rfl, ⟨rfl, ws, hd2.hd, r2⟩, fun a ha => ?_⟩⟩
    have ea : a = D := by simpa using ha
    subst ea
    exact ⟨hd2.fn, fun q => hd2.no (Ow.res hno q), .inl hD⟩
/-- [e for x in a dict if t] -/
def mLcK (n : Nat) (vs : List Nat) (md : ME) (g : MG) (mt : MT) (me : ME) : ME := fun E Q S => md E (fun r S1 => match fzR r with
  | .val (.dK kvs) => S1.length = n ∧ noOw S1 vs ∧ lcW n vs g mt me (keysD kvs) [] (wipeS S1 vs) fun acc S2 => Q (.own (.lst acc)) (resS S1 vs S2)
  | _ => False) S
theorem qLcK {elt tg iter : Expr} {ifs : List Expr} {scope : Scope} {own : List (Str × Nat)} {pos : Pos} {n : Nat} {md : ME} {g : MG} {mt : MT} {me : ME} (gd : Good X W j) (hi : PM X cl W pin iter md) (ok : BlkOk X.N X.env.scope scope own)
    (hg : ∀ (s : Shared) (H : Hp) (C : Addr) (cc : List (Str × Addr)) (fp : List Addr), PMG (X.blk s H scope (compEnvC scope cc C X.env) fp) cl (pinC n (own.map (·.2))) tg g)
    (ht : ∀ (s : Shared) (H : Hp) (C : Addr) (cc : List (Str × Addr)) (fp : List Addr), PMTs (X.blk s H scope (compEnvC scope cc C X.env) fp) cl ifs mt)
    (he : ∀ (s : Shared) (H : Hp) (C : Addr) (cc : List (Str × Addr)) (fp : List Addr), Good (X.blk s H scope (compEnvC scope cc C X.env) fp) noW j → PM (X.blk s H scope (compEnvC scope cc C X.env) fp) cl noW [] elt me)
    (hs : ∀ x, foldedSetIterable iter X.env x = pure x := by intro _; rfl) : PM X cl W pin (.ListComp elt [⟨tg, iter, ifs, 0⟩] scope pos) (mLcK n (own.map (·.2)) md g mt me) :=
  PE.imp (pe_unl (pe_lc gd.calm gd.nd (pi_keysL hi) ok hg ht (fun s H C cc fp => he s H C cc fp gd.blk) hs)) fun σ H Q h => by
    obtain ⟨S, F, fp, E0, Q0, E, h2, x, k⟩ := h
    refine LE.mk E h2 x fun r S1 v F1 H1 fp1 q1 st1 e1 rr x1 => ?_
    obtain ⟨G1, e1', st1', sg, ra1⟩ := RelR.ready e1 st1 rr
    cases hr : fzR r with
    | val d =>
      simp only [hr] at q1 ra1
      have ra : Rep X.K cl G1 d v := ra1
      cases d with
      | dK kvs =>
        rw [Rep] at ra
        obtain ⟨a, o, ws, rfl, ha, ho, rk⟩ := ra
        obtain ⟨hn, hno, w⟩ := q1
        refine ⟨a, rfl, ?_⟩
        have cases : o = .dK ws ∨ ∃ od, o = .frz od (.dK ws) := by
          unfold dks at ho
          split at ho
          · cases ho; exact .inl rfl
          · cases ho; exact .inr ⟨_, rfl⟩
          · cases ho
        rcases cases with rfl | ⟨od, rfl⟩
        · refine .inl ⟨ws, e1'.sub _ _ ha, fun od nf => ?_⟩
          have sm : sam (.dK ws) (.frz od (.dK ws)) := .inr ⟨ws, rfl, rfl⟩
          have sm' : sam (.frz od (.dK ws)) (.dK ws) := .inr ⟨ws, rfl, rfl⟩
          have e2 := e1'.relk ha sm
          have noA : ¬ Ow S1 fp1 a := fun q => by have := (e1'.owned q).1; rw [ha] at this; cases this
          refine lc_core' (Q := fun v H' => unQ X (Q v) H') e2 (itd_keys upd_same (RepK.lk (LkR.of ha sm) _ _ rk)) hn hno w fun acc S2 q D F2 H2 fp2 st e rr => ?_
          have fa := st.ff _ _ upd_same
          exact .inr ⟨a, od, _, e.sub _ _ fa, nf, k _ _ q _ _ _ fp2 (st1'.trans (st.unlk e1'.sub ha noA)) (e.relk fa sm') ((rr.unlk fa sm').from st1')⟩
        · refine .inr ⟨od, ws, e1'.sub _ _ ha, ?_⟩
          refine lc_core' (Q := fun v H' => unQ X (Q v) H') e1' (itd_keys ha rk) hn hno w fun acc S2 q D F2 H2 fp2 st e rr => ?_
          exact .inl (k _ _ q _ _ _ fp2 (st1'.trans st) e (rr.from st1'))
      | _ => exact q1.elim
    | own o => simp only [hr] at q1
    | slot i => simp only [hr] at q1
end
end Mv

/-! Mv: dicts displayed, popped; sorted texts. -/
namespace Mv
open PySem L2
def dropKD (kvs : List (Key × D)) (k : Key) : List (Key × D) := kvs.filter fun kv => decide (kv.1 ≠ k)
def mergeKD (kvs more : List (Key × D)) : List (Key × D) := more.foldl (fun acc kv => putKD acc kv.1 kv.2) kvs
section
variable {K : PySem.W.Frag} {cl : Nat → Addr} {F H : Hp}
theorem RepK.drop (k : Key) : ∀ {ds : List (Key × D)} {ws : List (Key × V)}, RepK K cl F ds ws → RepK K cl F (dropKD ds k) (dropK ws k)
  | [], _, h => by rw [RepK] at h; subst h; exact (by show RepK K cl F [] []; rw [RepK])
  | (j, d) :: ds, _, h => by
    rw [RepK] at h
    obtain ⟨v, r, rfl, h1, h2⟩ := h
    have ih := RepK.drop k h2
    unfold dropKD dropK at ih ⊢
    rw [List.filter_cons, List.filter_cons]
    by_cases c : decide ((j, d).1 ≠ k) = true
    · have c' : decide ((j, v).1 ≠ k) = true := c
      rw [if_pos c, if_pos c', RepK]
      exact ⟨v, _, rfl, h1, ih⟩
    · have c' : ¬ decide ((j, v).1 ≠ k) = true := c
      rw [if_neg c, if_neg c']
      exact ih
theorem RepK.merge : ∀ {es ds : List (Key × D)} {us ws : List (Key × V)}, RepK K cl F es us → RepK K cl F ds ws → RepK K cl F (mergeKD ds es) (mergeK ws us)
  | [], ds, _, ws, h, q => by rw [RepK] at h; subst h; exact q
  | (j, d) :: es, ds, _, ws, h, q => by
    rw [RepK] at h
    obtain ⟨v, r, rfl, h1, h2⟩ := h
    show RepK K cl F (mergeKD (putKD ds j d) es) (mergeK (putK ws j v) r)
    exact RepK.merge h2 (RepK.put h1 q)
end
section
variable {X : Cx} {cl : Nat → Addr} {W : WX} {pin : List Nat} {o e : Expr} {m me mi : ME} {i : Nat} {pos apos cpos : Pos}
/-- name.pop(k), name a dict of one's own -/
def mPopK (i : Nat) (me : ME) : ME := fun E Q S => duQ S i fun _ => me E (fun r S1 => match r with
  | .val kd => duQ S1 i fun kvs => ∃ key d, keyD kd = some key ∧ valD kvs key = some d ∧ Q (.val d) (S1.set i (.ow (.dK (dropKD kvs key))))
  | _ => False) S
theorem qPopK (ho : PE X o (tVar i)) (he : PM X cl W pin e me) (mm : M1 X o "pop" apos e cpos) : PM X cl W pin (.Call (.Attribute o "pop" apos) [e] [] cpos) (mPopK i me) :=
  PE.imp (pe_dpop1 ho he mm) fun σ H Q h => by
    obtain ⟨S, F, fp, E0, Q0, E, ⟨xs0, g0, h2⟩, x, k⟩ := h
    obtain ⟨p, ws, h3, h4, _⟩ := E.dkAt g0
    refine ⟨_, h3, p, rfl, .inl ⟨_, .inl h4⟩, LE.mk E h2 x fun r2 S2 v2 F2 H2 fp2 q2 st2 e2 rr2 x2 => ?_⟩
    match r2, q2, rr2 with
    | .val kd, ⟨xs, g1, key, d, g2, g3, g4⟩, rr2 =>
      have ek : v2 = kV key := Pk.key (H := H2) (.inl rr2) g2
      subst ek
      obtain ⟨p1, ws1, j1, j2, j3⟩ := e2.dkAt g1
      rw [h3] at j1; cases j1
      obtain ⟨u, hu, ru⟩ := (j3.val key).2 d g3
      obtain ⟨k1, k2⟩ := e2.putK g1 h3 (j3.drop key)
      exact ⟨ws1, key, u, j2, rfl, hu, k _ _ g4 u F2 _ fp2 (st2.trans k2) k1 ru⟩
/-- {k: v, ..}, the keys texts -/
def mDisp (ks : List Str) (ma : MA) : ME := fun E Q S => ma E (fun rs S1 => valsOf rs fun ds => ds.length = ks.length ∧ Q (.own (.dK (mergeKD [] ((ks.map Sum.inr).zip ds)))) S1) S
/-- the pairs of a display -/
structure PMD (X : Cx) (cl : Nat → Addr) (W : WX) (pin : List Nat) (pos : Pos) (keys : List (Option Expr)) (values : List Expr) (ks : List Str) (ma : MA) : Prop where
  ex : ∃ trs, PPs X pos keys values trs ∧ ks.length = values.length ∧ ∀ (σ : L2.St) (H : Hp) (S : Fm) (F : Hp) (fp : Nat → List Addr) (E0 : EX) (Q0 : List R → Fm → Prop) (Q : List (V × V) → Hp → Prop), EnvR X.K cl F H σ S fp → ma E0 Q0 S → Exl X.K cl W pin σ F H S fp E0 →
    (∀ rs S', Q0 rs S' → ∀ vs F' H' fp', Stp F H S fp F' H' S' fp' → EnvR X.K cl F' H' σ S' fp' → RelAs X.K cl F' σ rs vs → Q ((ks.map V.str).zip vs) H') → tPairs trs σ H Q
theorem pdNil : PMD X cl W pin pos [] [] [] mNil := ⟨[], pps_nil, rfl, fun σ H S F fp E0 Q0 Q E h x k => k _ _ h [] F H fp Stp.refl E rfl⟩
theorem pdCons {kx : Expr} {kx0 : Str} {keys : List (Option Expr)} {values : List Expr} {ks : List Str} {ma : MA} (hk : PE X kx (tC (.str kx0))) (hv : PM X cl W pin e m) (hr : PMD X cl W pin pos keys values ks ma) :
    PMD X cl W pin pos (some kx :: keys) (e :: values) (kx0 :: ks) (mCons m ma) := by
  obtain ⟨trs, h1, h2, h3⟩ := hr.ex
  refine ⟨_, pps_cons hk hv h1, by simp [h2], fun σ H S F fp E0 Q0 Q E h x k => ?_⟩
  show tC (.str kx0) σ H fun kx H1 => LE X.K cl W pin m σ H1 fun y H2 => tPairs trs σ H2 fun ps H3 => Q ((kx, y) :: ps) H3
  show LE X.K cl W pin m σ H fun y H2 => tPairs trs σ H2 fun ps H3 => Q ((V.str kx0, y) :: ps) H3
  refine LE.mk E h x fun r1 S1 v1 F1 H1 fp1 q1 st1 e1 rr1 x1 => ?_
  obtain ⟨G1, e1', st1', sg, ra1⟩ := RelR.ready e1 st1 rr1
  refine h3 σ H1 S1 G1 fp1 E0 _ _ e1' q1 (x.step st1' fun _ _ => rfl) fun rs S2 q2 vs F2 H2 fp2 st2 e2 rr2 => ?_
  exact k _ _ q2 (v1 :: vs) F2 H2 fp2 (st1'.trans st2) e2 ⟨v1, vs, rfl, ra1.mono st2.ff, rr2⟩
theorem valsOf_rel {K : PySem.W.Frag} {F : Hp} {σ : L2.St} : ∀ {rs : List R} {vs : List V} {k : List D → Prop}, RelAs K cl F σ rs vs → valsOf rs k → ∃ ds, RepL K cl F ds vs ∧ k ds
  | [], _, k, h, q => by
    have e : _ = _ := h
    subst e
    exact ⟨[], .nil, q⟩
  | .val d :: rs, _, k, ⟨v, us, e, h, t⟩, q => by
    subst e
    obtain ⟨ds, h1, h2⟩ := valsOf_rel (rs := rs) t q
    exact ⟨d :: ds, .cons h h1, h2⟩
  | .own o :: rs, _, k, _, q => q.elim
  | .slot o :: rs, _, k, _, q => q.elim
theorem RepK.zip {K : PySem.W.Frag} {F : Hp} : ∀ {ks : List Key} {ds : List D} {vs : List V}, RepL K cl F ds vs → RepK K cl F (ks.zip ds) (ks.zip vs)
  | [], _, _, _ => by simp [RepK]
  | k :: ks, [], _, h => by rw [RepL] at h; subst h; simp [RepK]
  | k :: ks, d :: ds, _, h => by
    rw [RepL] at h
    obtain ⟨v, r, rfl, h1, h2⟩ := h
    rw [List.zip_cons_cons, List.zip_cons_cons, RepK]
    exact ⟨v, _, rfl, h1, RepK.zip h2⟩
theorem qDisp {keys : List (Option Expr)} {values : List Expr} {ks : List Str} {ma : MA} (h : PMD X cl W pin pos keys values ks ma) (hall : keys.all (·.isSome) = true) (hl : keys.length = values.length) (h0 : keys ≠ []) (h15 : keys.length ≤ 15) :
    PM X cl W pin (.Dict keys values pos) (mDisp ks ma) := by
  obtain ⟨trs, p1, p2, p3⟩ := h.ex
  refine PE.imp (pe_disp p1 hall hl h0 h15) fun σ H Q hh p hp => ?_
  obtain ⟨S, F, fp, E0, Q0, E, h2, x, k⟩ := hh
  have fn : F p = none := E.sub.free hp
  have no : ¬ Ow S fp p := fun q => by obtain ⟨_, u, hu⟩ := E.owned q; rw [hp] at hu; cases hu
  have E1 : EnvR X.K cl F (upd H p (.dK [])) σ S fp := E.updOut fn no
  have sm : Small F H F (upd H p (.dK [])) := ⟨Same.refl F, same_upd hp, fun _ _ _ z => z, E.sub.trans (same_upd hp)⟩
  have st0 : Stp F H S fp F (upd H p (.dK [])) S fp := sm.step
  have hd0 : Held F (upd H p (.dK [])) S fp p (.dK []) := ⟨upd_same, fn, no, fun z => z⟩
  refine p3 σ _ S F fp E0 _ _ E1 h2 (x.step st0 fun _ _ => rfl) fun rs S1 q1 vs F1 H1 fp1 st1 e1 rr1 => ?_
  obtain ⟨ds, r1, hlen, q1⟩ := valsOf_rel rr1 q1
  have hd1 := hd0.step st1
  have lv : vs.length = ks.length := by rw [← r1.length]; exact hlen
  refine ⟨hd1.hd, (ks.map Sum.inr).zip vs, ?_, ?_, ?_⟩
  · have : ∀ (ks : List Str) (vs : List V), (ks.map V.str).zip vs = ((ks.map Sum.inr).zip vs : List (Key × V)).map fun kv => (kV kv.1, kv.2) := by
      intro ks
      induction ks with
      | nil => intro vs; rfl
      | cons a ks ih =>
        intro vs
        cases vs with
        | nil => rfl
        | cons v vs => simp only [List.map_cons, List.zip_cons_cons, ih]; rfl
    exact this ks vs
  · rw [List.length_zip, List.length_map]
    have : ks.length ≤ 15 := by omega
    omega
  · refine k _ _ q1 (.ref p) F1 _ fp1 ((st0.trans st1).updOut hp) (e1.updOut hd1.fn hd1.no) ⟨p, [p], rfl, ⟨rfl, _, upd_same, RepK.merge (RepK.zip r1) (by rw [RepK])⟩, fun b hb => ?_⟩
    have eb : b = p := by simpa using hb
    subst eb
    exact ⟨hd1.fn, hd1.no, .inl hp⟩
/-- sorted(texts), fewer than 64 -/
def dSorted : DOpL := d1 fun d k => ∃ ks : List Str, (d = .lst (ks.map D.str) ∨ d = .rol (ks.map D.str)) ∧ ks.length < 64 ∧ ∀ ys : List Str, ys.Perm ks → PyProof.Rows.sortedS ys = true → k (.own (.lst (ys.map D.str)))
theorem b_sorted : CallR X (.builtin "sorted") (rL X.K cl dSorted) := c1 fun pins s σ H v u Q F d Q0 I r sm p q P => by
  obtain ⟨ks, hd, h64, q⟩ := q
  have : ∃ a, v = .ref a ∧ SqL X.K H a (ks.map V.str) := by
    rcases hd with rfl | rfl
    · obtain ⟨a, vs, e1, g1, g2⟩ := p.lst sm
      rw [g2.strs] at g1
      exact ⟨a, e1, SqL.of g1⟩
    · obtain ⟨a, vs, e1, g1, g2⟩ := p.rol sm
      rw [g2.strs] at g1
      exact ⟨a, e1, g1⟩
  obtain ⟨a, rfl, hs⟩ := this
  exact cr_sortedS pins s σ H _ _ Q I r ⟨a, ks, rfl, hs, h64, fun ys p' hp hso hn => P.lst sm (q ys hp hso) (RepL.of_strs F ys) hn⟩
end
end Mv

/-! Mv: C() of a class whose __init__ has defaults that are empty tuples. -/
namespace Mv
open PySem L2
/-- the i-th default of a def is an empty tuple of the written part -/
def emT (K : PySem.W.Frag) (a : Addr) : Bool := match K.lookup a with
  | some ⟨.type "tuple", _, .seq its _, _⟩ => its.isEmpty
  | _ => false
theorem emT_ok {K : PySem.W.Frag} {cl : Nat → Addr} {a : Addr} (h : emT K a = true) (F : Hp) : Rep K cl F (.rot []) (.ref a) := by
  rw [Rep]
  refine ⟨a, [], rfl, .inr ?_, .nil⟩
  unfold emT at h
  split at h
  · rename_i dct its n sl e
    have : its = #[] := by simpa using h
    subst this
    exact ⟨_, _, _, e, rfl, rfl, Nat.zero_le _, .nil⟩
  · cases h
structure FncID (P : Program) (w : World) (K : PySem.W.Frag) (mg : Str → Option Value) (base : Heap) (cl : Nat → Addr) (k c : Nat) (ps : List Str) (fs : FS) (dds : List D) : Prop where
  ex : ∃ f fd dvs ds, FnOk P w K mg base (L2.CX P w) k f fd ps (spF K cl fs) ∧ Mk K (cl c) f ∧ Binds K fd ps [] ∧ Binds K fd ps ds ∧ Vals dvs ds ∧ ∀ F, RepL K cl F dds dvs
theorem FncID.i {P : Program} {w : World} {K : PySem.W.Frag} {mg : Str → Option Value} {base : Heap} {cl : Nat → Addr} {k c : Nat} {ps : List Str} {fs : FS} {dds : List D} (F : FncID P w K mg base cl k c ps fs dds) : FncI P w K mg base cl k c ps fs :=
  let ⟨f, fd, _, _, a, b, c, _⟩ := F.ex; ⟨⟨f, fd, a, b, c⟩⟩
theorem binds_none {K : PySem.W.Frag} {fd : FuncData} {ps : List Str} (h : ∃ ds, Vals [] ds ∧ Binds K fd ps ds) : Binds K fd ps [] := by
  obtain ⟨ds, h1, h2⟩ := h
  cases h1
  exact h2
section
variable {X : Cx} {CX : CXT} {k : Nat} {f C : Addr} {fd : FuncData} {ps : List Str} {sp : Sp} {E : L2.St → XK} {x m : Str} {p pos apos : Pos} {dvs : List V} {ds : List Value}
theorem run_makeD {pins : List (Addr × Obj)} {σ : L2.St} {H : Hp} {s : Shared} {Q : VK} (M : Mk X.K C f) (F : FnOk X.prog X.w X.K X.mg X.base CX k f fd ps sp) (hr : Room (k + 1) X.A) (hb : Binds X.K fd ps ds)
    (hx : PassesAt CX X σ (E σ)) (I : Inv X pins σ H s) (r : Vals dvs ds)
    (h : ∀ x dx, H x = none → H dx = none → dx ≠ x → sp (.ref x :: dvs) (upd (upd H dx (.own x)) x (.ins C dx [])) (fun v H2 => v = .non ∧ Q (.ref x) H2) (E σ)) :
    wpAny (model X.prog X.w) X.A (call (.ref C) []) (EP X pins σ Q) X.xe s := by
  have hq := h (s.heap.objs.size + 1) s.heap.objs.size (I.hok.fresh (Nat.le_succ _)) (I.hok.fresh (Nat.le_refl _)) (Nat.ne_of_lt (Nat.lt_succ_self _))
  have I2 := Inv.made (C := C) I
  have r2 : Vals (V.ref (s.heap.objs.size + 1) :: dvs) (Value.ref (s.heap.objs.size + 1) :: ds) := .cons rfl r
  have hl : ([Value.ref (s.heap.objs.size + 1)] ++ ds).length = ps.length := by
    have e := r2.length
    rw [F.len _ _ _ _ hq] at e
    exact e.symm
  have b := hb _ [Value.ref (s.heap.objs.size + 1)] I2.kIn hl
  refine wpAny_call (make_map (f := f) I.kIn M.makes M.init (beq_iff_eq.mp M.fn) (codeAny_mono (F.run _ X.stack _ _ ⟨[Value.ref (s.heap.objs.size + 1)], []⟩ (Value.ref (s.heap.objs.size + 1) :: ds) _ _ (E σ) (hr.make C [] [])
    (I2.env0.make C [] []) b r2 hq) fun r s' hq' => ?_))
  cases r with
  | error e => exact hx pins _ _ e s' I2 hq'
  | ok fl =>
    cases fl with
    | ret u =>
      obtain ⟨v, H', I3, rv, ev, q3⟩ := I2.after hq'
      subst ev
      exact ⟨rv, ⟨V.ref (s.heap.objs.size + 1), H', I3, rfl, q3⟩⟩
    | next => exact False.elim hq'
    | brk => exact False.elim hq'
    | cont => exact False.elim hq'
end
/-- data as arguments -/
def mData : List D → MA
  | [] => mNil
  | d :: ds => mCons (mC d) (mData ds)
section
variable {X : Cx} {cl : Nat → Addr} {W : WX} {pin : List Nat} {fs : FS} {c k j : Nat} {x : Str} {p pos : Pos} {ps : List Str} {dds : List D}
theorem la_data {K : PySem.W.Frag} {E0 : EX} {S : Fm} {F : Hp} {σ : L2.St} : ∀ {dds : List D} {dvs : List V} {Q0 : List R → Fm → Prop}, RepL K cl F dds dvs → mData dds E0 Q0 S → ∃ rs, Q0 rs S ∧ RelAs K cl F σ rs dvs
  | [], _, Q0, r, h => by rw [RepL] at r; subst r; exact ⟨[], h, rfl⟩
  | d :: ds, _, Q0, r, h => by
    rw [RepL] at r
    obtain ⟨v, us, rfl, r1, r2⟩ := r
    obtain ⟨rs, q, t⟩ := la_data (Q0 := fun xs S2 => Q0 (.val d :: xs) S2) r2 h
    exact ⟨.val d :: rs, q, v, us, rfl, r1, t⟩
theorem qMakeD (F : FncID X.prog X.w X.K X.mg X.base cl k c ps fs dds) (g : Good X W j) (hk : k + 1 ≤ j) (hg : Gl X x) (hm : X.mg x = some (.ref (cl c)))
    (hdb : (x == ("__debug__" : Str)) = false := by decide) : PM X cl W pin (.Call (.Name x p) [] [] pos) (mMake c fs (mData dds)) := by
  obtain ⟨f, fd, dvs, ds, F1, hM, _, hb, hv, hr⟩ := F.ex
  refine ⟨fun pins s σ H Q I h => ?_⟩
  refine wpAny_Call_Name_kw (ld_glob I hg hm ?_ hdb)
  refine PySem.W.callWith_K0 I.kIn hM.kp ?_
  have h' := le_make h
  obtain ⟨S, G, fp, E0, Q0, E, h2, xx, kk⟩ := h'
  obtain ⟨rs, q, t⟩ := la_data (hr G) h2
  exact run_makeD hM F1 (g.room.mono hk) hb (passAt g.takes σ) I hv (kk _ _ q dvs G H fp Stp.refl E t)
end
end Mv

/-! Mv: is not of bools. -/
namespace Mv
open PySem PySem.Spec PyProof.Rows L2
def dNotB : DOp2 := fun d e k => match d, e with
  | .bl a, .bl b => k (.val (.bl (!(a == b))))
  | _, _ => False
theorem o_notB {X : Cx} {cl : Nat → Addr} : OpR X (compareOp .IsNot) (r2 X.K cl dNotB) := by
  intro pins s σ H x y v u Q I rx ry ⟨F, d, e, Q0, sm, p1, p2, q, P⟩
  cases d with
  | bl a =>
    cases e with
    | bl b => exact op_notBl pins s σ H x y v u Q I rx ry ⟨a, b, p1.bl, p2.bl, P.bl sm (by
        have : (!decide (a = b)) = (!(a == b)) := by cases a <;> cases b <;> rfl
        first
          | (rw [this]; exact q)
          | (cases a <;> cases b <;> exact q))⟩
    | _ => exact q.elim
  | _ => exact q.elim
end Mv

/-! Mv: name = [e for x in a dict]. -/
namespace Mv
open PySem PySem.Spec PyProof.Rows L2
section
variable {X : Cx} {cl : Nat → Addr} {W : WX} {pin : List Nat} {j : Nat}
theorem lcK_run {n : Nat} {vs : List Nat} {tg : Expr} {md : ME} {g : MG} {mt : MT} {me : ME} {σ : L2.St} {H : Hp} {Q : VK} (h : LE X.K cl W pin (mLcK n vs md g mt me) σ H Q) :
    tUnlE X (tLc (tKeysL X (LE X.K cl W pin md)) (LG X.K cl (pinC n vs) g) (LT X.K cl noW [] mt) (LE X.K cl noW [] me) vs) σ H Q := by
  obtain ⟨S, F, fp, E0, Q0, E, h2, x, k⟩ := h
  refine LE.mk E h2 x fun r S1 v F1 H1 fp1 q1 st1 e1 rr x1 => ?_
  obtain ⟨G1, e1', st1', sg, ra1⟩ := RelR.ready e1 st1 rr
  cases hr : fzR r with
  | val d =>
    simp only [hr] at q1 ra1
    have ra : Rep X.K cl G1 d v := ra1
    cases d with
    | dK kvs =>
      rw [Rep] at ra
      obtain ⟨a, o, ws, rfl, ha, ho, rk⟩ := ra
      obtain ⟨hn, hno, w⟩ := q1
      refine ⟨a, rfl, ?_⟩
      have cases : o = .dK ws ∨ ∃ od, o = .frz od (.dK ws) := by
        unfold dks at ho
        split at ho
        · cases ho; exact .inl rfl
        · cases ho; exact .inr ⟨_, rfl⟩
        · cases ho
      rcases cases with rfl | ⟨od, rfl⟩
      · refine .inl ⟨ws, e1'.sub _ _ ha, fun od nf => ?_⟩
        have sm : sam (.dK ws) (.frz od (.dK ws)) := .inr ⟨ws, rfl, rfl⟩
        have sm' : sam (.frz od (.dK ws)) (.dK ws) := .inr ⟨ws, rfl, rfl⟩
        have e2 := e1'.relk ha sm
        have noA : ¬ Ow S1 fp1 a := fun q => by have := (e1'.owned q).1; rw [ha] at this; cases this
        refine lc_core' (Q := fun v H' => unQ X (Q v) H') e2 (itd_keys upd_same (RepK.lk (LkR.of ha sm) _ _ rk)) hn hno w fun acc S2 q D F2 H2 fp2 st e rr => ?_
        have fa := st.ff _ _ upd_same
        exact .inr ⟨a, od, _, e.sub _ _ fa, nf, k _ _ q _ _ _ fp2 (st1'.trans (st.unlk e1'.sub ha noA)) (e.relk fa sm') ((rr.unlk fa sm').from st1')⟩
      · refine .inr ⟨od, ws, e1'.sub _ _ ha, ?_⟩
        refine lc_core' (Q := fun v H' => unQ X (Q v) H') e1' (itd_keys ha rk) hn hno w fun acc S2 q D F2 H2 fp2 st e rr => ?_
        exact .inl (k _ _ q _ _ _ fp2 (st1'.trans st) e (rr.from st1'))
    | _ => exact q1.elim
  | own o => simp only [hr] at q1
  | slot i => simp only [hr] at q1
theorem kSetLcK {i : Nat} {y : Str} {py : Pos} {elt tg iter : Expr} {ifs : List Expr} {scope : Scope} {own : List (Str × Nat)} {pos spos : Pos} {n : Nat} {md : ME} {g : MG} {mt : MT} {me : ME} (gd : Good X W j) (hy : X.N[i]? = some y) (hyl : X.env.scope.names.lookup y = some .local)
    (hp : i ∉ pin) (hsw : swapsWith (.ListComp elt [⟨tg, iter, ifs, 0⟩] scope pos) (some (.Name y py)) spos.line X.env = pure true) (hi : PM X cl W pin iter md) (ok : BlkOk X.N X.env.scope scope own)
    (hg : ∀ (s : Shared) (H : Hp) (C : Addr) (cc : List (Str × Addr)) (fp : List Addr), PMG (X.blk s H scope (compEnvC scope cc C X.env) fp) cl (pinC n (own.map (·.2))) tg g)
    (ht : ∀ (s : Shared) (H : Hp) (C : Addr) (cc : List (Str × Addr)) (fp : List Addr), PMTs (X.blk s H scope (compEnvC scope cc C X.env) fp) cl ifs mt)
    (he : ∀ (s : Shared) (H : Hp) (C : Addr) (cc : List (Str × Addr)) (fp : List Addr), Good (X.blk s H scope (compEnvC scope cc C X.env) fp) noW j → PM (X.blk s H scope (compEnvC scope cc C X.env) fp) cl noW [] elt me)
    (hs : ∀ x, foldedSetIterable iter X.env x = pure x := by intro _; rfl) : PMS X cl W pin (.Assign [.Name y py] (.ListComp elt [⟨tg, iter, ifs, 0⟩] scope pos) spos) (sSet i (mLcK n (own.map (·.2)) md g mt me)) :=
  PS.imp (ps_unl (ps_setLc gd.calm gd.nd hy hyl hsw (pi_keysL hi) ok hg ht (fun s H C cc fp => he s H C cc fp gd.blk) hs)) fun D σ H h =>
    have z := ls_set (X := X) hp h
    lcK_run (tg := tg) z
theorem kSetLcKF {i : Nat} {y : Str} {py : Pos} {elt tg iter : Expr} {ifs : List Expr} {scope : Scope} {own : List (Str × Nat)} {pos spos : Pos} {n : Nat} {md : ME} {g : MG} {mt : MT} {me : ME} (gd : Good X W j) (hy : X.N[i]? = some y) (hyl : X.env.scope.names.lookup y = some .local)
    (hp : i ∉ pin) (hsw : swapsWith (.ListComp elt [⟨tg, iter, ifs, 0⟩] scope pos) (some (.Name y py)) spos.line X.env = pure true) (hi : PM X cl W pin iter md) (ok : BlkOk X.N X.env.scope scope own)
    (hg : ∀ (s : Shared) (H : Hp) (C : Addr) (cc : List (Str × Addr)) (fp : List Addr), PMG (X.blk s H scope (compEnvC scope cc C X.env) fp) cl (pinC n (own.map (·.2))) tg g)
    (ht : ∀ (s : Shared) (H : Hp) (C : Addr) (cc : List (Str × Addr)) (fp : List Addr), PMTs (X.blk s H scope (compEnvC scope cc C X.env) fp) cl ifs mt)
    (he : ∀ (s : Shared) (H : Hp) (C : Addr) (cc : List (Str × Addr)) (fp : List Addr), Good (X.blk s H scope (compEnvC scope cc C X.env) fp) noW j → PM (X.blk s H scope (compEnvC scope cc C X.env) fp) cl noW [] elt me)
    (hs : ∀ x, foldedSetIterable iter X.env x = pure x := by intro _; rfl) : PMS X cl W pin (.Assign [.Name y py] (.ListComp elt [⟨tg, iter, ifs, 0⟩] scope pos) spos) (sSet i (mFz (mLcK n (own.map (·.2)) md g mt me))) :=
  PS.imp (ps_unl (ps_setLc gd.calm gd.nd hy hyl hsw (pi_keysL hi) ok hg ht (fun s H C cc fp => he s H C cc fp gd.blk) hs)) fun D σ H h =>
    have z := ls_set (X := X) hp h
    lcK_run (tg := tg) (le_fz z)
end
end Mv

/-! Mv: isinstance of a caught error, several clauses with a name, calls in a suite that look at the error. -/
namespace Mq
open PySem PySem.Spec PyProof.Rows L2
/-- what the clauses wish, each with the name of slot i -/
def wManyA (K : PySem.W.Frag) (i : Nat) (Wout : WX) (D : Ends) : List (Value × (Addr → Value → Option Addr → TS)) → WX
  | [] => Wout
  | (c, ts) :: r => fun cls d σ H => ∃ b, PySem.W.exmOne K cls c = some b ∧
      (b = true → ∀ a, H a = none → ts a cls d { nx := fun σ' H' => D.nx (σ'.set i none) H', rt := D.rt, bk := fun σ' H' => D.bk (σ'.set i none) H', ct := fun σ' H' => D.ct (σ'.set i none) H' } (σ.set i (some (.ref a))) H) ∧
      (b = false → wManyA K i Wout D r cls d σ H)
inductive HdsA (X : Cx) (n : Str) : List ExceptHandler → List (Value × (Addr → Value → Option Addr → TS)) → Prop
  | nil : HdsA X n [] []
  | cons {x : Str} {c : Value} {ts : Addr → Value → Option Addr → TS} {b₀ : Stmt} {suite : List Stmt} {np pos' : Pos} {hds : List ExceptHandler} {l : List (Value × (Addr → Value → Option Addr → TS))} (hc : Names X x c)
      (hsu : ∀ (a : Addr) (oe : Obj) (cls : Value) (d : Option Addr) (pn : List (Addr × Obj)), Zc cls d oe → (∃ vs, oe.data = .fields vs) → PSs (X.suite a ((a, oe) :: pn)) (b₀ :: suite) (ts a cls d)) (r : HdsA X n hds l) :
      HdsA X n (.ExceptHandler (some (.Name x np)) (some n) (b₀ :: suite) pos' :: hds) ((c, ts) :: l)
section
variable {X : Cx} {n : Str} {i : Nat} {body : List Stmt} {h₀ : ExceptHandler} {hds : List ExceptHandler} {l : List (Value × (Addr → Value → Option Addr → TS))} {pos : Pos} {tb : WX → TS} {Wout : WX}
theorem ps_try_manyA (hs : X.stack = X.env :: X.outer) (hf : X.env.frame = some X.env.locals) (hN : X.N.Nodup) (hi : X.N[i]? = some n) (hln : X.env.kindOf n = some .local) (tk : Takes X Wout)
    (hb : ∀ (W : WX) (pn : List (Addr × Obj)) (xe : Value → Shared → Prop), Takes (X.tr pn xe) W → PassesOwn (model X.prog X.w) X.A X.env xe → PSs (X.tr pn xe) body (tb W))
    (hh : HdsA X n (h₀ :: hds) l) : PS X (.Try body (h₀ :: hds) [] [] pos) (fun D σ H => tb (wManyA X.K i Wout D l) D σ H) := by
  refine ⟨fun pins s σ H D I h => ?_⟩
  have ok := I.ok
  have hfr : X.A.frames = some (X.env :: X.outer) := by rw [ok.frames, hs]
  have hloc : Loc X.env.scope n := .inl hln
  refine wpAny_Try_except ?_
  refine wpAny_mono ((hb (wManyA X.K i Wout D l) (X.pn ++ pins) (fun e s₁ => wpAny (model X.prog X.w) X.A (noteFrame e X.env) (fun _ s₂ => wpAny (model X.prog X.w) X.A (setFlight e none) (fun _ s₃ =>
    wpAny (model X.prog X.w) X.A (handleBy e X.env (h₀ :: hds)) (SP X pins D) X.xe s₃) X.xe s₂) X.xe s₁) (fun u s' xx => ?_) PassesOwn.looking).run [] s σ H D (I.toTry _) h) (fun f s1 hsp => ?_) (fun e s1 he => he)
  · obtain ⟨a, B, sI, pins', σ', H', cls, d, rfl, J', nb, up, sky, na, os, ag, w⟩ := xx
    have J : Inv X pins σ' H' sI := J'.ofTry ok
    have sky' : Sky B (X.env :: X.outer) a (Zc cls d) X.env.locals s'.heap := by rw [← hs]; exact sky
    show wpAny (model X.prog X.w) X.A (noteFrame (.ref a) X.env) _ _ _
    refine Sky.land Zc.steady hfr hf sky' fun h3 fl3 up3 => ?_
    have J3 : Inv X pins σ' H' { s' with heap := h3 } := J.landed nb fl3.1 (up.trans up3) os ag
    obtain ⟨oe3, vs3, he3, hz3, hd3⟩ := fl3.there
    have notFr : ∀ {h : Heap} {o : Obj} {vs : Array Value}, h.FunFrames B (X.env :: X.outer) → h.get? a = some o → o.data = .fields vs → a ∉ frs (X.env :: X.outer) := fun {h o vs} ff e dd hm => by
      obtain ⟨_, o', e', hnf⟩ := ff.mem hm
      rw [e] at e'; cases e'
      exact hnf _ dd
    have nfr := notFr fl3.2.2.1 he3 hd3
    have nL : a ≠ X.env.locals := fun z => nfr (List.mem_filterMap.mpr ⟨X.env, List.mem_cons_self, by rw [hf, z]⟩)
    have nF : a ∉ X.fs := fun hm => by
      obtain ⟨e, he, q⟩ := List.mem_filterMap.mp hm
      exact nfr (List.mem_filterMap.mpr ⟨e, List.mem_cons_of_mem _ he, q⟩)
    have S3 := J3.suite he3 hd3 na nL nF
    have go : ∀ {hds' : List ExceptHandler} {l' : List (Value × (Addr → Value → Option Addr → TS))}, HdsA X n hds' l' → wManyA X.K i Wout D l' cls d σ' H' →
        wpAny (model X.prog X.w) X.A (handleBy (.ref a) X.env hds') (SP X pins D) X.xe { s' with heap := h3 } := by
      intro hds' l' hk
      induction hk with
      | nil =>
        intro w
        refine wpAny_handleBy_nil ?_
        obtain ⟨k1, k2, k3, oe, vs, T, oT, ts', he, hz, hd, h1, hr⟩ := id fl3
        unfold PySem.passOn
        refine wpAny_bind (wpAny_field he hd h1 ?_)
        rw [if_neg (show ¬ ((Value.ref T == Value.none) = true) from by simp)]
        have fin : wpAny (model X.prog X.w) X.A (setFlight (.ref a) X.env.frame) (fun _ s4 => wpAny (model X.prog X.w) X.A (throw (.ref a) : Sem Flow) (SP X pins D) X.xe s4) X.xe { s' with heap := h3 } := by
          rw [hf]
          refine HandSPX.setFlight_upZ fl3 fun h4 hh4 up4 => wpAny_throw (tk _ _ ?_)
          exact ⟨a, B, sI, pins, σ', H', cls, d, rfl, J, nb, (up.trans up3).trans up4, .inr (.inr (by rw [hs]; exact hh4)), na, os, ag, w⟩
        first
          | exact wpAny_bind (wpAny_pure (wpAny_bind fin))
          | exact wpAny_bind fin
      | @cons x c ts b₀ suite np pos' hds2 l2 hc hsu r ih =>
        intro w
        obtain ⟨b, hb1, hyes, hno⟩ := w
        refine wpAny_handleBy_cons (codeAny_handlers_test ?_) (by intro q; cases q)
        have LT : PySem.W.Looks (model X.prog X.w) h3 (typeOf (.ref a)) cls := fun A Q E s k q => wpAny_typeOf_ref (k _ _ he3) (by rw [hz3.1]; exact q)
        have LM := PySem.W.exm_one (M := model X.prog X.w) (J3.kIn) LT hb1
        have test : ∀ {Q : Value → Shared → Prop} {E : Value → Shared → Prop}, Q c { s' with heap := h3 } → wpAny (model X.prog X.w) (X.A.mark (some (.ref a))) (eval (.Name x np) X.env) Q E { s' with heap := h3 } := fun {Q E} q => by
          obtain ⟨hg, hdbg, hm | ⟨hm, hv, hnn⟩⟩ := hc
          · exact ld_glob (X := X.suite a ((a, oe3) :: (X.pn ++ pins))) S3 hg hm q hdbg
          · exact ld_blt (X := X.suite a ((a, oe3) :: (X.pn ++ pins))) S3 hg hm hv q hnn hdbg
        refine test (LM.here ?_)
        cases b with
        | true =>
          refine codeAny_handlers_suite_as ?_
          refine HandSPX.lands_againZ fl3 fun h4 fl4 up4 => ?_
          have J4 : Inv X pins σ' H' { s' with heap := h4 } := J.landed nb fl4.1 ((up.trans up3).trans up4) os ag
          obtain ⟨oe4, vs4, he4, hz4, hd4⟩ := fl4.there
          have S4 := J4.suite he4 hd4 na nL nF
          refine store_ok (X := X.suite a ((a, oe4) :: (X.pn ++ pins))) (v := .ref a) S4 hN hi hloc rfl (fun s5 S5 => ?_) (.inr hln)
          refine wpAny_mono ((hsu a oe4 cls d (X.pn ++ pins) hz4 ⟨_, hd4⟩).run [] s5 _ H' _ S5 (hyes rfl a na)) (fun f s6 hsp => ?_) (fun _ _ z => False.elim z)
          have end_ : ∀ {σ6 : St} {H6 : Hp} {Q : Shared → Prop}, Inv (X.suite a ((a, oe4) :: (X.pn ++ pins))) [] σ6 H6 s6 → (∀ s7, Inv X pins (σ6.set i none) H6 s7 → Q s7) →
              wpAny (model X.prog X.w) X.A (do bindName X.env n .none; unbindBehindTheSuite X.env n pos') (fun _ s7 => Q s7) X.xe s6 := fun {σ6 H6 Q} S6 hq => gone_ok (S6.unsuite ok) hN hi hln hq
          cases f with
          | next =>
            obtain ⟨σ6, H6, S6, q6⟩ := hsp
            exact end_ S6 fun s7 J7 => ⟨_, _, J7, q6⟩
          | brk =>
            obtain ⟨σ6, H6, S6, q6⟩ := hsp
            exact end_ S6 fun s7 J7 => ⟨_, _, J7, q6⟩
          | cont =>
            obtain ⟨σ6, H6, S6, q6⟩ := hsp
            exact end_ S6 fun s7 J7 => ⟨_, _, J7, q6⟩
          | ret u =>
            obtain ⟨v6, σ6, H6, S6, r6, q6⟩ := hsp
            exact end_ S6 fun s7 J7 => ⟨_, _, _, J7, r6, q6⟩
        | false =>
          show wpAny _ X.A (handleBy (.ref a) X.env hds2) _ _ _
          exact ih (hno rfl)
    exact go hh w
  · cases f with
    | next =>
      obtain ⟨σ', H', J', q⟩ := hsp
      exact wpAny_execs_nil ⟨σ', H', J'.ofTry ok, q⟩
    | brk =>
      obtain ⟨σ', H', J', q⟩ := hsp
      exact ⟨σ', H', J'.ofTry ok, q⟩
    | cont =>
      obtain ⟨σ', H', J', q⟩ := hsp
      exact ⟨σ', H', J'.ofTry ok, q⟩
    | ret u =>
      obtain ⟨v, σ', H', J', r, q⟩ := hsp
      exact ⟨v, σ', H', J'.ofTry ok, r, q⟩
end
/-! ### calls in a suite, the error pinned -/
structure FnP (P : Program) (w : World) (K : PySem.W.Frag) (mg : Str → Option Value) (base : Heap) (CX : CXT) (pn : List (Addr × Obj)) (k : Nat) (f : Addr) (fd : FuncData) (ps : List Str) (sp : Sp) : Prop where
  len : ∀ vs H Q E, sp vs H Q E → vs.length = ps.length
  run : ∀ (A : Around) (outer : List Env) (s : Shared) (H : Hp) (args : Args) (us : List Value) (vs : List V) (Q : VK) (E : XK), RoomU k A → Env0 P w K mg base A outer s H → (∀ p ∈ pn, s.heap.get? p.1 = some p.2 ∧ H p.1 = none ∧ p.1 ∉ frs outer ∧ ∀ v, p.2.data ≠ .cell v) → BindsTo s fd args (ps.zip us) → Vals vs us → sp vs H Q E →
    codeAny (model P w) A (.call (.ref f) args) (CR CX outer P w H s Q E) s
abbrev cxP (CX : CXT) (P : Program) (w : World) (K : PySem.W.Frag) (mg : Str → Option Value) (base : Heap) (pn : List (Addr × Obj)) (N : List Str) (qual : Str) (scope : Scope) (f : Addr) (cd : Value) (A : Around) (outer : List Env) (s : Shared) (H : Hp) (E : XK) : Cx :=
  { cxU CX P w K mg base N qual scope f cd A outer s H E with pn := pn }
theorem inv_startP {CX : CXT} {P : Program} {w : World} {K : PySem.W.Frag} {mg : Str → Option Value} {base : Heap} {pn : List (Addr × Obj)} {N ps : List Str} {qual : Str} {scope : Scope} {f : Addr} {cd : Value} {A : Around} {outer : List Env} {s s1 : Shared} {H : Hp} {E : XK} {us : List Value} {vs : List V}
    (S : FnScope N ps scope) (e0 : Env0 P w K mg base A outer s H) (hp : ∀ p ∈ pn, s.heap.get? p.1 = some p.2 ∧ H p.1 = none ∧ p.1 ∉ frs outer ∧ ∀ v, p.2.data ≠ .cell v) (hl : vs.length = ps.length) (r : Vals vs us)
    (x : InCallC s s.heap.objs.size (bindL (envOfC qual scope s.heap.objs.size f cd).kindOf (ps.zip us) fun _ => none) (cellsFrom (s.heap.objs.size + 1) scope.names []) (bindC (envOfC qual scope s.heap.objs.size f cd).kindOf (ps.zip us) fun _ => none) s1) :
    Inv (cxP CX P w K mg base pn N qual scope f cd A outer s H E) [] (L2.start N vs) H s1 := by
  have J := inv_startU (CX := CX) (E := E) S e0 hl r x
  obtain ⟨h1, tk, rfl, hk⟩ := x.done
  refine ⟨⟨J.ok.mod, J.ok.kind, J.ok.glob, J.ok.blt, J.ok.above, J.ok.inj, J.ok.has, J.ok.cab, J.ok.hd, J.ok.frames, J.ok.stk, J.ok.exf, J.ok.bs, J.ok.bsz, J.ok.noex, J.ok.exfs, J.ok.funs, J.ok.frf⟩, J.os, J.bare, J.base, J.loc, J.cell, J.free, J.freeC, fun p hpp => ?_, J.hok, J.len⟩
  have hpp' : p ∈ pn := by simpa using hpp
  obtain ⟨g1, g2, g3, g4⟩ := hp p hpp'
  exact ⟨hk _ _ g1, g2, fun z => absurd (Heap.lt_size g1) (by rw [show p.1 = s.heap.objs.size from z]; exact Nat.lt_irrefl _), g3, g4⟩
theorem fn_ofP {CX : CXT} {P : Program} {w : World} {K : PySem.W.Frag} {mg : Str → Option Value} {base : Heap} {pn : List (Addr × Obj)} {k : Nat} {f : Addr} {name qual : Str} {params : Arguments} {body : List Stmt} {scope : Scope} {dV kV doc pm cdv ct oc : Value} {an od : Option Addr}
    {osl : Array (Option Value)} {N ps : List Str} {sp : Sp} (lk : K.lookup f = some ⟨oc, od, .func (PySem.W.fnOf name qual params body scope dV kV doc pm an cdv ct), osl⟩) (hcd : PySem.W.codeIn K cdv qual = true) (S : FnScope N ps scope)
    (len : ∀ vs H Q E, sp vs H Q E → vs.length = ps.length)
    (hbody : ∀ (A : Around) (outer : List Env) (s : Shared) (H : Hp) (vs : List V) (Q : VK) (E : XK), RoomU k (A.deeper (envOfC qual scope s.heap.objs.size f cdv)) → sp vs H Q E →
      ∃ t, PSs (cxP CX P w K mg base pn N qual scope f cdv A outer s H E) body t ∧ t { nx := fun _ H' => Q .non H', rt := Q } (L2.start N vs) H) :
    FnP P w K mg base CX pn (k + 1) f (PySem.W.fnOf name qual params body scope dV kV doc pm an cdv ct) ps sp := by
  refine ⟨len, fun A outer s H args us vs Q E hr e0 hpn hb r hsp => ?_⟩
  have hl := len _ _ _ _ hsp
  have KX : K.In s.heap := e0.mod.kin.keeps fun b o e => (e0.bs b o e).1
  have lim : s.heap.NoLimit := e0.mod.nolimit.keeps fun b o e => (e0.bs b o e).1
  have hkind : ∀ y ∈ ps.zip us, scope.names.lookup y.1 = some .local ∨ (scope.names.lookup y.1 = some .cell ∧ ((cellsFrom (s.heap.objs.size + 1) scope.names []).lookup y.1).isSome = true) := fun ⟨n, v⟩ hy => by
    rcases S.par n (List.of_mem_zip hy).1 with q | q
    · exact .inl q
    · exact .inr ⟨q, PySem.W.cellsFrom_some _ _ _ (.inl q)⟩
  refine codeAny_call_function hr.depth (KX _ _ lk) rfl S.co S.gen rfl (PySem.W.codeRec_of KX hcd) (hb _ _ _ _ ?_)
  refine wpAny_newFunctionEnv_cells S.kind hkind fun env he s1 x => ?_
  subst he
  refine ⟨lim.keeps x.toInCall.keep, codeAny_func ?_⟩
  obtain ⟨t, ht, hq⟩ := hbody A outer s H vs Q E (hr.deeper _) hsp
  have I : Inv (cxP CX P w K mg base pn N qual scope f cdv A outer s H E) [] (L2.start N vs) H s1 := inv_startP S e0 hpn hl r x
  refine wpAny_mono (ht.run [] s1 (L2.start N vs) H _ I hq) (fun fl s' hs => ?_) fun e s' hs => hs
  have fin : ∀ {σ' : St} {H' : Hp} {v : V} {u : Value}, Inv (cxP CX P w K mg base pn N qual scope f cdv A outer s H E) [] σ' H' s' → RelV v u → Q v H' → CE outer P w H s Q u s' :=
    fun {σ' H' v u} J rv q => ⟨v, H', J.os, J.bare, J.base, J.hok, rv, q⟩
  cases fl with
  | ret u =>
    obtain ⟨v, σ', H', J, rv, q⟩ := hs
    exact fin J rv q
  | next =>
    obtain ⟨σ', H', J, q⟩ := hs
    exact fin (v := V.non) (u := Value.none) J rfl q
  | brk =>
    obtain ⟨_, _, _, q⟩ := hs
    exact False.elim q
  | cont =>
    obtain ⟨_, _, _, q⟩ := hs
    exact False.elim q
section
variable {X : Cx} {CX : CXT} {k : Nat} {f C : Addr} {fd : FuncData} {ps : List Str} {sp : Sp} {E : St → XK} {x m : Str} {q pos apos : Pos} {e o : Expr} {es : List Expr} {ta : TE} {t : TA} {pn : List (Addr × Obj)}
theorem run_fnP {pins : List (Addr × Obj)} {σ : St} {H : Hp} {s : Shared} {Q : VK} {us : List Value} {vs : List V} (F : FnP X.prog X.w X.K X.mg X.base CX pn k f fd ps sp) (hpn : ∀ p ∈ pn, p ∈ X.pn) (hr : RoomU k X.A) (hb : Binds X.K fd ps []) (hx : PassesAt CX X σ (E σ))
    (I : Inv X pins σ H s) (r : Vals vs us) (h : sp vs H Q (E σ)) : wpAny (model X.prog X.w) X.A (call (.ref f) us) (EP X pins σ Q) X.xe s := by
  have hl : us.length = ps.length := by rw [← r.length]; exact F.len _ _ _ _ h
  have b := hb s us I.kIn (by rw [List.append_nil]; exact hl)
  rw [List.append_nil] at b
  have hp : ∀ p ∈ pn, s.heap.get? p.1 = some p.2 ∧ H p.1 = none ∧ p.1 ∉ frs X.stack ∧ ∀ v, p.2.data ≠ .cell v := fun p hp => by
    obtain ⟨g1, g2, g3, g4, g5⟩ := I.pin p (List.mem_append_left _ (hpn p hp))
    refine ⟨g1, g2, ?_, g5⟩
    rcases I.ok.stk with z | ⟨z, zf⟩
    · rw [z]; exact g4
    · rw [z]
      intro hm
      obtain ⟨e, he, q⟩ := List.mem_filterMap.mp hm
      rcases List.mem_cons.mp he with rfl | he
      · rw [zf] at q; exact g3 (Option.some.inj q).symm
      · exact g4 (List.mem_filterMap.mpr ⟨e, he, q⟩)
  refine wpAny_call (codeAny_mono (F.run X.A X.stack s H ⟨us, []⟩ us vs Q (E σ) hr I.env0 hp b r h) fun r s' hq => ?_)
  cases r with
  | error e => exact hx pins H s e s' I hq
  | ok fl =>
    cases fl with
    | ret u => exact I.after hq
    | next => exact False.elim hq
    | brk => exact False.elim hq
    | cont => exact False.elim hq
theorem pe_callP (F : FnP X.prog X.w X.K X.mg X.base CX pn k f fd ps sp) (hpn : ∀ p ∈ pn, p ∈ X.pn) (hr : RoomU k X.A) (hg : Gl X x) (hm : X.mg x = some (.ref f)) (hk : PySem.W.keepIn X.K (.ref f) = true) (hb : Binds X.K fd ps []) (hx : ∀ σ, PassesAt CX X σ (E σ))
    (ha : PA X (e :: es) t) (hdb : (x == ("__debug__" : Str)) = false := by decide) (he : starEach (e :: es) X.env = (false, eval e X.env) :: starEach es X.env := by rfl) (hpl : (backTo pos (starEach es X.env)).any (·.1) = false := by rfl) :
    PE X (.Call (.Name x q) (e :: es) [] pos) (tCallS sp E t) := by
  refine ⟨fun pins s σ H Q I h => ?_⟩
  refine wpAny_Call_Name_kw (ld_glob I hg hm ?_ hdb)
  refine PySem.W.callWith_K (h₀ := X.base) I.ok.mod.kin hk (thn (ha.run pos pins s σ H _ I h) fun us s1 ⟨vs, H1, I1, r, q⟩ => ⟨I1.kIn, ?_⟩) he hpl
  exact run_fnP F hpn hr hb (hx σ) I1 r q
end
end Mq
namespace Mv
open PySem PySem.Spec PyProof.Rows L2 Mq
/-! ### several clauses with a name -/
def trySuA (i : Nat) (D : MEnds) : List ((Nat → Bool) × (Addr → Addr → Nat → MS)) → XD → Fm → Prop
  | [], xd, S => D.ex xd S
  | (mt, su) :: r, xd, S => if mt xd.c = true then ∀ a dx, su a dx xd.c (sufE i D) (S.set i (.fz (.exo a dx xd.fs))) else trySuA i D r xd S
/-- try: b, except C as n: su, .. -/
def sTryMA (i : Nat) (cs : List ((Nat → Bool) × (Addr → Addr → Nat → MS))) (b : MS) : MS := fun D S => b { D with ex := trySuA i D cs } S
inductive HdsMA (X : Cx) (cl : Nat → Addr) (pin : List Nat) (n : Str) : List ExceptHandler → List ((Nat → Bool) × (Addr → Addr → Nat → MS)) → List Value → Prop
  | nil : HdsMA X cl pin n [] [] []
  | cons {x : Str} {c : Value} {mt : Nat → Bool} {su : Addr → Addr → Nat → MS} {b₀ : Stmt} {suite : List Stmt} {np pos' : Pos} {hds : List ExceptHandler} {l : List ((Nat → Bool) × (Addr → Addr → Nat → MS))} {cs : List Value} (hc : Names X x c) (hmt : ∀ k, PySem.W.exmOne X.K (.ref (cl k)) c = some (mt k))
      (hsu : ∀ (a dx : Addr) (k : Nat) (oe : Obj) (pn : List (Addr × Obj)), Zc (.ref (cl k)) (some dx) oe → (∃ vs, oe.data = .fields vs) → PMSs (X.suite a ((a, oe) :: pn)) cl WNo pin (b₀ :: suite) (su a dx k)) (r : HdsMA X cl pin n hds l cs) :
      HdsMA X cl pin n (.ExceptHandler (some (.Name x np)) (some n) (b₀ :: suite) pos' :: hds) ((mt, su) :: l) (c :: cs)
section
variable {X : Cx} {cl : Nat → Addr} {W : WX} {pin : List Nat} {body : List Stmt} {b : MS} {pos : Pos} {j i : Nat} {n : Str}
def tsA (X : Cx) (cl : Nat → Addr) (pin : List Nat) (su : Addr → Addr → Nat → MS) (a : Addr) (cls : Value) (d : Option Addr) : TS := fun D σ H => ∃ dx k, d = some dx ∧ cls = .ref (cl k) ∧ LS X.K cl WNo pin (su a dx k) D σ H
theorem HdsMA.ok {hds : List ExceptHandler} {l : List ((Nat → Bool) × (Addr → Addr → Nat → MS))} {cs : List Value} (h : HdsMA X cl pin n hds l cs) : HdsA X n hds (cs.zip (l.map fun q => tsA X cl pin q.2)) := by
  induction h with
  | nil => exact .nil
  | cons hc hmt hsu r ih => exact .cons hc (fun a oe cls d pn hz hv => ⟨fun pins s σ H D I ⟨dx, k, ed, ec, h⟩ => by
      subst ed ec
      exact (hsu a dx k oe pn hz hv).run pins s σ H D I h⟩) ih
theorem kTryMA {h₀ : ExceptHandler} {hds : List ExceptHandler} {l : List ((Nat → Bool) × (Addr → Addr → Nat → MS))} {cs : List Value} (g : Good X W j) (hs : X.stack = X.env :: X.outer) (hf : X.env.frame = some X.env.locals) (hi : X.N[i]? = some n) (hln : X.env.kindOf n = some .local) (hp : i ∉ pin)
    (hb : ∀ (W' : WX) (pn : List (Addr × Obj)) (xe : Value → Shared → Prop), Good (X.tr pn xe) W' j → PMSs (X.tr pn xe) cl W' pin body b) (hh : HdsMA X cl pin n (h₀ :: hds) l cs) :
    PMS X cl W pin (.Try body (h₀ :: hds) [] [] pos) (sTryMA i l b) := by
  refine PS.imp (ps_try_manyA (tb := fun W' => LS X.K cl W' pin b) hs hf g.nd hi hln g.takes (fun W' pn xe tk ps => hb W' pn xe (g.tr tk ps)) hh.ok) fun D σ H h => ?_
  obtain ⟨S, F, fp, D0, E, h2, gl⟩ := LS.iff.mp h
  refine LS.iff.mpr ⟨S, F, fp, { D0 with ex := trySuA i D0 l }, E, h2, fun xd S' q c' d' σ' F' H' fp' pp st e xr => ?_, gl.nx, gl.bk, gl.ct, gl.rt⟩
  have key : ∀ {hds : List ExceptHandler} {l : List ((Nat → Bool) × (Addr → Addr → Nat → MS))} {cs : List Value}, HdsMA X cl pin n hds l cs → trySuA i D0 l xd S' → wManyA X.K i W D (cs.zip (l.map fun q => tsA X cl pin q.2)) c' d' σ' H' := fun {hds l cs} hh => by
    induction hh with
    | nil => exact fun q' => gl.ex xd S' q' _ _ σ' F' H' fp' pp st e xr
    | @cons x c mt su b₀ suite np pos' hds l cs hc hmt hsu r ih =>
      intro q'
      obtain ⟨rfl, dx, ws, ed, hx, rf⟩ := id xr
      refine ⟨mt xd.c, hmt _, fun hb a na => ?_, fun hb => ?_⟩
      · unfold trySuA at q'
        rw [if_pos hb] at q'
        refine ⟨dx, xd.c, ed, rfl, LS.iff.mpr ⟨_, F', fp', _, e.setFz (v := V.ref a) (d := .exo a dx xd.fs) (by rw [Rep]; exact ⟨rfl, ws, hx, rf⟩), q' a dx, fun _ _ z => z.elim, ?_, ?_, ?_, ?_⟩⟩
        · intro S2 q2 σ2 F2 H2 fp2 p2 st2 e2
          exact gl.nx _ q2 _ F2 H2 fp2 (fun k hk => ((pin_set hp k hk).trans ((p2 k hk).trans (pin_set hp k hk))).trans (pp k hk)) (st.trans (Stp.trans ⟨Same.refl _, fun _ _ h _ _ => h, fun _ _ _ _ h _ => h, fun a h => .inl h.setFz, fun _ h => h⟩ st2.dropS)) e2.dropS
        · intro S2 q2 σ2 F2 H2 fp2 p2 st2 e2
          exact gl.bk _ q2 _ F2 H2 fp2 (fun k hk => ((pin_set hp k hk).trans ((p2 k hk).trans (pin_set hp k hk))).trans (pp k hk)) (st.trans (Stp.trans ⟨Same.refl _, fun _ _ h _ _ => h, fun _ _ _ _ h _ => h, fun a h => .inl h.setFz, fun _ h => h⟩ st2.dropS)) e2.dropS
        · intro S2 q2 σ2 F2 H2 fp2 p2 st2 e2
          exact gl.ct _ q2 _ F2 H2 fp2 (fun k hk => ((pin_set hp k hk).trans ((p2 k hk).trans (pin_set hp k hk))).trans (pp k hk)) (st.trans (Stp.trans ⟨Same.refl _, fun _ _ h _ _ => h, fun _ _ _ _ h _ => h, fun a h => .inl h.setFz, fun _ h => h⟩ st2.dropS)) e2.dropS
        · intro r S2 q2 v σ2 F2 H2 fp2 p2 st2 e2 rr
          have s1 : Stp F' H' S' fp' F' H' (S'.set i (.fz (.exo a dx xd.fs))) fp' := ⟨Same.refl _, fun _ _ h _ _ => h, fun _ _ _ _ h _ => h, fun a h => .inl h.setFz, fun _ h => h⟩
          exact gl.rt r _ q2 v _ F2 H2 fp2 (fun k hk => ((p2 k hk).trans (pin_set hp k hk)).trans (pp k hk)) ((st.trans s1).trans st2) e2 (rr.from (st.trans s1))
      · unfold trySuA at q'
        rw [if_neg (by rw [hb]; decide)] at q'
        exact ih q'
  exact key hh q
end
/-! ### isinstance of the caught error -/
/-- what the class must say, so that isinstance asks its errors rightly -/
structure ExK (K : PySem.W.Frag) (C : Addr) : Prop where
  hc : (PySem.W.clsIn K C).isSome = true
  hg : PySem.W.findIn K (.ref C) "__getattribute__" = some (some (.builtin "BaseException.__getattribute__"))
  hk : PySem.W.findIn K (.ref C) "__getattr__" = some none
  hs : PySem.W.subIn K (.ref C) (.type "BaseException") = some true
  ha : PySem.W.findIn K (.ref C) "__class__" = some (some (.builtin "object.__class__"))
  hn : PySem.W.specialIn K (.builtin "object.__class__") "__get__" = some (some (.builtin "getset_descriptor.__get__"))
  ht : PySem.W.takesIn K (.builtin "object.__class__") = some true
  hm : PySem.W.mroIn K C (.type "object") = some true
def exkB (K : PySem.W.Frag) (C : Addr) : Bool := (PySem.W.clsIn K C).isSome && (He.eqO (PySem.W.findIn K (.ref C) "__getattribute__") (some (some (.builtin "BaseException.__getattribute__"))) && (He.eqO (PySem.W.findIn K (.ref C) "__getattr__") (some none) &&
  (decide (PySem.W.subIn K (.ref C) (.type "BaseException") = some true) && (He.eqO (PySem.W.findIn K (.ref C) "__class__") (some (some (.builtin "object.__class__"))) && (He.eqO (PySem.W.specialIn K (.builtin "object.__class__") "__get__") (some (some (.builtin "getset_descriptor.__get__"))) &&
  (decide (PySem.W.takesIn K (.builtin "object.__class__") = some true) && decide (PySem.W.mroIn K C (.type "object") = some true)))))))
theorem exkB_ok {K : PySem.W.Frag} {C : Addr} (h : exkB K C = true) : ExK K C := by
  obtain ⟨h1, h⟩ := He.ba h
  obtain ⟨h2, h⟩ := He.ba h
  obtain ⟨h3, h⟩ := He.ba h
  obtain ⟨h4, h⟩ := He.ba h
  obtain ⟨h5, h⟩ := He.ba h
  obtain ⟨h6, h⟩ := He.ba h
  obtain ⟨h7, h8⟩ := He.ba h
  exact ⟨h1, He.eqO_ok h2, He.eqO_ok h3, of_decide_eq_true h4, He.eqO_ok h5, He.eqO_ok h6, of_decide_eq_true h7, of_decide_eq_true h8⟩
/-- isinstance of errors of the class c1: of c0 -/
def kiB (cl : Nat → Addr) (K : PySem.W.Frag) (c1 c0 : Nat) (b : Bool) : Bool := decide (PySem.W.kitOne K (.ref (cl c1)) (.ref (cl c0)) = some b)
theorem kiB_ok {cl : Nat → Addr} {K : PySem.W.Frag} {c1 c0 : Nat} {b : Bool} (h : kiB cl K c1 c0 b = true) : PySem.W.kitOne K (.ref (cl c1)) (.ref (cl c0)) = some b := of_decide_eq_true h
def dIsX (a dx : Addr) (k c1 c0 : Nat) (b : Bool) : DOpL := d2 fun d e kk => match d, e with
  | .exo a' dx' _, .cls c' => a' = a ∧ dx' = dx ∧ k = c1 ∧ c' = c0 ∧ kk (.val (.bl b))
  | _, _ => False
section
variable {X : Cx} {cl : Nat → Addr}
theorem b_isX {a dx : Addr} {k c1 c0 : Nat} {b : Bool} {oe : Obj} (hp : (a, oe) ∈ X.pn) (hz : Zc (.ref (cl k)) (some dx) oe) (hf : ∃ vs, oe.data = .fields vs) (C : ExK X.K (cl c1)) (hk : PySem.W.kitOne X.K (.ref (cl c1)) (.ref (cl c0)) = some b) :
    CallR X (.builtin "isinstance") (rL X.K cl (dIsX a dx k c1 c0 b)) := c2 fun pins s σ H v w us Q F d e Q0 I r sm p1 p2 q P => by
  cases d with
  | exo a' dx' fs =>
    cases e with
    | cls c' =>
      obtain ⟨rfl, rfl, rfl, rfl, q⟩ := q
      have hw := p2.cls
      have r' : Rep X.K cl F (.exo a' dx' fs) v := by
        rcases p1 with p1 | ⟨o, _, _, ez, _, cn, _⟩
        · exact p1
        · cases o <;> first | exact False.elim cn | cases ez
      rw [Rep] at r'
      obtain ⟨ev, ws, h1, h3⟩ := r'
      subst ev hw
      cases r with
      | cons rx rr =>
        cases rr with
        | cons rt rr =>
          cases rr
          cases rx
          cases rt
          obtain ⟨hget, _⟩ := I.pin (a', oe) (List.mem_append.mpr (.inl hp))
          obtain ⟨vs, hv⟩ := hf
          have hx : ObjOk X.prog X.w H s.heap dx' (.xd ws) := I.hok dx' _ (sm _ _ h1)
          obtain ⟨mA, hns, hr⟩ := hx
          obtain ⟨od, ho, hl⟩ := lookIn_ns hns
          have J : PySem.W.InstAt s.heap a' oe (cl k) (some od) := ⟨hget, hz.1, by unfold PySem.W.notCls; rw [hv] <;> rfl, by rw [hz.2]; exact ho⟩
          exact PySem.W.kia_one (PySem.W.kitx_exc C.hc C.hg C.hk C.hs C.ha C.hn C.ht C.hm) I.kIn J hk (fun z => nomatch z) fun tk => ⟨.bl b, H, I.kept (t' := tk) fun _ _ z => z, rfl, P.bl sm q⟩
    | _ => exact q.elim
  | _ => exact q.elim
end
/-! ### defs that look at the caught error, called in the suite -/
section
variable {P : Program} {w : World} {K : PySem.W.Frag} {mg : Str → Option Value} {base : Heap} {cl : Nat → Addr}
theorem fnP_ok {x qual : Str} {params : Arguments} {body : List Stmt} {scope : Scope} {dvs : List V} {kws : List (Str × V)} {f : Addr} {fd : FuncData} {pn : List (Addr × Obj)} {N ps : List Str} {k : Nat} {pin : List Nat} {ms : MS}
    (F : FunD K x qual params body scope dvs kws f fd) (S : FnScope N ps scope)
    (h : ∀ (cdv : Value) (A : Around) (outer : List Env) (s : Shared) (H : Hp) (E : XK), GoodU (cxP (L2.CX P w) P w K mg base pn N qual scope f cdv A outer s H E) (fun c d _ H' => E c d H') k →
      PMSs (cxP (L2.CX P w) P w K mg base pn N qual scope f cdv A outer s H E) cl (fun c d _ H' => E c d H') pin body ms) :
    FnP P w K mg base (L2.CX P w) pn (k + 1) f fd ps (spF K cl (fnSem N.length ps.length pin ms)) := by
  obtain ⟨oc, od, dV, kV, doc, pm, an, cdv, ct, osl, rfl, lk, hcd, _, _⟩ := F.ex
  refine fn_ofP lk hcd S (spF_len rfl) fun A outer s H vs Q E hr ⟨as, F0, fp, E0, Q0, e, hb, hQ, hE⟩ => ?_
  obtain ⟨hl, hio, hm⟩ := hb
  have hlv : as.length = vs.length := by have := e.len; simpa using this
  have hN : ps.length ≤ N.length := by have := congrArg List.length S.pre; rw [List.length_take] at this; omega
  refine ⟨LS K cl (fun c d _ H => E c d H) pin ms, h cdv A outer s H E ⟨hr, takes_of rfl rfl rfl rfl, S.nd⟩, ?_⟩
  rw [← hl] at hm
  have E1 := e.start (N := N) (by omega)
  have fin : ∀ {S' : Fm} {σ' : L2.St} {F' H' : Hp} {fp' : Nat → List Addr}, (∀ i ∈ pin, σ'[i]? = (L2.start N vs)[i]?) → Stp F0 H (as ++ List.replicate (N.length - as.length) .un) fp F' H' S' fp' → EnvR K cl F' H' σ' S' fp' →
      Stp F0 H as fp F' H' (outP pin as.length S') fp' ∧ EnvR K cl F' H' (vs.map some) (outP pin as.length S') fp' := fun {S' σ' F' H' fp'} p st e' =>
    ⟨⟨st.ff, fun a o q nt n => st.hh a o q nt fun z => n z.unstart, fun a o q nx z n => st.nn a o q nx z fun z => n z.unstart, fun a z => (st.oo a z.outP).imp_left Ow.unstart, st.th⟩, by rw [hlv]; exact e'.outP p⟩
  refine LS.iff.mpr ⟨_, F0, fp, _, E1, hm, ⟨fun xd S' q c d σ' F' H' fp' p st e' xr => ?_, fun S' q σ' F' H' fp' p st e' => ?_, fun S' q => q.elim, fun S' q => q.elim, fun r S' q v σ' F' H' fp' p st e' rr => ?_⟩⟩
  · obtain ⟨s1, e1⟩ := fin p st e'
    exact hE _ _ q c d F' H' fp' s1 e1 xr
  · obtain ⟨s1, e1⟩ := fin p st e'
    exact hQ _ _ q _ F' H' fp' s1 e1 (by show Rep _ _ _ _ _; rw [Rep]) (fun i z => by cases z)
  · obtain ⟨s1, e1⟩ := fin p st e'
    cases r with
    | val d => exact hQ _ _ q v F' H' fp' s1 e1 rr (fun i z => by cases z)
    | own o =>
      obtain ⟨p', fq, ev, c, hq⟩ := rr
      exact hQ _ _ q v F' H' fp' s1 e1 ⟨p', fq, ev, c, fun a ha => ⟨(hq a ha).1, fun z => (hq a ha).2.1 z.outP, (hq a ha).2.2.imp_right Ow.unstart⟩⟩ (fun i z => by cases z)
    | slot i =>
      obtain ⟨o, h1, h2⟩ := q
      obtain ⟨p', e2, c⟩ := e'.ow i o h1
      have e3 : σ'[i]? = some (some v) := rr
      rw [e2] at e3; cases e3
      have s2 : Stp F0 H (as ++ List.replicate (N.length - as.length) .un) fp F' H' (S'.set i .un) fp' := ⟨st.ff, st.hh, st.nn, fun a z => st.oo a z.setUn.1, st.th⟩
      obtain ⟨s3, e4⟩ := fin p s2 e'.setUn
      refine hQ _ _ h2 _ F' H' fp' s3 e4 ⟨p', fp' i, rfl, c, fun a ha => ⟨e'.nf i o h1 a ha, fun z => ?_, ?_⟩⟩ (fun i z => by cases z)
      · obtain ⟨_, j, u, ne, h5, h6⟩ := z.outP.setUn
        exact e'.dj j i u o ne h5 h1 a h6 ha
      · rcases st.oo a ⟨i, o, h1, ha⟩ with z | z
        · exact .inr z.unstart
        · exact .inl z
structure FncP (P : Program) (w : World) (K : PySem.W.Frag) (mg : Str → Option Value) (base : Heap) (cl : Nat → Addr) (k : Nat) (x : Str) (st : Stmt) (ps : List Str) (fs : Addr → Addr → Nat → FS) : Prop where
  ex : ∃ f fd, (∀ a dx kk oe, Zc (.ref (cl kk)) (some dx) oe → (∃ vs, oe.data = .fields vs) → FnP P w K mg base (L2.CX P w) [(a, oe)] k f fd ps (spF K cl (fs a dx kk))) ∧ mg x = some (.ref f) ∧ FunD K x x (defArgs st) (defBody st) (defScope st) [] [] f fd ∧ Binds K fd ps []
end
section
variable {X : Cx} {cl : Nat → Addr} {W : WX} {pin : List Nat} {fs : Addr → Addr → Nat → FS} {ma : MA} {k : Nat} {x : Str} {st : Stmt} {ps : List Str} {p pos : Pos} {e : Expr} {es : List Expr} {j kk : Nat} {a dx : Addr} {oe : Obj}
theorem qCallP (F : FncP X.prog X.w X.K X.mg X.base cl k x st ps fs) (g : GoodU X W j) (hk : k ≤ j) (hp : (a, oe) ∈ X.pn) (hz : Zc (.ref (cl kk)) (some dx) oe) (hf : ∃ vs, oe.data = .fields vs) (hg : Gl X x) (ha : PMA X cl W pin (e :: es) ma)
    (hdb : (x == ("__debug__" : Str)) = false := by decide) (he : starEach (e :: es) X.env = (false, eval e X.env) :: starEach es X.env := by rfl) (hpl : (backTo pos (starEach es X.env)).any (·.1) = false := by rfl) :
    PM X cl W pin (.Call (.Name x p) (e :: es) [] pos) (mCall (fs a dx kk) ma) := by
  obtain ⟨f, fd, F1, hm, FD, hb⟩ := F.ex
  refine PE.imp (pe_callP (F1 a dx kk oe hz hf) (fun q hq => ?_) (g.room.mono hk) hg hm FD.kp hb (fun σ => passAt g.takes σ) ha hdb he hpl) fun _ _ _ h => le_call h
  rcases List.mem_singleton.mp hq with rfl
  exact hp
end
end Mv

/-! Mv: list(range(n)). -/
namespace Mv
open PySem PySem.Spec PyProof.Rows L2
def mLstRg (me : ME) : ME := fun E Q S => me E (fun r S1 => match r with
  | .val (.int j) => 0 ≤ j ∧ j ≤ 16777216 ∧ Q (.own (.lst (rngD 0 j.toNat))) S1
  | _ => False) S
section
variable {X : Cx} {cl : Nat → Addr} {W : WX} {pin : List Nat} {j : Nat} {a : Expr} {me : ME} {p pos p2 pos2 : Pos}
theorem rg_rep {K : PySem.W.Frag} {F : Hp} {j : Int} : RepL K cl F (rngD 0 j.toNat) (rgV 0 j) := by
  have e1 : rngD 0 j.toNat = ((List.range j.toNat).map fun i => (0 : Int) + (i : Nat)).map D.int := by
    unfold rngD; rw [List.map_map]; rfl
  have e2 : rgV 0 j = ((List.range j.toNat).map fun i => (0 : Int) + (i : Nat)).map V.int := by
    unfold rgV; rw [List.map_map, show (j - 0) = j by omega]; rfl
  rw [e1, e2]
  exact RepL.of_ints F _
theorem qLstRg (gd : Good X W j) (hg : Gl X "list") (hm : X.mg "list" = none) (hg2 : Gl X "range") (hm2 : X.mg "range" = none) (ha : PM X cl W pin a me)
    (na : starEach [a] X.env = (false, eval a X.env) :: starEach [] X.env := by rfl) (na2 : starEach [.Call (.Name "range" p2) [a] [] pos2] X.env = (false, eval (.Call (.Name "range" p2) [a] [] pos2) X.env) :: starEach [] X.env := by rfl) :
    PM X cl W pin (.Call (.Name "list" p) [.Call (.Name "range" p2) [a] [] pos2] [] pos) (mLstRg me) :=
  PE.imp (pe_listRg gd.calm hg hm (prg_1 hg2 hm2 ha na) na2) fun σ H Q ⟨S, F, fp, E0, Q0, E, h2, x, k⟩ =>
    LE.mk E h2 x fun r S1 v F1 H1 fp1 q1 st1 e1 rr x1 => by
      match r, q1, rr with
      | .val (.int i), ⟨h0, h1, q⟩, rr =>
        have ev : v = .int i := by
          have r' : Rep X.K cl F1 (.int i) v := rr
          rw [Rep] at r'; exact r'
        subst ev
        exact ⟨i, rfl, RgOk.of_le (by omega) (by omega) (by omega) (by omega), fun q' hq => (post_of e1 st1 k).lst e1.sub q (rg_rep (j := i)) hq⟩
end
end Mv

/-! Mv: list(enumerate(x)). -/
namespace Mu
open PySem PySem.Spec PyProof.Rows L2
theorem wpAny_lia {M : Model} {A : Around} {E : Value → Shared → Prop} {s : Shared} {a : Addr} {Q : Option Obj → Shared → Prop} (h : Q (s.heap.get? a) s) : wpAny M A (loadIfAlive a) Q E s := fun Γ p _ => h
/-- an enumerate whose last pair lives on -/
def HeldEnum (h : Heap) (e it : Addr) (i : Int) : Prop := ∃ (a : Addr) (b : Bool) (y : Value), h.get? e = some { cls := .type "enumerate", dict := none, data := .fields #[rawInt a, .bool b, .ref it, rawInt i, .none, y], slots := #[] } ∧ a ≠ e ∧ a ≠ it ∧ ∃ o, h.get? a = some o
def EnSt (h : Heap) (e it : Addr) (i : Int) : Prop := (∃ old, IsEnum h e it i old) ∨ HeldEnum h e it i
section
variable {prog : Program} {w : World} {A : Around} {E : Value → Shared → Prop} {s : Shared}
theorem enumerate_next_held {e it : Addr} {fp : List Addr} {n i : Nat} {P : Nat → Value → Prop} {St : Nat → Heap → Prop} {Q : Value → Shared → Prop}
    (D : Draws prog w A it fp n P St) (he : HeldEnum s.heap e it i) (hst : St i s.heap) (hlt : i < n) (hne : e ≠ it) (hef : e ∉ fp)
    (hQ : ∀ x h' tk, P i x → HeldEnum h' e it ((i : Int) + 1) → St (i + 1) h' →
      h'.get? s.heap.objs.size = some { cls := .type "tuple", data := .seq #[.int i tk, x] } → h'.objs.size = s.heap.objs.size + 1 →
      (∀ b o, b ≠ e → b ≠ it → s.heap.get? b = some o → h'.get? b = some o) → Q (.ref s.heap.objs.size) { s with heap := h', toks := tk + 1 }) :
    wpAny (model prog w) A (Builtin.«enumerate.__next__» ⟨[.ref e], []⟩) (fun fin s' => ∃ v, fin = .done (.ret v) ∧ Q v s') E s := by
  obtain ⟨a, fl, y, he, hae, hai, oa, hoa⟩ := he
  obtain ⟨hp, g, d, tk₀, os⟩ := s
  have el : e < hp.objs.size := Heap.lt_size he
  show wpAny _ _ (field (.ref e) 2 >>= _) _ _ _
  refine wpAny_bind (wpAny_field he rfl (x := .ref it) rfl ?_)
  refine wpAny_bind (D.item i _ _ _ hlt hst fun x h₁ tk hPx hit₁ hs₁ => ?_)
  replace hs₁ : Heap.SameBut it hp h₁ := hs₁
  have he₁ : h₁.get? e = some { cls := .type "enumerate", dict := none, data := .fields #[rawInt a, .bool fl, .ref it, rawInt i, .none, y], slots := #[] } := (hs₁.2 e hne).trans he
  have ha₁ : h₁.get? a = some oa := (hs₁.2 a hai).trans hoa
  show wpAny _ _ (field (.ref e) 3 >>= _) _ _ ⟨h₁, g, d, tk, os⟩
  refine wpAny_bind (wpAny_field he₁ rfl (x := rawInt i) rfl ?_)
  show wpAny _ _ (field (.ref e) 4 >>= _) _ _ ⟨h₁, g, d, tk, os⟩
  refine wpAny_bind (wpAny_field he₁ rfl (x := .none) rfl ?_)
  show wpAny _ _ (mkInt i >>= _) _ _ ⟨h₁, g, d, tk, os⟩
  refine wpAny_bind (wpAny_mkInt ?_)
  show wpAny _ _ (setField (.ref e) 3 (rawInt ((i : Int) + 1)) >>= _) _ _ ⟨h₁, g, d, tk + 1, os⟩
  refine wpAny_bind (wpAny_setField_rec he₁ (by simp) fun h₂ he₂ hs₂ => ?_)
  replace hs₂ : Heap.SameBut e h₁ h₂ := hs₂
  replace he₂ : h₂.get? e = some { cls := .type "enumerate", dict := none, data := .fields #[rawInt a, .bool fl, .ref it, rawInt ((i : Int) + 1), .none, y], slots := #[] } := he₂
  show wpAny _ _ (setField (.ref e) 4 .none >>= _) _ _ ⟨h₂, g, d, tk + 1, os⟩
  refine wpAny_bind (wpAny_setField_rec he₂ (by simp) fun h₃ he₃ hs₃ => ?_)
  replace hs₃ : Heap.SameBut e h₂ h₃ := hs₃
  replace he₃ : h₃.get? e = some { cls := .type "enumerate", dict := none, data := .fields #[rawInt a, .bool fl, .ref it, rawInt ((i : Int) + 1), .none, y], slots := #[] } := he₃
  have ha₃ : h₃.get? a = some oa := (hs₃.2 a hae).trans ((hs₂.2 a hae).trans ha₁)
  show wpAny _ _ (newTuple [.int i tk, x] >>= _) _ _ ⟨h₃, g, d, tk + 1, os⟩
  refine wpAny_bind (wpAny_newTuple ?_)
  have he₄ : (h₃.push { cls := .type "tuple", data := .seq #[.int i tk, x] }).get? e = some { cls := .type "enumerate", dict := none, data := .fields #[rawInt a, .bool fl, .ref it, rawInt ((i : Int) + 1), .none, y], slots := #[] } := Heap.get?_push_of_some _ he₃
  have ha₄ : (h₃.push { cls := .type "tuple", data := .seq #[.int i tk, x] }).get? a = some oa := Heap.get?_push_of_some _ ha₃
  generalize hh₄ : h₃.push { cls := .type "tuple", data := .seq #[.int i tk, x] } = h₄ at he₄ ha₄
  have hsz : h₃.objs.size = hp.objs.size := by rw [hs₃.1, hs₂.1, hs₁.1]
  have hel : e < hp.objs.size := Heap.lt_size he
  have ht₄ : h₄.get? hp.objs.size = some { cls := .type "tuple", data := .seq #[.int i tk, x] } := by rw [← hh₄, ← hsz]; exact Heap.get?_push_size _ rfl
  have hz₄ : h₄.objs.size = hp.objs.size + 1 := by rw [← hh₄, Heap.size_push, hsz]
  have hk₄ : ∀ b o, b ≠ e → b ≠ it → hp.get? b = some o → h₄.get? b = some o := fun b o hbe hbi hb => by
    rw [← hh₄]; exact Heap.get?_push_of_some _ (hs₃.extBut b o hbe (hs₂.extBut b o hbe (hs₁.extBut b o hbi hb)))
  have hit₄ : St (i + 1) h₄ := D.frame _ _ _ hit₁ fun b hb o y => by
    have hbe : b ≠ e := fun q => hef (q ▸ hb)
    rw [← hh₄]; exact Heap.get?_push_of_some _ (hs₃.extBut b o hbe (hs₂.extBut b o hbe y))
  show wpAny _ _ (Builtin.SmallTypes.ownedTupleIsFree (.ref e) >>= _) _ _ ⟨h₄, g, d, tk + 1, os⟩
  rw [hsz]
  clear hh₄ he₃ hs₃ ha₃ he₂ hs₂ he₁ hs₁ ha₁ hit₁ hsz h₃ h₂ h₁
  refine wpAny_bind ?_
  unfold Builtin.SmallTypes.ownedTupleIsFree
  refine wpAny_bind (wpAny_field he₄ rfl (x := rawInt a) rfl ?_)
  show wpAny _ _ (loadIfAlive (Int.toNat a) >>= _) _ _ _
  refine wpAny_bind (wpAny_lia ?_)
  rw [Int.toNat_natCast, show (Shared.heap ⟨h₄, g, d, tk + 1, os⟩).get? a = some oa from ha₄]
  have fin : ∀ h₅ : Heap, HeldEnum h₅ e it ((i : Int) + 1) → Heap.SameBut e h₄ h₅ → Q (.ref hp.objs.size) ⟨h₅, g, d, tk + 1, os⟩ := fun h₅ he₅ hs₅ =>
    hQ x h₅ tk hPx he₅ (D.frame _ _ _ hit₄ fun b hb o z => hs₅.extBut b o (fun q => hef (q ▸ hb)) z) (hs₅.extBut _ _ (Nat.ne_of_gt hel) ht₄) (by rw [hs₅.1, hz₄]) fun b o hbe hbi hb => hs₅.extBut b o hbe (hk₄ b o hbe hbi hb)
  show wpAny _ _ (field (.ref e) 1 >>= _) _ _ _
  refine wpAny_bind (wpAny_field he₄ rfl (x := .bool fl) rfl ?_)
  cases fl with
  | true =>
    refine wpAny_pure ?_
    exact wpAny_pure ⟨_, rfl, fin h₄ ⟨a, true, y, he₄, hae, hai, oa, ha₄⟩ (Heap.SameBut.refl _ _)⟩
  | false =>
    show wpAny _ _ (setField (.ref e) 1 (.bool true) >>= _) _ _ _
    refine wpAny_bind (wpAny_setField_rec he₄ (by simp) fun h₅ he₅ hs₅ => ?_)
    refine wpAny_pure ?_
    exact wpAny_pure ⟨_, rfl, fin h₅ ⟨a, true, y, he₅, hae, hai, oa, (hs₅.2 a hae).trans ha₄⟩ hs₅⟩
theorem pyNext_en {e it : Addr} {fp : List Addr} {n i : Nat} {P : Nat → Value → Prop} {St : Nat → Heap → Prop} {Q : Option Value → Shared → Prop}
    (D : Draws prog w A.in1 it fp n P St) (he : EnSt s.heap e it i) (hst : St i s.heap) (hlt : i < n) (hne : e ≠ it) (hef : e ∉ fp) (hil : it < s.heap.objs.size)
    (hQ : ∀ x h' tk, P i x → EnSt h' e it ((i : Int) + 1) → St (i + 1) h' →
      h'.get? s.heap.objs.size = some { cls := .type "tuple", data := .seq #[.int i tk, x] } → h'.objs.size = s.heap.objs.size + 1 →
      (∀ b o, b ≠ e → b ≠ it → s.heap.get? b = some o → h'.get? b = some o) → Q (some (.ref s.heap.objs.size)) { s with heap := h', toks := tk + 1 }) :
    wpAny (model prog w) A (pyNext (.ref e)) Q E s := by
  rcases he with ⟨old, he⟩ | he
  · have hel : e < s.heap.objs.size := Heap.lt_size he
    refine wpAny_pyNext_enum_itemD D he hst hlt hne hef fun x h' tk a b c d k q => hQ x h' tk a (.inr ⟨_, _, _, b, Nat.ne_of_gt hel, Nat.ne_of_gt hil, _, d⟩) c d k q
  · have hT : s.TypeIs (.ref e) "enumerate" := by obtain ⟨_, _, _, z, _⟩ := he; exact ⟨_, z, rfl⟩
    unfold pyNext
    exact wpAny_bind (wpAny_attempt (wpAny_callSpecial?_slot (name := Str.ofString "__next__") hT F.slot_enumerate_next
      (wpAny_call_entry F.slot_enumerate_next hT F.entry_enumerate_next
        (enumerate_next_held D he hst hlt hne hef fun x h' tk a b c d k q => wpAny_pure (hQ x h' tk a (.inr b) c d k q)) (F.args_enumerate_next_1 _))))
theorem pyNext_en_end {e it : Addr} {fp : List Addr} {n : Nat} {P : Nat → Value → Prop} {St : Nat → Heap → Prop} {i : Int} {Q : Option Value → Shared → Prop}
    (D : Draws prog w A.in1 it fp n P St) (he : EnSt s.heap e it i) (hst : St n s.heap)
    (hQ : ∀ h', Heap.ExtBut it s.heap h' → Q none { s with heap := h' }) : wpAny (model prog w) A (pyNext (.ref e)) Q E s := by
  have go : ∀ {f0 f1 f3 f5 : Value}, s.heap.get? e = some { cls := .type "enumerate", dict := none, data := .fields #[f0, f1, .ref it, f3, .none, f5], slots := #[] } → wpAny (model prog w) A (pyNext (.ref e)) Q E s := fun {f0 f1 f3 f5} he => by
    have hT : s.TypeIs (.ref e) "enumerate" := ⟨_, he, rfl⟩
    unfold pyNext
    refine wpAny_bind (wpAny_attempt (wpAny_callSpecial?_slot (name := Str.ofString "__next__") hT F.slot_enumerate_next
      (wpAny_call_entry F.slot_enumerate_next hT F.entry_enumerate_next ?_ (F.args_enumerate_next_1 _))))
    show wpAny _ _ (field (.ref e) 2 >>= _) _ _ _
    refine wpAny_bind (wpAny_field he rfl (x := .ref it) rfl ?_)
    refine wpAny_bind (D.done _ _ _ hst fun h' x he' hx' => ?_)
    obtain ⟨o, ho, hc⟩ := hx'
    refine wpAny_bind (wpAny_isInstance (T := "StopIteration") (b := true) ⟨o, ho, hc⟩ isSubtype_stop ?_)
    exact wpAny_pure (hQ _ he')
  rcases he with ⟨old, he⟩ | ⟨_, _, _, he, _⟩
  · exact go he
  · exact go he
end
theorem EnSt.keep {h h' : Heap} {e it : Addr} {i : Int} (st : EnSt h e it i) (k : ∀ o, h.get? e = some o → h'.get? e = some o) (k2 : ∀ b o, h.get? b = some o → ∃ o', h'.get? b = some o') : EnSt h' e it i := by
  rcases st with ⟨old, he⟩ | ⟨a, b, y, he, h1, h2, o, ho⟩
  · exact .inl ⟨old, k _ he⟩
  · exact .inr ⟨a, b, y, k _ he, h1, h2, k2 _ _ ho⟩
/-- an object that stood by is told of -/
theorem layFp {X : Cx} {pins : List (Addr × Obj)} {σ : L2.St} {H : Hp} {s : Shared} {T : Addr} {ob : HO} (I : Inv X pins σ H s) (hf : FpOk X pins H T) (new : ObjOk X.prog X.w (upd H T ob) s.heap T ob) : Inv X pins σ (upd H T ob) s := by
  have hn : H T = none := hf.1
  have := I.step (h' := s.heap) (H' := upd H T ob) (t' := s.toks) (g' := s.gens) (d' := s.drawn) (ch := [T]) (fun b hb => by
    have e : b = T := by simpa using hb
    subst e; exact ⟨hf.2.2.2.1, hf.2.1, hf.2.2.2.2.1, hf.2.2.2.2.2⟩) (fun b o _ _ hc e _ => e) (fun b o _ _ hc e _ => ⟨o.slots, e⟩)
    (fun b o hc e n => by rw [upd_ne (by simpa using hc)]; exact n) (fun b o hc e => ⟨o, e⟩) (fun b xs e => by rw [upd_ne (ne_of_none e hn)]; exact e) (fun b o u e => by rw [upd_ne (ne_of_none e hn)]; exact e)
    (fun b ps e => ⟨#[], by rw [upd_ne (ne_of_none e hn), e]; simp⟩) (fun m hm => hm) (fun b u e => by
      by_cases hb : b = T
      · subst hb
        rw [upd_same] at e
        cases e
        exact new
      · rw [upd_ne hb] at e
        exact (I.hok b u e).stay (fun c v hc q => q) (fun c q => by rw [upd_ne (ne_of_none q hn)]; exact q) fun c xs q => by rw [upd_ne (ne_of_none q hn)]; exact q) I.bare
  exact this
/-- the first pairs -/
def PairsAt (H0 H : Hp) (xs vs : List V) (i : Nat) : Prop := vs.length = i ∧ ∀ j x, j < i → xs[j]? = some x → ∃ T, vs[j]? = some (.ref T) ∧ H T = some (.tup [.int (j : Nat), x]) ∧ H0 T = none
theorem ext_enum {X : Cx} {pins : List (Addr × Obj)} {σ : L2.St} {H0 : Hp} {e it S : Addr} {fp : List Addr} {n : Nat} {P : Nat → Value → Prop} {St : Nat → Heap → Prop} {xs : List V} {A : Around} {R : Result → Shared → Prop}
    (D : Draws X.prog X.w A.in1.in1 it fp n P St) (hP : ∀ i v, P i v → i < n → ∃ x, xs[i]? = some x ∧ RelV x v) (hei : e ≠ it) (hef : e ∉ fp) (hSf : S ∉ fp) (hSe : S ≠ e) (hif : it ∈ fp) (hn : n ≤ sizeLine) :
    ∀ (k i : Nat) (s : Shared) (H : Hp) (acc : Array Value) (c : Nat) (vs : List V), n - i = k → i ≤ n → EnSt s.heap e it i → St i s.heap → s.heap.get? S = some { cls := .type "list", dict := none, data := .seq acc c, slots := #[] } →
      Inv X pins σ H s → (∀ b ∈ [S, e, it], FpOk X pins H b) → Same H0 H → Vals vs acc.toList → PairsAt H0 H xs vs i →
      (∀ s' H' acc' c' vs', Inv X pins σ H' s' → Same H0 H' → s'.heap.get? S = some { cls := .type "list", dict := none, data := .seq acc' c', slots := #[] } → Vals vs' acc'.toList → PairsAt H0 H' xs vs' n → FpOk X pins H' S → R (.ok (.ret .none)) s') →
      codeAny (model X.prog X.w) A (.builtin "list.extend.loop" ⟨[.ref S, .ref e, .none], []⟩) R s := by
  have hSi : S ≠ it := fun z => hSf (z ▸ hif)
  intro k
  induction k with
  | zero =>
    intro i s H acc c vs hk hi he hst hS I hf sm rv pa hR
    have hin : i = n := by omega
    subst hin
    refine codeAny_builtin F.entry_extend_loop ?_
    rw [Around.under_plainId F.plain_extend_loop _]
    show wpAny _ A.in1 (pyNext (.ref e) >>= _) _ _ s
    refine wpAny_bind (pyNext_en_end D he hst fun h' eb => ?_)
    have I1 : Inv X pins σ H { s with heap := h' } := I.turnedL (t' := s.toks) (ch := [it]) (fun b o hb q => eb b o (by simpa using hb) q) fun b hb => hf b (by
      have e' : b = it := by simpa using hb
      rw [e']; simp)
    exact wpAny_pure (hR { s with heap := h' } H acc c vs I1 sm (eb S _ hSi hS) rv pa (hf S (by simp)))
  | succ k ih =>
    intro i s H acc c vs hk hi he hst hS I hf sm rv pa hR
    have hlt : i < n := by omega
    have hil : it < s.heap.objs.size := by obtain ⟨o, z⟩ := D.live _ _ hst; exact Heap.lt_size z
    have hel : e < s.heap.objs.size := by
      rcases he with ⟨_, z⟩ | ⟨_, _, _, z, _⟩
      · exact Heap.lt_size z
      · exact Heap.lt_size z
    have hSl : S < s.heap.objs.size := Heap.lt_size hS
    refine codeAny_builtin F.entry_extend_loop ?_
    rw [Around.under_plainId F.plain_extend_loop _]
    show wpAny _ A.in1 (pyNext (.ref e) >>= _) _ _ s
    refine wpAny_bind (pyNext_en D he hst hlt hei hef hil fun v h' tk hPv he' hst' hT hsz hk' => ?_)
    obtain ⟨x, hx, rx⟩ := hP i v hPv hlt
    have hS' : h'.get? S = some { cls := .type "list", dict := none, data := .seq acc c, slots := #[] } := hk' S _ hSe hSi hS
    have al : acc.size = i := by have := rv.length; rw [pa.1] at this; simpa using this.symm
    show wpAny _ A.in1 (updateSeq S (·.push (.ref s.heap.objs.size)) >>= _) _ _ _
    refine wpAny_bind ?_
    have oth : ∀ b o, b ≠ S → h'.get? b = some o → (h'.update S (Obj.mapSeq (·.push (Value.ref s.heap.objs.size)))).get? b = some o := fun b o hb z => (Heap.get?_update_other _ _ (Ne.symm hb)).trans z
    have hTS : s.heap.objs.size ≠ S := Nat.ne_of_gt hSl
    have hT2 := oth _ _ hTS hT
    have hn0 : H s.heap.objs.size = none := I.hok.fresh (Nat.le_refl _)
    have new : ObjOk X.prog X.w (upd H s.heap.objs.size (.tup [.int (i : Nat), x])) (h'.update S (Obj.mapSeq (·.push (Value.ref s.heap.objs.size)))) s.heap.objs.size (.tup [.int (i : Nat), x]) :=
      ⟨by show 2 ≤ sizeLine; decide, [.int i tk, v], .cons ⟨_, rfl⟩ (.cons rx .nil), ⟨_, hT2, rfl, _, rfl⟩⟩
    have I1 : Inv X pins σ (upd H s.heap.objs.size (.tup [.int (i : Nat), x])) { s with heap := h'.update S (Obj.mapSeq (·.push (Value.ref s.heap.objs.size))), toks := tk + 1 } :=
      I.turnedNew (ch := [S, e, it]) (fun b ob hb q => oth b ob (fun z => hb (by simp [z])) (hk' b ob (fun z => hb (by simp [z])) (fun z => hb (by simp [z])) q)) hf (Nat.le_refl _) new
    have sm1 : Same H (upd H s.heap.objs.size (.tup [.int (i : Nat), x])) := fun b o z => by rw [upd_ne (ne_of_none z hn0)]; exact z
    refine wpAny_updateSeq hS' rfl (wpAny_pure ⟨plainId_quiet F.plain_extend_loop _, ih (i + 1) _ (upd H s.heap.objs.size (.tup [.int (i : Nat), x])) (acc.push (.ref s.heap.objs.size)) _ (vs ++ [.ref s.heap.objs.size]) (by omega) hlt ?_ ?_ (Heap.get?_update_self _ hS' rfl) I1 (fun b hb => ?_) (sm.trans sm1) ?_ ?_ fun s2 H2 acc2 c2 vs2 I2 sm2 hS2 rv2 pa2 f2 => hR s2 H2 acc2 c2 vs2 I2 sm2 hS2 rv2 pa2 f2⟩) (by rw [al]; omega) (by show (acc.push _).size ≤ sizeLine + 1; rw [Array.size_push, al]; omega)
    · have e1 : ((i + 1 : Nat) : Int) = (i : Int) + 1 := by omega
      rw [e1]
      exact he'.keep (fun o z => oth e o (Ne.symm hSe) z) fun b o z => by
        by_cases c : b = S
        · subst c; exact ⟨_, Heap.get?_update_self _ hS' rfl⟩
        · exact ⟨o, oth b o c z⟩
    · exact D.frame _ _ _ hst' fun b hb o z => oth b o (fun w => hSf (w ▸ hb)) z
    · have hbl : b < s.heap.objs.size := by
        have e' : b = S ∨ b = e ∨ b = it := by simpa using hb
        rcases e' with z | z | z <;> rw [z] <;> assumption
      obtain ⟨f0, fr⟩ := hf b hb
      exact ⟨by rw [upd_ne (Nat.ne_of_lt hbl)]; exact f0, fr⟩
    · rw [Array.toList_push]
      exact rv.append (.cons rfl .nil)
    · refine ⟨by rw [List.length_append, pa.1]; rfl, fun j y hj hy => ?_⟩
      by_cases c : j < i
      · obtain ⟨T, h1, h2, h3⟩ := pa.2 j y c hy
        exact ⟨T, by rw [List.getElem?_append_left (by rw [pa.1]; exact c)]; exact h1, sm1 _ _ h2, h3⟩
      · have e1 : j = i := by omega
        subst e1
        rw [hx] at hy
        cases hy
        refine ⟨s.heap.objs.size, by rw [List.getElem?_append_right (by rw [pa.1]; exact Nat.le_refl _), pa.1]; simp, upd_same, ?_⟩
        cases z : H0 s.heap.objs.size with
        | none => rfl
        | some w => rw [sm _ _ z] at hn0; cases hn0
theorem enum_no_len : typeLookup (.type "enumerate") "__len__" = pure none := by rw [typeLookup_type, builtinLookup_eq_fast]; kernel_rfl
theorem enum_no_hint : typeLookup (.type "enumerate") "__length_hint__" = pure none := by rw [typeLookup_type, builtinLookup_eq_fast]; kernel_rfl
theorem init_enum {X : Cx} {pins : List (Addr × Obj)} {σ : L2.St} {H : Hp} {s : Shared} {e it S : Addr} {fp : List Addr} {n : Nat} {P : Nat → Value → Prop} {St : Nat → Heap → Prop} {xs : List V} {A : Around} {R : Result → Shared → Prop}
    (D : Draws X.prog X.w A.in1.in1 it fp n P St) (hP : ∀ i v, P i v → i < n → ∃ x, xs[i]? = some x ∧ RelV x v) (hei : e ≠ it) (hef : e ∉ fp) (hSf : S ∉ fp) (hSe : S ≠ e) (hif : it ∈ fp) (hn : n ≤ sizeLine)
    (he : IsEnum s.heap e it 0 .none) (hst : St 0 s.heap) (hS : s.heap.get? S = some { cls := .type "list", data := .seq #[] }) (I : Inv X pins σ H s) (hf : ∀ b ∈ [S, e, it], FpOk X pins H b)
    (hR : ∀ s' H' acc' c' vs', Inv X pins σ H' s' → Same H H' → s'.heap.get? S = some { cls := .type "list", dict := none, data := .seq acc' c', slots := #[] } → Vals vs' acc'.toList → PairsAt H H' xs vs' n → FpOk X pins H' S → R (.ok (.ret .none)) s') :
    wpAny (model X.prog X.w) A.in1 (Builtin.«list.__init__» ⟨[.ref S, .ref e], []⟩)
      (fun fin s' => match fin with | .done f => R (.ok f) s' | .again c' => c'.quiet = true ∧ codeAny (model X.prog X.w) A c' R s') (fun e s' => R (.error e) s') s := by
  have hT : ∀ {h : Heap}, IsEnum h e it 0 .none → (({ s with heap := h } : Shared)).TypeIs (.ref e) "enumerate" := fun z => ⟨_, z, rfl⟩
  show wpAny _ A.in1 (do let old ← Builtin.List.listItems (.ref S); Builtin.List.listUpdate (.ref S) (fun _ => #[]); letGo old.toList.reverse; Builtin.List.listExtendWith (.ref S) (.ref e) .none) _ _ s
  refine wpAny_bind ?_
  unfold Builtin.List.listItems
  refine wpAny_bind (wpAny_seqItems hS rfl (wpAny_pure ?_))
  show wpAny _ A.in1 (updateSeq S (fun _ => #[]) >>= fun _ => letGo (#[] : Array Value).toList.reverse >>= fun _ => Builtin.List.listExtendWith (.ref S) (.ref e) .none) _ _ s
  refine wpAny_bind (wpAny_updateSeq hS rfl ?_)
  have hS₂ := Heap.get?_update_self (Obj.mapSeq (fun _ => (#[] : Array Value))) hS rfl
  have oth : ∀ b o, b ≠ S → s.heap.get? b = some o → (s.heap.update S (Obj.mapSeq (fun _ => (#[] : Array Value)))).get? b = some o :=
    fun b o hb z => (Heap.get?_update_other _ _ (Ne.symm hb)).trans z
  refine wpAny_bind (wpAny_letGo ?_)
  have he₂ : IsEnum (s.heap.update S (Obj.mapSeq (fun _ => (#[] : Array Value)))) e it 0 .none := oth e _ (Ne.symm hSe) he
  have hst₂ : St 0 (s.heap.update S (Obj.mapSeq (fun _ => (#[] : Array Value)))) := D.frame _ _ _ hst fun b hb o z => oth b o (fun w => hSf (w ▸ hb)) z
  unfold Builtin.List.listExtendWith
  refine wpAny_bind (wpAny_typeOf (hT he₂) ?_)
  have h1 : Builtin.List.listSameRef (.ref S) (.ref e) = false := by simp [Builtin.List.listSameRef, hSe]
  have h2 : (Value.type "enumerate" == Value.type "list") = false := by decide
  have h3 : (Value.type "enumerate" == Value.type "tuple") = false := by decide
  simp only [h1, h2, h3, Bool.or_false, Bool.false_eq_true, if_false]
  refine wpAny_bind (wpAny_pyIter_enum he₂ ?_)
  refine wpAny_bind (wpAny_holding ?_)
  unfold Builtin.List.listLengthHint
  refine wpAny_bind (wpAny_specialOf (hT he₂) enum_no_len ?_)
  show wpAny _ A.in1 (specialOf (Value.ref e) (Str.ofString "__length_hint__") >>= _) _ _ _
  refine wpAny_bind (wpAny_specialOf (hT he₂) enum_no_hint ?_)
  refine wpAny_pure ?_
  show wpAny _ A.in1 (rule "list.extend.makes-room" >>= fun _ => Builtin.List.listTouch (.ref S) >>= fun _ =>
    again (.builtin "list.extend.loop" ⟨[.ref S, .ref e, .none], []⟩)) _ _ _
  refine wpAny_bind (wpAny_rule ?_)
  refine wpAny_bind ?_
  show wpAny _ A.in1 (updateSeq S (·.push .none) >>= fun _ => updateSeq S (·.pop)) _ _ _
  refine wpAny_bind (wpAny_updateSeq hS₂ rfl ?_)
  have hS₃ := Heap.get?_update_self (Obj.mapSeq (·.push Value.none)) hS₂ rfl
  refine wpAny_updateSeq hS₃ rfl ?_ (by show 1 ≤ sizeLine; decide) (by show 0 ≤ _; exact Nat.zero_le _)
  have hS₄ := Heap.get?_update_self (Obj.mapSeq (·.pop)) hS₃ rfl
  have oth2 : ∀ b o, b ≠ S → s.heap.get? b = some o → (((s.heap.update S (Obj.mapSeq (fun _ => (#[] : Array Value)))).update S (Obj.mapSeq (·.push Value.none))).update S (Obj.mapSeq (·.pop))).get? b = some o :=
    fun b o hb z => (Heap.get?_update_other _ _ (Ne.symm hb)).trans ((Heap.get?_update_other _ _ (Ne.symm hb)).trans (oth b o hb z))
  have I2 : Inv X pins σ H { s with heap := ((s.heap.update S (Obj.mapSeq (fun _ => (#[] : Array Value)))).update S (Obj.mapSeq (·.push Value.none))).update S (Obj.mapSeq (·.pop)) } :=
    I.turnedL (t' := s.toks) (ch := [S]) (fun b o hb q => oth2 b o (by simpa using hb) q) fun b hb => hf b (by
      have e' : b = S := by simpa using hb
      rw [e']; simp)
  refine wpAny_pure ⟨plainId_quiet F.plain_extend_loop _, ext_enum (H0 := H) (xs := xs) D hP hei hef hSf hSe hif hn n 0 _ H #[] _ [] rfl (Nat.zero_le _) (.inl ⟨.none, oth2 e _ (Ne.symm hSe) he⟩)
    (D.frame _ _ _ hst fun b hb o z => oth2 b o (fun w => hSf (w ▸ hb)) z) hS₄ I2 hf (Same.refl H) .nil ⟨rfl, fun j x hj _ => absurd hj (Nat.not_lt_zero _)⟩ hR⟩
theorem call_list_enum {X : Cx} {pins : List (Addr × Obj)} {σ : L2.St} {H : Hp} {s : Shared} {e it : Addr} {fp : List Addr} {n : Nat} {P : Nat → Value → Prop} {St : Nat → Heap → Prop} {xs : List V} {A : Around} {E : Value → Shared → Prop} {Q : Value → Shared → Prop}
    (D : Draws X.prog X.w A.in1.in1.in1 it fp n P St) (hP : ∀ i v, P i v → i < n → ∃ x, xs[i]? = some x ∧ RelV x v) (hei : e ≠ it) (hef : e ∉ fp) (hif : it ∈ fp) (hfp : ∀ b ∈ fp, b < s.heap.objs.size) (hn : n ≤ sizeLine)
    (he : IsEnum s.heap e it 0 .none) (hst : St 0 s.heap) (I : Inv X pins σ H s) (hf : ∀ b ∈ [e, it], FpOk X pins H b)
    (hQ : ∀ s' H' acc' c' vs', Inv X pins σ H' s' → Same H H' → s'.heap.get? s.heap.objs.size = some { cls := .type "list", dict := none, data := .seq acc' c', slots := #[] } → Vals vs' acc'.toList → PairsAt H H' xs vs' n → FpOk X pins H' s.heap.objs.size → Q (.ref s.heap.objs.size) s') :
    wpAny (model X.prog X.w) A (call (.type "list") [.ref e]) Q E s := by
  have hel : e < s.heap.objs.size := Heap.lt_size he
  have hSf : s.heap.objs.size ∉ fp := fun hm => Nat.lt_irrefl _ (hfp _ hm)
  refine callType_codes (Q₁ := fun obj s₁ => obj = .ref s.heap.objs.size ∧ s₁ = { s with heap := s.heap.push { cls := .type "list", data := .seq #[] } }) F.called_list (F.typeCall_list_1 _) F.entry_list_init
    (code_list_new _ ⟨rfl, rfl⟩) fun obj s₁ h₁ => ?_
  obtain ⟨rfl, rfl⟩ := h₁
  have hS : (s.heap.push { cls := .type "list", data := .seq #[] }).get? s.heap.objs.size = some { cls := .type "list", data := .seq #[] } := Heap.get?_push_size _ rfl
  have kp : ∀ b o, s.heap.get? b = some o → (s.heap.push { cls := .type "list", data := .seq #[] }).get? b = some o := fun b o z => Heap.get?_push_of_some _ z
  refine ⟨⟨_, hS, rfl⟩, F.args_list_init_2 _ _, init_enum D hP hei hef hSf (Nat.ne_of_gt hel) hif hn (kp _ _ he) (D.frame _ _ _ hst fun b _ o z => kp b o z) hS (I.kept (t' := s.toks) kp) (fun b hb => ?_) fun s' H' acc' c' vs' I' sm hS' rv pa f => ?_⟩
  · rcases List.mem_cons.mp hb with z | z
    · subst z; exact I.fpOk (Nat.le_refl _) (I.hok.fresh (Nat.le_refl _))
    · exact hf b z
  · exact ⟨rfl, hQ s' H' acc' c' vs' I' sm hS' rv pa f⟩
end Mu
namespace Mu
open PySem PySem.Spec PyProof.Rows L2
def tLstEn (K : PySem.W.Frag) (ta : TA) : TE := fun σ H Q => ta σ H fun vs H1 => ∃ a xs, vs = [.ref a] ∧ (SqL K H1 a xs ∨ SqT K H1 a xs) ∧ ∀ H' q us, Same H1 H' → PairsAt H1 H' xs us xs.length → H' q = none → Q (.ref q) (upd H' q (.lst us))
theorem pe_listEn {X : Cx} {e : Expr} {ta : TA} {p p2 pos pos2 : Pos} (hc : X.calm = true) (hg : Gl X "list") (hm : X.mg "list" = none) (hg2 : Gl X "enumerate") (hm2 : X.mg "enumerate" = none) (ha : PA X [e] ta) (hs : starEach [e] X.env = [(false, eval e X.env)] := by rfl)
    (na : starEach [.Call (.Name "enumerate" p2) [e] [] pos2] X.env = (false, eval (.Call (.Name "enumerate" p2) [e] [] pos2) X.env) :: starEach [] X.env := by rfl) : PE X (.Call (.Name "list" p) [.Call (.Name "enumerate" p2) [e] [] pos2] [] pos) (tLstEn X.K ta) := by
  refine ⟨fun pins s σ H Q I h => ?_⟩
  have inner : wpAny (model X.prog X.w) X.A (eval (.Call (.Name "enumerate" p2) [e] [] pos2) X.env) (fun x s1 => ∃ (en it a : Addr) (xs : List V) (its : List Value) (H1 : Hp), x = .ref en ∧ Inv X pins σ H1 s1 ∧ IsEnum s1.heap en it 0 .none ∧ en ≠ it ∧ (∀ b ∈ [en, it], FpOk X pins H1 b) ∧
      Vals xs its ∧ xs.length ≤ sizeLine ∧ a ≠ en ∧ a ≠ it ∧ ((s1.heap.IsListIter it a 0 ∧ s1.heap.IsList a its.toArray) ∨ (s1.heap.IsTupleIter it a 0 ∧ s1.heap.IsTuple a its.toArray)) ∧ ∀ H' q us, Same H1 H' → PairsAt H1 H' xs us xs.length → H' q = none → Q (.ref q) (upd H' q (.lst us))) X.xe s := by
    refine Call_ (ld_blt I hg2 hm2 boot_enumerate (PyProof.Rows.callWith_type1 (thn (ha.run pos2 pins s σ H _ I h) fun us s1 ⟨vs, H1, I1, r1, q1⟩ => ?_) hs rfl))
    obtain ⟨a, xs, ex, hq, q⟩ := q1
    subst ex
    cases r1 with
    | cons r rr =>
      cases rr
      cases r
      have fp : ∀ b ∈ [s1.heap.objs.size + 1, s1.heap.objs.size], FpOk X pins H1 b := fun b hb => by
        have e' : b = s1.heap.objs.size + 1 ∨ b = s1.heap.objs.size := by simpa using hb
        have hle : s1.heap.objs.size ≤ b := by
          rcases e' with z | z
          · rw [z]; exact Nat.le_add_right _ _
          · rw [z]; exact Nat.le_refl _
        exact I1.fpOk hle (I1.hok.fresh hle)
      rcases hq with hq | hq
      · obtain ⟨its, rv, p', hz⟩ := I1.list hq
        have hl : a < s1.heap.objs.size := by obtain ⟨o, ho, _⟩ := p'.isList; exact Heap.lt_size ho
        refine call_enumerate_list p'.isList fun h' he hit hsz hk => ?_
        have I2 : Inv X pins σ H1 { s1 with heap := h' } := I1.kept (t' := s1.toks) hk
        exact ⟨s1.heap.objs.size + 1, s1.heap.objs.size, a, xs, its, H1, rfl, I2, he, Nat.succ_ne_self _, fp, rv, hz, Nat.ne_of_lt (Nat.lt_succ_of_lt hl), Nat.ne_of_lt hl, .inl ⟨hit, by obtain ⟨o, ho, r⟩ := p'.isList; exact ⟨o, hk _ _ ho, r⟩⟩, q⟩
      · obtain ⟨its, rv, p', hz⟩ := I1.tuple hq
        have hl : a < s1.heap.objs.size := by obtain ⟨o, ho, _⟩ := p'; exact Heap.lt_size ho
        refine call_enumerate_tuple p' fun h' he hit hsz hk => ?_
        have I2 : Inv X pins σ H1 { s1 with heap := h' } := I1.kept (t' := s1.toks) hk
        exact ⟨s1.heap.objs.size + 1, s1.heap.objs.size, a, xs, its, H1, rfl, I2, he, Nat.succ_ne_self _, fp, rv, hz, Nat.ne_of_lt (Nat.lt_succ_of_lt hl), Nat.ne_of_lt hl, .inr ⟨hit, by obtain ⟨o, ho, r⟩ := p'; exact ⟨o, hk _ _ ho, r⟩⟩, q⟩
  refine Call_ (ld_blt I hg hm boot_list (PyProof.Rows.callWith_type1 (args_cons (thn inner fun x s1 ⟨en, it, a, xs, its, H1, ex, I1, he, hne, fp, rv, hz, hae, hai, src, q⟩ => args_nil ?_) na) na))
  subst ex
  have hlen : its.toArray.size = xs.length := by rw [List.size_toArray, rv.length]
  have hP : ∀ (i : Nat) (v : Value), its.toArray[i]? = some v → i < its.toArray.size → ∃ x, xs[i]? = some x ∧ RelV x v := fun i v hv hi => by
    have hx : i < xs.length := by rw [← hlen]; exact hi
    obtain ⟨u, hu, ru⟩ := rv.get (List.getElem?_eq_getElem hx)
    have hv' : its[i]? = some v := by simpa using hv
    rw [hu] at hv'
    cases hv'
    exact ⟨_, List.getElem?_eq_getElem hx, ru⟩
  have fin : ∀ s' H' acc' c' vs', Inv X pins σ H' s' → Same H1 H' → s'.heap.get? s1.heap.objs.size = some { cls := .type "list", dict := none, data := .seq acc' c', slots := #[] } → Vals vs' acc'.toList → PairsAt H1 H' xs vs' its.toArray.size → FpOk X pins H' s1.heap.objs.size → EP X pins σ Q (.ref s1.heap.objs.size) s' := fun s' H' acc' c' vs' I' sm hS rv' pa f => by
    rw [hlen] at pa
    refine ⟨.ref s1.heap.objs.size, upd H' s1.heap.objs.size (.lst vs'), layFp I' f (show ObjOk X.prog X.w _ _ _ (.lst vs') from ⟨?_, acc'.toList, c', rv', ?_⟩), rfl, q H' _ vs' sm pa f.1⟩
    · rw [pa.1]; exact hz
    · rw [Array.toArray_toList]; exact hS
  have hel : en < s1.heap.objs.size := Heap.lt_size he
  rcases src with ⟨s1i, s1l⟩ | ⟨s1i, s1l⟩
  · have hil : it < s1.heap.objs.size := by obtain ⟨_, z, _⟩ := id s1i; exact Heap.lt_size z
    have hal : a < s1.heap.objs.size := by obtain ⟨_, z, _⟩ := id s1l; exact Heap.lt_size z
    refine call_list_enum (Draws.list (show X.A.in1.in1.in1.handled = none from I1.ok.hd hc) it a hai its.toArray) hP hne (by simp [hne, Ne.symm hae]) (by simp) (fun b hb => ?_) (by rw [hlen]; exact hz) he ⟨s1i, s1l⟩ I1 fp fin
    have e' : b = it ∨ b = a := by simpa using hb
    rcases e' with z | z <;> rw [z] <;> assumption
  · have hil : it < s1.heap.objs.size := by obtain ⟨_, z, _⟩ := id s1i; exact Heap.lt_size z
    have hal : a < s1.heap.objs.size := by obtain ⟨_, z, _⟩ := id s1l; exact Heap.lt_size z
    refine call_list_enum (Draws.tuple (show X.A.in1.in1.in1.handled = none from I1.ok.hd hc) it a hai its.toArray) hP hne (by simp [hne, Ne.symm hae]) (by simp) (fun b hb => ?_) (by rw [hlen]; exact hz) he ⟨s1i, s1l⟩ I1 fp fin
    have e' : b = it ∨ b = a := by simpa using hb
    rcases e' with z | z <;> rw [z] <;> assumption
end Mu
namespace Mv
open PySem L2
def mLstEn (m : ME) : ME := fun E Q S => m E (fun r S1 => match fzR r with
  | .val (.lst xs) => Q (.own (.lst (enD xs))) S1
  | .val (.rol xs) => Q (.own (.lst (enD xs))) S1
  | .val (.tup xs) => Q (.own (.lst (enD xs))) S1
  | .val (.rot xs) => Q (.own (.lst (enD xs))) S1
  | _ => False) S
theorem repL_of {cl : Nat → Addr} {K : PySem.W.Frag} {F : Hp} : ∀ {ds : List D} {vs : List V}, vs.length = ds.length → (∀ (j : Nat) (d : D), ds[j]? = some d → ∃ v, vs[j]? = some v ∧ Rep K cl F d v) → RepL K cl F ds vs
  | [], [], _, _ => .nil
  | [], _ :: _, h, _ => by simp at h
  | _ :: _, [], h, _ => by simp at h
  | d :: ds, v :: vs, h, f => by
    obtain ⟨w, e, r⟩ := f 0 d rfl
    have e' : v = w := by simpa using e
    subst e'
    exact .cons r (repL_of (by simpa using h) fun j d' hd => f (j + 1) d' (by simpa using hd))
theorem en_post {X : Cx} {cl : Nat → Addr} {G H : Hp} {Q0 : R → Prop} {Q : VK} (P : Post0 X.K cl G H Q0 Q) (s : Same G H) {xs : List D} {vs us : List V} {H' : Hp} {q : Addr} (hq : Q0 (.own (.lst (enD xs)))) (r : RepL X.K cl G xs vs)
    (sm : Same H H') (pa : Mu.PairsAt H H' vs us vs.length) (hn : H' q = none) : Q (.ref q) (upd H' q (.lst us)) := by
  let F' : Hp := fun b => match H b with | none => H' b | some _ => G b
  have f1 : ∀ b, H b = none → F' b = H' b := fun b z => by show (match H b with | none => H' b | some _ => G b) = _; rw [z]
  have f2 : ∀ b u, H b = some u → F' b = G b := fun b u z => by show (match H b with | none => H' b | some _ => G b) = _; rw [z]
  have hq0 : H q = none := by
    cases z : H q with
    | none => rfl
    | some w => rw [sm _ _ z] at hn; cases hn
  have sg : Same G F' := fun b u z => by rw [f2 b u (s b u z)]; exact z
  have sh : Same F' H' := fun b u z => by
    cases w : H b with
    | none => rw [f1 b w] at z; exact z
    | some o => rw [f2 b o w] at z; exact sm _ _ (s _ _ z)
  have su : Same H' (upd H' q (.lst us)) := same_upd hn
  refine P _ hq _ F' _ ⟨sg, sm.trans su, fun a u h z => by rw [f2 a u h]; exact z, sh.trans su⟩ ⟨q, [q], rfl, ⟨rfl, us, upd_same, repL_of ?_ fun j d hd => ?_⟩, fun a ha => ?_⟩
  · rw [pa.1]; simp [enD, r.length]
  · unfold enD at hd
    rw [List.getElem?_mapIdx] at hd
    obtain ⟨d', hd', rfl⟩ := Option.map_eq_some_iff.mp hd
    have hj : j < vs.length := by have := (List.getElem?_eq_some_iff.mp hd').1; rw [← r.length]; exact this
    obtain ⟨T, h1, h2, h3⟩ := pa.2 j _ hj (List.getElem?_eq_getElem hj)
    obtain ⟨d2, h4, h5⟩ := r.get' (List.getElem?_eq_getElem hj)
    rw [hd'] at h4
    cases h4
    refine ⟨_, h1, ?_⟩
    rw [Rep]
    exact ⟨T, _, rfl, (f1 T h3).trans h2, .cons (by rw [Rep]) (.cons (h5.mono sg) .nil)⟩
  · have e : a = q := by simpa using ha
    subst e
    exact ⟨(f1 a hq0).trans hn, hq0⟩
theorem qLstEn {X : Cx} {cl : Nat → Addr} {W : WX} {pin : List Nat} {e : Expr} {m : ME} {j : Nat} {p p2 pos pos2 : Pos} (gd : Good X W j) (hg : Gl X "list") (hm : X.mg "list" = none) (hg2 : Gl X "enumerate") (hm2 : X.mg "enumerate" = none) (he : PM X cl W pin e m) (hs : starEach [e] X.env = [(false, eval e X.env)] := by rfl) (hs2 : starEach [e] X.env = (false, eval e X.env) :: starEach [] X.env := by rfl)
    (na : starEach [.Call (.Name "enumerate" p2) [e] [] pos2] X.env = (false, eval (.Call (.Name "enumerate" p2) [e] [] pos2) X.env) :: starEach [] X.env := by rfl) :
    PM X cl W pin (.Call (.Name "list" p) [.Call (.Name "enumerate" p2) [e] [] pos2] [] pos) (mLstEn m) :=
  PE.imp (Mu.pe_listEn gd.calm hg hm hg2 hm2 (pa_cons he pa_nil hs2) hs na) fun σ H Q ⟨S, F, fp, E0, Q0, E, h2, x, k⟩ => LE.mk E h2 x fun r S1 v F1 H1 fp1 q st1 e1 rr x1 => by
    obtain ⟨G1, e1', st1', sg, ra1⟩ := RelR.ready e1 st1 rr
    cases hr : fzR r with
    | val d =>
      simp only [hr] at q ra1
      have ra : Rep X.K cl G1 d v := ra1
      cases d with
      | lst xs =>
        rw [Rep] at ra; obtain ⟨a, vs, rfl, g1, g2⟩ := ra
        exact ⟨a, vs, rfl, .inl (SqL.of (e1'.sub _ _ g1)), fun H' q' us sm pa hn => en_post (post_of e1' st1' k) e1'.sub q g2 sm pa hn⟩
      | rol xs =>
        rw [Rep] at ra; obtain ⟨a, vs, rfl, g1, g2⟩ := ra
        exact ⟨a, vs, rfl, .inl (e1'.sub.seq g1), fun H' q' us sm pa hn => en_post (post_of e1' st1' k) e1'.sub q g2 sm pa hn⟩
      | tup xs =>
        rw [Rep] at ra; obtain ⟨a, vs, rfl, g1, g2⟩ := ra
        exact ⟨a, vs, rfl, .inr (SqT.of (e1'.sub _ _ g1)), fun H' q' us sm pa hn => en_post (post_of e1' st1' k) e1'.sub q g2 sm pa hn⟩
      | rot xs =>
        rw [Rep] at ra; obtain ⟨a, vs, rfl, g1, g2⟩ := ra
        exact ⟨a, vs, rfl, .inr (Same.sqt e1'.sub g1), fun H' q' us sm pa hn => en_post (post_of e1' st1' k) e1'.sub q g2 sm pa hn⟩
      | _ => exact q.elim
    | own o => simp only [hr] at q
    | slot i => simp only [hr] at q
end Mv

/-! Mv: one's own things lent for the time of a call, behind its arguments. -/
namespace Mv
open PySem L2
def lnS (i : Nat) : Option Sl → R
  | some (.ow o) => .val (frzO o)
  | some (.fz d) => .val d
  | _ => .slot i
def lnR (S : Fm) : R → R
  | .slot i => lnS i S[i]?
  | r => r
def mCallL (fs : FS) (ma : MA) : ME := fun E Q S => ma E (fun rs S1 => mCall fs (fun _ Qa S2 => Qa (rs.map (lnR S1)) S2) eLn (qLn S1 Q) (S1.map frzS)) S
section
variable {X : Cx} {cl : Nat → Addr} {W : WX} {pin : List Nat} {e : Expr} {m : ME}
theorem lend_back {σ : L2.St} {H H1 F1 : Hp} {S S1 : Fm} {F : Hp} {fp fp1 : Nat → List Addr} {Q0 : R → Fm → Prop} {Q : VK} {r : R} {v : V} (E : EnvR X.K cl F H σ S fp) (q : qLn S Q0 r S1) (st : Stp (ownF F H S fp) H (S.map frzS) fp F1 H1 S1 fp1) (e1 : EnvR X.K cl F1 H1 σ S1 fp1)
    (rr : RelR X.K cl H (S.map frzS) fp F1 H1 σ S1 fp1 r v) (k : ∀ r S', Q0 r S' → ∀ v F' H' fp', Stp F H S fp F' H' S' fp' → EnvR X.K cl F' H' σ S' fp' → RelR X.K cl H S fp F' H' σ S' fp' r v → Q v H') : Q v H1 := by
  match r, q, rr with
  | .val d, ⟨p, q⟩, rr =>
    have hh : SameN H H1 := fun a o h nt => st.hh a o h nt no_ow
    have s1 := e1.sub
    have ff : Same F (notF F1 S fp) := fun a o h => by
      unfold notF
      rw [if_neg fun w => by rw [(E.owned w).1] at h; cases h]
      exact st.ff _ _ (ownF_same E a o h)
    have s2 : Same (notF F1 S fp) H1 := fun a o h => by
      unfold notF at h
      split at h
      · cases h
      · exact s1 _ _ h
    refine k _ _ q v (notF F1 S fp) H1 fp ⟨ff, fun a o h nt _ => hh a o h nt, fun a o h nx z n => ?_, fun a h => .inl h, st.th⟩ ⟨s2, E.len, fun i d h => ?_, fun i o h => ?_, fun i o h a ha => ?_, E.dj, e1.tb.stay (fun a o _ _ z => by unfold notF; split; rfl; exact z) fun _ _ e _ => e⟩ (pur_rep E hh s1 d v p rr)
    · unfold notF
      rw [if_neg n]
      refine st.nn a o h nx ?_ no_ow
      unfold ownF
      rw [if_neg n]
      exact z
    · obtain ⟨v, h1, h2⟩ := E.fz i d h
      exact ⟨v, h1, h2.mono ff⟩
    · obtain ⟨p, h1, c⟩ := E.ow i o h
      refine ⟨p, h1, c.mono ff fun a ha => ?_⟩
      obtain ⟨u, hu, hx⟩ := c.there2 a ha
      rw [hu]; exact hh a u hu (nt_of hx)
    · unfold notF
      rw [if_pos ⟨i, o, h, ha⟩]
theorem lnRs {K : PySem.W.Frag} {cl : Nat → Addr} {F H : Hp} {σ : L2.St} {S : Fm} {fp : Nat → List Addr} (E : EnvR K cl F H σ S fp) : ∀ {rs : List R} {vs : List V}, RelAs K cl F σ rs vs → RelAs K cl (ownF F H S fp) σ (rs.map (lnR S)) vs
  | [], _, h => h
  | r :: rs, _, ⟨v, us, e, h, t⟩ => by
    refine ⟨v, us, e, ?_, lnRs E t⟩
    cases r with
    | val d => exact h.mono (ownF_same E)
    | own o => exact h
    | slot i =>
      have h' : σ[i]? = some (some v) := h
      show RelA K cl _ σ (lnS i S[i]?) v
      cases z : S[i]? with
      | none => exact h'
      | some s =>
        cases s with
        | un => exact h'
        | fz d =>
          obtain ⟨w, h1, h2⟩ := E.fz i d z
          rw [h'] at h1
          cases h1
          exact h2.mono (ownF_same E)
        | ow o =>
          obtain ⟨w, h1, h2⟩ := E.lend.fz i (frzO o) (by rw [List.getElem?_map, z]; rfl)
          rw [h'] at h1
          cases h1
          exact h2
variable {fs : FS} {ma : MA}
theorem le_callL {σ : L2.St} {H : Hp} {Q : VK} (h : LE X.K cl W pin (mCallL fs ma) σ H Q) : LA X.K cl W pin ma σ H fun vs H1 => spF X.K cl fs vs H1 Q (WE W σ) := by
  obtain ⟨S, F, fp, E0, Q0, E, h2, x, k⟩ := h
  refine LA.mk E h2 x fun rs S1 vs F1 H1 fp1 q1 st1 e1 rr1 x1 => ?_
  refine sp_call (pin := pin) (E0 := eLn) e1.lend (lnRs e1 rr1) (fun xd S' h => False.elim h) q1 fun r S' q v F' H' fp' st e rel => ?_
  exact lend_back e1 q st e rel fun r S' q v F' H' fp' st e rel => k r S' q v F' H' fp' (st1.trans st) e (rel.from st1)
variable {k : Nat} {x : Str} {st : Stmt} {ps : List Str} {p pos : Pos} {es : List Expr} {j : Nat}
theorem qCallL (F : Fnc X.prog X.w X.K X.mg X.base cl k x st ps fs) (g : Good X W j) (hk : k ≤ j) (hg : Gl X x) (ha : PMA X cl W pin (e :: es) ma)
    (hdb : (x == ("__debug__" : Str)) = false := by decide) (he : starEach (e :: es) X.env = (false, eval e X.env) :: starEach es X.env := by rfl) (hpl : (backTo pos (starEach es X.env)).any (·.1) = false := by rfl) :
    PM X cl W pin (.Call (.Name x p) (e :: es) [] pos) (mCallL fs ma) := by
  obtain ⟨f, fd, F1, hm, FD, hb⟩ := F.ex
  exact PE.imp (pe_callS F1 (g.room.mono hk) hg hm FD.kp hb (fun σ => passAt g.takes σ) ha hdb he hpl) fun _ _ _ h => le_callL h
end
end Mv

/-! Mv: a, b = x, y; d.get(k, x) of a dict of one's own. -/
namespace Mv
open PySem L2
def sPar (i j : Nat) (ma : MA) : MS := fun D S => ma D.ex (fun rs S1 => valsOf rs fun ds => ∃ d e, ds = [d, e] ∧ D.nx ((S1.set i (.fz d)).set j (.fz e))) S
section
variable {X : Cx} {cl : Nat → Addr} {W : WX} {pin : List Nat}
theorem kPar {i j n : Nat} {x y : Str} {a b : Expr} {ma : MA} {pos px py pt : Pos} {kt k2 : Nat} {pt2 : Pos} (gd : Good X W n) (hi : X.N[i]? = some x) (hj : X.N[j]? = some y) (hij : i ≠ j) (hpi : i ∉ pin) (hpj : j ∉ pin)
    (hx : X.env.scope.names.lookup x = some .local) (hy : X.env.scope.names.lookup y = some .local) (ha : PMA X cl W pin [a, b] ma)
    (hw : swappedStores [.Tuple [.Name x px, .Name y py] kt pt] (.Tuple [a, b] k2 pt2) X.env = pure (some [x, y]) := by rfl)
    (hs : swapsWithSole [.Tuple [.Name x px, .Name y py] kt pt] (.Tuple [a, b] k2 pt2) pos.line X.env = pure false := by rfl) :
    PMS X cl W pin (.Assign [.Tuple [.Name x px, .Name y py] kt pt] (.Tuple [a, b] k2 pt2) pos) (sPar i j ma) :=
  PS.imp (ps_par gd.calm gd.nd hi hj hij hx hy ha hw hs) fun D σ H h => by
    obtain ⟨S, F, fp, D0, E, h2, gl⟩ := LS.iff.mp h
    refine LA.mk E h2 gl.ex fun rs S1 vs F1 H1 fp1 q1 st1 e1 rr1 x1 => ?_
    obtain ⟨ds, r, d, e, rfl, q⟩ := valsOf_rep rr1 q1
    rw [RepL] at r
    obtain ⟨v, vs1, rfl, r1, r⟩ := r
    rw [RepL] at r
    obtain ⟨w, vs2, rfl, r2, r⟩ := r
    rw [RepL] at r
    subst r
    refine ⟨v, w, rfl, gl.nx _ q _ F1 H1 fp1 (fun k hk => ?_) (st1.trans (Stp.refl.setFz.trans Stp.refl.setFz)) ((e1.setFz r1).setFz r2)⟩
    rw [pin_set hpj k hk, pin_set hpi k hk]
def mDGet2 (i : Nat) (me mf : ME) : ME := fun E Q S => duQ S i fun _ => me E (fun r S1 => match r with
  | .val kd => mf E (fun r2 S2 => match r2 with
    | .val dd => duQ S2 i fun kvs => ∃ key, keyD kd = some key ∧ Q (.val ((valD kvs key).getD dd)) S2
    | _ => False) S1
  | _ => False) S
theorem qDGet2 {o e f : Expr} {me mf : ME} {i j : Nat} {apos cpos : Pos} (gd : Good X W j) (ho : PE X o (tVar i)) (he : PM X cl W pin e me) (hf : PM X cl W pin f mf) (mm : M2 X o "get" apos e f cpos) : PM X cl W pin (.Call (.Attribute o "get" apos) [e, f] [] cpos) (mDGet2 i me mf) :=
  PE.imp (pe_dget2 (by have := gd.room.units; omega) ho he hf mm) fun σ H Q h => by
    obtain ⟨S, F, fp, E0, Q0, E, ⟨xs0, g0, h2⟩, x, k⟩ := h
    obtain ⟨p, ws, h3, h4, _⟩ := E.dkAt g0
    refine ⟨_, h3, p, rfl, .inl ⟨_, .inl h4⟩, LE.mk E h2 x fun r2 S2 v2 F2 H2 fp2 q2 st2 e2 rr2 x2 => ?_⟩
    match r2, q2, rr2 with
    | .val kd, q2, rr2 =>
      refine LE.mk e2 q2 x2 fun r3 S3 v3 F3 H3 fp3 q3 st3 e3 rr3 x3 => ?_
      match r3, q3, rr3 with
      | .val dd, ⟨xs, g1, key, g2, g4⟩, rr3 =>
        have ek : v2 = kV key := Pk.key (H := H2) (.inl rr2) g2
        subst ek
        obtain ⟨p1, ws1, j1, j2, j3⟩ := e3.dkAt g1
        rw [h3] at j1; cases j1
        have rd : Rep X.K cl F3 dd v3 := rr3
        refine ⟨valV ws1 key, DGet.k j2, ?_⟩
        obtain ⟨hs, hv⟩ := j3.val key
        cases z : valD xs key with
        | some d =>
          obtain ⟨u, hu, ru⟩ := hv d z
          rw [z] at g4
          rw [hu]
          exact k _ _ g4 u F3 H3 fp3 (st2.trans st3) e3 ru
        | none =>
          rw [z] at g4 hs
          have hn : valV ws1 key = none := by
            cases y : valV ws1 key with
            | none => rfl
            | some w => rw [y] at hs; cases hs
          rw [hn]
          exact k _ _ g4 v3 F3 H3 fp3 (st2.trans st3) e3 rd
end
end Mv

/-! Mv: boxes: lists of one's own that hold lists of one's own. -/
namespace Mv
open PySem L2
theorem bx_ixN {n i : Nat} (h : i < n) : ixN n (i : Int) = some i := by simp [ixN, h]
theorem bx_atI {xs : List V} {j : Nat} {v : V} (h : xs[j]? = some v) : atI xs (j : Int) = some v := by
  have hl : j < xs.length := (List.getElem?_eq_some_iff.mp h).1
  unfold atI
  rw [bx_ixN hl]
  exact h
/-- a list in a box -/
def eL (ys : List D) : El := .n .lst (ys.map El.d)
section
variable {K : PySem.W.Frag} {cl : Nat → Addr} {F H : Hp} {σ : L2.St} {S : Fm} {fp : Nat → List Addr}
theorem celEs_d : ∀ {ys : List D} {vs : List V} {fq : List Addr}, CelEs K cl F H (ys.map El.d) vs fq ↔ fq = [] ∧ RepL K cl F ys vs
  | [], vs, fq => by
    rw [List.map_nil, CelEs, RepL]
    exact ⟨fun h => ⟨h.2, h.1⟩, fun h => ⟨h.2, h.1⟩⟩
  | y :: ys, vs, fq => by
    rw [List.map_cons, CelEs, RepL]
    constructor
    · rintro ⟨v, r, f1, f2, rfl, rfl, h1, h2⟩
      rw [CelE] at h1
      obtain ⟨rfl, h1⟩ := h1
      obtain ⟨rfl, h3⟩ := celEs_d.mp h2
      exact ⟨rfl, v, r, rfl, h1, h3⟩
    · rintro ⟨rfl, v, r, rfl, h1, h2⟩
      exact ⟨v, r, [], [], rfl, rfl, by rw [CelE]; exact ⟨rfl, h1⟩, celEs_d.mpr ⟨rfl, h2⟩⟩
theorem frzEs_d : ∀ {ys : List D}, frzEs (ys.map El.d) = ys
  | [] => by rw [List.map_nil, frzEs]
  | y :: ys => by rw [List.map_cons, frzEs, frzE, frzEs_d]
theorem frz_eL {ys : List D} : frzE (eL ys) = .lst ys := by unfold eL; rw [frzE, frzEs_d]
theorem celE_l {ys : List D} {v : V} {fq : List Addr} : CelE K cl F H (eL ys) v fq ↔ ∃ q ws, v = .ref q ∧ fq = [q] ∧ H q = some (.lst ws) ∧ RepL K cl F ys ws := by
  unfold eL
  rw [CelE]
  constructor
  · rintro ⟨p, fq', vs, rfl, rfl, h1, h2⟩
    obtain ⟨rfl, h3⟩ := celEs_d.mp h2
    exact ⟨p, vs, rfl, rfl, h1, h3⟩
  · rintro ⟨q, ws, rfl, rfl, h1, h2⟩
    exact ⟨q, [], ws, rfl, rfl, h1, celEs_d.mpr ⟨rfl, h2⟩⟩
theorem celEs_len : ∀ {es : List El} {vs : List V} {fq : List Addr}, CelEs K cl F H es vs fq → vs.length = es.length
  | [], _, _, h => by rw [CelEs] at h; rw [h.1]; rfl
  | e :: es, _, _, h => by
    rw [CelEs] at h
    obtain ⟨v, r, f1, f2, rfl, rfl, h1, h2⟩ := h
    rw [List.length_cons, List.length_cons, celEs_len h2]
theorem celEs_sub : ∀ {es : List El} {vs : List V} {fq : List Addr} {j : Nat} {ys : List D}, CelEs K cl F H es vs fq → fq.Nodup → es[j]? = some (eL ys) →
    ∃ q ws, vs[j]? = some (.ref q) ∧ q ∈ fq ∧ H q = some (.lst ws) ∧ RepL K cl F ys ws ∧ ∀ ys' ws', RepL K cl F ys' ws' → CelEs K cl F (upd H q (.lst ws')) (es.set j (eL ys')) vs fq
  | [], _, _, _, _, _, _, h => by simp at h
  | e :: es, _, _, 0, ys, h, nd, hj => by
    rw [CelEs] at h
    obtain ⟨v, r, f1, f2, rfl, rfl, h1, h2⟩ := h
    have e' : e = eL ys := by simpa using hj
    subst e'
    obtain ⟨q, ws, rfl, rfl, h3, h4⟩ := celE_l.mp h1
    refine ⟨q, ws, rfl, by simp, h3, h4, fun ys' ws' r' => ?_⟩
    rw [List.set_cons_zero, CelEs]
    refine ⟨_, r, [q], f2, rfl, rfl, celE_l.mpr ⟨q, ws', rfl, rfl, upd_same, r'⟩, CelEs.mono (Same.refl F) _ _ _ h2 fun a ha => upd_ne fun z => ?_⟩
    subst z
    exact (List.nodup_cons.mp nd).1 ha
  | e :: es, _, _, j + 1, ys, h, nd, hj => by
    rw [CelEs] at h
    obtain ⟨v, r, f1, f2, rfl, rfl, h1, h2⟩ := h
    obtain ⟨n1, n2, n3⟩ := List.nodup_append.mp nd
    obtain ⟨q, ws, g1, g2, g3, g4, g5⟩ := celEs_sub h2 n2 (by simpa using hj)
    refine ⟨q, ws, by simpa using g1, List.mem_append_right _ g2, g3, g4, fun ys' ws' r' => ?_⟩
    rw [List.set_cons_succ, CelEs]
    exact ⟨v, r, f1, f2, rfl, rfl, CelE.mono (Same.refl F) _ _ _ h1 fun a ha => upd_ne fun z => n3 a ha q g2 z, g5 ys' ws' r'⟩
theorem celEs_set : ∀ {es : List El} {vs : List V} {fq : List Addr} {j : Nat} {x d : D} {v : V}, CelEs K cl F H es vs fq → es[j]? = some (.d x) → Rep K cl F d v → CelEs K cl F H (es.set j (.d d)) (vs.set j v) fq
  | [], _, _, _, _, _, _, _, h, _ => by simp at h
  | e :: es, _, _, 0, x, d, v, h, hj, r => by
    rw [CelEs] at h
    obtain ⟨w, rs, f1, f2, rfl, rfl, h1, h2⟩ := h
    have e' : e = .d x := by simpa using hj
    subst e'
    rw [CelE] at h1
    obtain ⟨rfl, _⟩ := h1
    rw [List.set_cons_zero, List.set_cons_zero, CelEs]
    exact ⟨v, rs, [], f2, rfl, rfl, by rw [CelE]; exact ⟨rfl, r⟩, h2⟩
  | e :: es, _, _, j + 1, x, d, v, h, hj, r => by
    rw [CelEs] at h
    obtain ⟨w, rs, f1, f2, rfl, rfl, h1, h2⟩ := h
    rw [List.set_cons_succ, List.set_cons_succ, CelEs]
    exact ⟨w, _, f1, f2, rfl, rfl, h1, celEs_set h2 (by simpa using hj) r⟩
theorem EnvR.boxAt {i : Nat} {es : List El} (E : EnvR K cl F H σ S fp) (h : S[i]? = some (Sl.ow (.box .lst es))) : ∃ p fq vs, σ[i]? = some (some (.ref p)) ∧ fp i = p :: fq ∧ (p :: fq).Nodup ∧ H p = some (.lst vs) ∧ CelEs K cl F H es vs fq := by
  obtain ⟨p, h1, nd, c⟩ := E.ow i _ h
  rw [CelE] at c
  obtain ⟨p', fq, vs, e, e2, h2, h3⟩ := c
  cases e
  rw [e2] at nd
  exact ⟨p, fq, vs, h1, e2, nd, h2, h3⟩
/-- one object of a thing is changed -/
theorem EnvR.putAt {i : Nat} {o o' : O} {u : HO} {p b : Addr} (E : EnvR K cl F H σ S fp) (h : S[i]? = some (Sl.ow o)) (hp : σ[i]? = some (some (.ref p))) (hb : b ∈ fp i) (c : CellR K cl F (upd H b u) o' p (fp i)) :
    EnvR K cl F (upd H b u) σ (S.set i (.ow o')) fp ∧ Stp F H S fp F (upd H b u) (S.set i (.ow o')) fp := by
  have fn : F b = none := E.nf i o h b hb
  have il : i < S.length := (List.getElem?_eq_some_iff.mp h).1
  have op : Ow S fp b := ⟨i, o, h, hb⟩
  refine ⟨⟨fun a w e => ?_, by rw [List.length_set]; exact E.len, fun j d hj => ?_, fun j w hj => ?_, fun j w hj a ha => ?_, fun j l w z ne hj hl a ha => ?_, E.tb.upd fun u e => by
    obtain ⟨w, h1, h2⟩ := E.owned2 (a := b) ⟨i, o, h, hb⟩
    rw [h1] at e; cases e; exact h2⟩, ⟨Same.refl F, fun a w e _ n => ?_, fun a w e _ z _ => z, fun a q => .inl (Ow.setSame h q), fun a q => ?_⟩⟩
  · rw [upd_ne fun z => by rw [z, fn] at e; cases e]; exact E.sub a w e
  · by_cases e : i = j
    · subst e; rw [List.getElem?_set_self il] at hj; cases hj
    · rw [List.getElem?_set_ne e] at hj; exact E.fz j d hj
  · by_cases e : i = j
    · subst e; rw [List.getElem?_set_self il] at hj; cases hj
      exact ⟨p, hp, c⟩
    · rw [List.getElem?_set_ne e] at hj
      obtain ⟨q, h1, h2⟩ := E.ow j w hj
      refine ⟨q, h1, h2.mono (Same.refl F) fun a ha => upd_ne fun z => ?_⟩
      subst z
      exact E.dj i j o w e h hj a hb ha
  · by_cases e : i = j
    · subst e; exact E.nf i o h a ha
    · rw [List.getElem?_set_ne e] at hj; exact E.nf j w hj a ha
  · have k1 : ∃ w', S[j]? = some (Sl.ow w') := by
      by_cases e : i = j
      · subst e; exact ⟨o, h⟩
      · rw [List.getElem?_set_ne e] at hj; exact ⟨w, hj⟩
    have k2 : ∃ w', S[l]? = some (Sl.ow w') := by
      by_cases e : i = l
      · subst e; exact ⟨o, h⟩
      · rw [List.getElem?_set_ne e] at hl; exact ⟨z, hl⟩
    obtain ⟨w1, k1⟩ := k1
    obtain ⟨w2, k2⟩ := k2
    exact E.dj j l w1 w2 ne k1 k2 a ha
  · rw [upd_ne fun z => n (by rw [z]; exact op)]; exact e
  · by_cases z : a = b
    · subst z; rw [upd_same] at q; cases q
    · rw [upd_ne z] at q; exact q
end
def buQ (S : Fm) (i : Nat) (k : List El → Prop) : Prop := ∃ es, S[i]? = some (Sl.ow (.box .lst es)) ∧ k es
/-- x[j].m() -/
def mMutB (i j : Nat) (lop : DMu) : ME := fun E Q S => buQ S i fun es => ∃ ys, es[j]? = some (eL ys) ∧ lop ys [] fun ys' d => Q (.val d) (S.set i (.ow (.box .lst (es.set j (eL ys')))))
/-- x[j] = e -/
def sPutB (i j : Nat) (m : ME) : MS := fun Z S => m Z.ex (fun r S1 => match fzR r with
  | .val d => buQ S1 i fun es => ∃ x, es[j]? = some (.d x) ∧ Z.nx (S1.set i (.ow (.box .lst (es.set j (.d d)))))
  | _ => False) S
/-- [e, ..], places of one's own go into it -/
def boxQ : List R → Fm → (List El → Fm → Prop) → Prop
  | [], S, k => k [] S
  | .val d :: rs, S, k => boxQ rs S fun es S2 => k (.d d :: es) S2
  | .slot i :: rs, S, k => luQ S i fun xs => boxQ rs (S.set i .un) fun es S2 => k (eL xs :: es) S2
  | .own _ :: _, _, _ => False
def mBoxL (ma : MA) : ME := fun E Q S => ma E (fun rs S1 => boxQ rs S1 fun es S2 => es.length ≤ 16777216 ∧ Q (.own (.box .lst es)) S2) S
section
variable {X : Cx} {cl : Nat → Addr} {W : WX} {pin : List Nat} {o e : Expr} {es : List Expr} {m : ME} {ma : MA} {apos cpos spos ipos pos tpos : Pos} {name : Str} {id : String} {r : V → List V → Hp → VK → Prop} {lop : DMu} {i j kk : Nat}
theorem qMutB (slot : Slot "list" name id) (hty : typeOf (.builtin id) = pure (.type "method_descriptor")) (hm : MtR X id r) (mu : MuR X.K cl r lop) (ho : PE X o (tVar i)) (hsp : PlainIx (.Constant (.int (j : Int)) kk ipos) := by intro _ _; rfl)
    (hbase : attributeBase (.Subscript o (.Constant (.int (j : Int)) kk ipos) spos) name X.env (eval (.Subscript o (.Constant (.int (j : Int)) kk ipos) spos) X.env) = eval (.Subscript o (.Constant (.int (j : Int)) kk ipos) spos) X.env := by rfl) (hline : (apos.endLine == cpos.line) = true := by rfl) :
    PM X cl W pin (.Call (.Attribute (.Subscript o (.Constant (.int (j : Int)) kk ipos) spos) name apos) [] [] cpos) (mMutB i j lop) :=
  PE.imp (pe_bm0 PySem.F.plainAttrs_list slot hty hm (pe_ix ix_list ho pe_int hsp) hbase hline) fun σ H Q ⟨S, F, fp, E0, Q0, E, ⟨es, g0, ys, g1, h2⟩, x, k⟩ => by
    obtain ⟨p, fq, vs, b1, b2, b3, b4, b5⟩ := E.boxAt g0
    obtain ⟨q, ws, c1, c2, c3, c4, c5⟩ := celEs_sub b5 (List.nodup_cons.mp b3).2 g1
    have ne : p ≠ q := fun z => (List.nodup_cons.mp b3).1 (z ▸ c2)
    refine ⟨_, b1, p, vs, j, .ref q, rfl, rfl, SqL.of b4, bx_atI c1, .inl ⟨rfl, ws, SqL.of c3⟩, mu F H q ws ys [] [] _ _ E.sub c3 c4 .nil h2 fun ys' d hk ws' v r1 r2 => ?_⟩
    obtain ⟨k1, k2⟩ := E.putAt (o' := .box .lst (es.set j (eL ys'))) g0 b1 (by rw [b2]; exact List.mem_cons_of_mem _ c2) (show CellR X.K cl F (upd H q (.lst ws')) _ p (fp i) from ⟨by rw [b2]; exact b3, by
      rw [CelE, b2]
      exact ⟨p, fq, vs, rfl, rfl, (upd_ne ne).trans b4, c5 ys' ws' r1⟩⟩)
    exact k _ _ hk v F _ fp k2 k1 r2
theorem kPutB (ho : PE X o (tVar i)) (he : PM X cl W pin e m)
    (h1 : PG X (.Subscript o (.Constant (.int (j : Int)) kk ipos) tpos) (gSub (tVar i) (LE X.K cl W pin (mC (.int (j : Int)))) rSetL)) (hs : swapsWithSole [.Subscript o (.Constant (.int (j : Int)) kk ipos) tpos] e pos.line X.env = pure false := by rfl) (hw : swappedStores [.Subscript o (.Constant (.int (j : Int)) kk ipos) tpos] e X.env = pure none := by rfl)
    (h2 : (assignEach [.Subscript o (.Constant (.int (j : Int)) kk ipos) tpos] X.env).map (·.2) = [assign (.Subscript o (.Constant (.int (j : Int)) kk ipos) tpos) X.env] := by rfl) : PMS X cl W pin (.Assign [.Subscript o (.Constant (.int (j : Int)) kk ipos) tpos] e pos) (sPutB i j m) :=
  PS.imp (ps_asg he h1 hs hw h2) fun D σ H h => by
    obtain ⟨S, F, fp, D0, E, h2, gl⟩ := LS.iff.mp h
    refine LE.mk E h2 gl.ex fun r S1 v F1 H1 fp1 q1 st1 e1 rr x1 => ?_
    obtain ⟨G1, e1', st1', sg, ra1⟩ := RelR.ready e1 st1 rr
    cases hr : fzR r with
    | val d =>
      simp only [hr] at q1 ra1
      obtain ⟨es, g0, x, g1, g3⟩ := q1
      have ra : Rep X.K cl G1 d v := ra1
      obtain ⟨p, fq, vs, b1, b2, b3, b4, b5⟩ := e1'.boxAt g0
      have hl := celEs_len b5
      have hj : j < es.length := (List.getElem?_eq_some_iff.mp g1).1
      refine ⟨_, b1, LE.mk (E0 := D0.ex) (Q0 := fun r S' => r = .val (.int (j : Int)) ∧ S' = S1) e1' (show (mC (.int (j : Int)) : ME) D0.ex _ S1 from ⟨rfl, rfl⟩) (gl.ex.step st1' fun _ _ => rfl) fun r2 S2 v2 F2 H2 fp2 q2 st2 e2 rr2 x2 => ?_⟩
      obtain ⟨rfl, rfl⟩ := q2
      obtain ⟨p2, fq2, vs2, d1, d2, d3, d4, d5⟩ := e2.boxAt g0
      rw [b1] at d1
      cases d1
      have hl2 := celEs_len d5
      have z : Rep X.K cl F2 (.int (j : Int)) v2 := rr2
      rw [Rep] at z; subst z
      have c := celEs_set (d := d) (v := v) d5 g1 (Rep.mono st2.ff _ _ ra)
      obtain ⟨k1, k2⟩ := e2.putAt (u := .lst (vs2.set j v)) (o' := .box .lst (es.set j (.d d))) g0 b1 (by rw [d2]; exact List.mem_cons_self) (show CellR X.K cl F2 (upd H2 p (.lst (vs2.set j v))) _ p (fp2 i) from ⟨by rw [d2]; exact d3, by
        rw [CelE, d2]
        exact ⟨p, fq2, _, rfl, rfl, upd_same, CelEs.mono (Same.refl F2) _ _ _ c fun a ha => upd_ne fun z => (List.nodup_cons.mp d3).1 (z ▸ ha)⟩⟩)
      exact ⟨p, vs2, j, j, rfl, rfl, d4, bx_ixN (by omega), gl.nx _ g3 σ F2 _ fp2 (fun _ _ => rfl) ((st1'.trans st2).trans k2) k1⟩
    | own o => simp only [hr] at q1
    | slot i => simp only [hr] at q1
theorem box_of {cl : Nat → Addr} {K : PySem.W.Frag} {F H : Hp} {σ : L2.St} {fp : Nat → List Addr} : ∀ {rs : List R} {vs : List V} {S : Fm} {k : List El → Fm → Prop}, EnvR K cl F H σ S fp → RelAs K cl F σ rs vs → boxQ rs S k →
    ∃ es S2 fq, CelEs K cl F H es vs fq ∧ fq.Nodup ∧ EnvR K cl F H σ S2 fp ∧ (∀ a, Ow S2 fp a → Ow S fp a) ∧ (∀ a ∈ fq, F a = none ∧ Ow S fp a ∧ ¬ Ow S2 fp a) ∧ k es S2
  | [], _, S, k, E, h, q => by
    have e : _ = _ := h
    subst e
    exact ⟨[], S, [], by rw [CelEs]; exact ⟨rfl, rfl⟩, .nil, E, fun _ h => h, fun a ha => (by cases ha), q⟩
  | .val d :: rs, _, S, k, E, ⟨v, us, e, h, t⟩, q => by
    subst e
    obtain ⟨es, S2, fq, c, nd, E2, o1, o2, kk⟩ := box_of E t q
    exact ⟨.d d :: es, S2, fq, by rw [CelEs]; exact ⟨v, us, [], fq, rfl, rfl, by rw [CelE]; exact ⟨rfl, h⟩, c⟩, nd, E2, o1, o2, kk⟩
  | .own o :: rs, _, S, k, E, _, q => q.elim
  | .slot i :: rs, _, S, k, E, ⟨v, us, e, h, t⟩, ⟨xs, g0, q⟩ => by
    subst e
    obtain ⟨p, hp, c0⟩ := E.ow i _ g0
    obtain ⟨e1, ws, w1, w2⟩ := c0
    have h' : σ[i]? = some (some v) := h
    rw [hp] at h'
    cases h'
    obtain ⟨es, S2, fq, c, nd, E2, o1, o2, kk⟩ := box_of E.setUn t q
    have own : Ow S fp p := ⟨i, _, g0, by rw [e1]; simp⟩
    have nown : ¬ Ow (S.set i .un) fp p := fun z => by
      obtain ⟨_, j, u, ne, h5, h6⟩ := z.setUn
      exact E.dj i j _ u (Ne.symm ne) g0 h5 p (by rw [e1]; simp) h6
    refine ⟨eL xs :: es, S2, p :: fq, ?_, ?_, E2, fun a z => (o1 a z).setUn.1, fun a ha => ?_, kk⟩
    · rw [CelEs]
      exact ⟨_, us, [p], fq, rfl, rfl, celE_l.mpr ⟨p, ws, rfl, rfl, w1, w2⟩, c⟩
    · exact List.nodup_cons.mpr ⟨fun z => nown (o2 p z).2.1, nd⟩
    · rcases List.mem_cons.mp ha with z | z
      · subst z
        exact ⟨E.nf i _ g0 a (by rw [e1]; simp), own, fun z => nown (o1 a z)⟩
      · exact ⟨(o2 a z).1, (o2 a z).2.1.setUn.1, (o2 a z).2.2⟩
theorem qBoxL (h : PMA X cl W pin es ma) : PM X cl W pin (.List es pos) (mBoxL ma) := PE.imp (pe_lst h) fun σ H Q ⟨S, F, fp, E0, Q0, E, h2, x, k⟩ =>
  LA.mk E h2 x fun rs S1 vs F1 H1 fp1 q1 st1 e1 rr1 x1 => by
    obtain ⟨es, S2, fq, c, nd, E2, o1, o2, hl, hk⟩ := box_of e1 rr1 q1
    refine ⟨by rw [sizeLine_eq, celEs_len c]; exact hl, fun p hp => ?_⟩
    have sm : Small F1 H1 F1 (upd H1 p (.lst vs)) := ⟨Same.refl F1, same_upd hp, fun _ _ _ z => z, e1.sub.trans (same_upd hp)⟩
    have s2 : Stp F1 H1 S1 fp1 F1 H1 S2 fp1 := ⟨Same.refl F1, fun _ _ h _ _ => h, fun _ _ _ _ h _ => h, fun a h => .inl (o1 a h), fun _ h => h⟩
    have thq : ∀ a ∈ fq, a ≠ p := fun a ha z => by
      obtain ⟨u, hu⟩ := (e1.owned (o2 a ha).2.1).2
      rw [z, hp] at hu; cases hu
    refine k _ _ hk (.ref p) F1 _ fp1 ((st1.trans s2).trans sm.step) (E2.small sm) ⟨p, p :: fq, rfl, ⟨List.nodup_cons.mpr ⟨fun z => thq p z rfl, nd⟩, ?_⟩, fun a ha => ?_⟩
    · rw [CelE]
      exact ⟨p, fq, vs, rfl, rfl, upd_same, CelEs.mono (Same.refl F1) _ _ _ c fun a ha => upd_ne (thq a ha)⟩
    · rcases List.mem_cons.mp ha with z | z
      · subst z
        refine ⟨e1.sub.free hp, fun w => ?_, .inl (st1.th _ hp)⟩
        obtain ⟨u, hu⟩ := (E2.owned w).2
        rw [hp] at hu; cases hu
      · exact ⟨(o2 a z).1, (o2 a z).2.2, (st1.oo a (o2 a z).2.1).symm⟩
end
end Mv

/-! Mv: what the head reads off the heap: as hookD, and the own errors. -/
namespace Mh
open PySem PySem.Spec PySem.W PySem.Calls PyProof.Rows L2 He
/-- an own error: its name, its __init__'s qualified name, the argument, the field, the places of the text -/
structure XSp where
  n : Str
  qual : Str
  x : Str
  f : Str
  p : Nat → Pos
  q1 : Pos
  q2 : Pos
abbrev FnC : Type := Option (Str × Str × Arguments × FuncBody × Scope × Addr × Addr)
def iAd (K : Frag) (n : Str) : Addr := ma K (ga K n) "__init__"
def fnC (K : Frag) (n : Str) : FnC := match K.lookup (iAd K n) with
  | some ⟨_, _, .func fd, _⟩ => some (fd.name, fd.qualname, fd.params, fd.body, fd.scope, fd.globals, fd.builtins)
  | _ => none
def XSp.val (x : XSp) : FnC := some ("__init__", x.qual, Mx.iArgs x.x x.q1 x.q2, .stmts (Mx.iBody x.x x.f x.p), Mx.iScope x.x, mainGlobals, builtinsNs)
def codeB (K : Frag) (file : Str) (cd : Value) : Bool := match cd with
  | .ref a => (match K.lookup a with
    | some ⟨_, _, .fields vs, _⟩ => (match (vs[2]? : Option Value) with
      | some (.str y _) => decide (y = file)
      | _ => false)
    | _ => false)
  | _ => false
def cellB (K : Frag) (C : Addr) (cl : List (Str × Addr)) : Bool := match cl with
  | [(k, a)] => decide (k = "__class__") && (match K.lookup a with
    | some ⟨_, _, .cell (some (.ref D)), _⟩ => decide (D = C)
    | _ => false)
  | _ => false
def noV (v : Value) : Bool := match v with
  | .none => true
  | _ => false
def funB (K : Frag) (file qual : Str) (C fI : Addr) : Bool := match K.lookup fI with
  | some ⟨_, _, .func fd, _⟩ => codeIn K fd.code qual && (codeB K file fd.code && (cellB K C fd.closure && noV fd.defaults))
  | _ => false
def xB (file : Str) (K : Frag) (x : XSp) : Bool :=
  let C := ga K x.n
  excInitIn K C Mx.tail "Exception.__new__" && (excOver K C Mx.tail && (hasDictIn K C && (eqO (findIn K (.ref C) "__init__") (some (some (.ref (iAd K x.n)))) && (decide (typeIn K (.ref (iAd K x.n)) = some (.type "function")) &&
  (eqO (findIn K (.ref C) "__setattr__") (some (some (.builtin "object.__setattr__"))) && (eqO (findIn K (.ref C) x.f) (some none) && (decide (subIn K (.ref C) (.type "BaseException") = some true) && (decide (subIn K (.ref C) (.type "Exception") = some true) &&
  (decide (mroIn K C (.ref C) = some true) && (decide (typeIn K (.ref C) = some (.type "type")) && (keepIn K (.ref C) && (eqO (ks_superIn K C C "__init__") (some (some (.builtin "Exception.__init__"))) && (eqO (nsIn K cStatics "thirdparty.any") (some none) &&
  (eqO (nsIn K mainGlobals "super") (some none) && (funB K file x.qual C (iAd K x.n) && xfB K C)))))))))))))))
/-- what is so of the texts -/
structure XTx (x : XSp) : Prop where
  xs : x.x ≠ "self"
  x2 : (x.x == ("__debug__" : Str)) = false
  x3 : x.x ≠ "__class__"
  x4 : x.x ≠ "super"
  bnd : ∀ (nm qual : Str) (kV doc pm ct cdv : Value) (an : Option Addr) (cc : Addr) (a u : Value), bindArgs (ksFn nm qual (Mx.iArgs x.x x.q1 x.q2) (Mx.iBody x.x x.f x.p) (Mx.iScope x.x) .none kV doc pm an cdv ct cc) ⟨[a, u], []⟩ = pure [(("self" : Str), a), (x.x, u)]
  ev : ∀ env : Env, ∃ pl : Sem Bool, eval (.Call (.Attribute (.Call (.Name "super" (x.p 0)) [] [] (x.p 1)) "__init__" (x.p 2)) [.Name x.x (x.p 3)] [] (x.p 4)) env = (do
      let ov ← attributeBase (.Call (.Name "super" (x.p 0)) [] [] (x.p 1)) "__init__" env (eval (.Call (.Name "super" (x.p 0)) [] [] (x.p 1)) env)
      standAt (x.p 2).atName
      let (f, first) ← holding [ov] (getMethod ov "__init__" pl)
      callWith (x.p 4) f first (backTo (x.p 4) (starEach [.Name x.x (x.p 3)] env)) [])
structure PgOk (P : Program) (file : Str) : Prop where
  file : ((P.main.file : Str) == file) = true
  sup : (P.main.scope.names.lookup ("super" : Str)).isSome = false
theorem cellB_ok {K : Frag} {C : Addr} : ∀ {cl : List (Str × Addr)}, cellB K C cl = true → ∃ cc, cl = [(("__class__" : Str), cc)] ∧ ∃ (c1 : Value) (c2 : Option Addr) (c3 : Array (Option Value)), K.lookup cc = some ⟨c1, c2, .cell (some (.ref C)), c3⟩
  | [], h => by cases h
  | [(k, a)], h => by
    unfold cellB at h
    obtain ⟨z1, z2⟩ := ba h
    refine ⟨a, by rw [of_decide_eq_true z1], ?_⟩
    split at z2
    · rename_i c1 c2 D c3 hl
      rw [← of_decide_eq_true z2]
      exact ⟨c1, c2, c3, hl⟩
    · cases z2
  | _ :: _ :: _, h => by cases h
theorem xB_ok {P : Program} {file : Str} {K : Frag} {x : XSp} (h : xB file K x = true) (e : fnC K x.n = x.val) (g : PgOk P file) (t : XTx x) : (∃ fI cc cda, Mx.XcC P K (ga K x.n) fI cc cda x.x x.f x.p x.q1 x.q2) ∧ XfC K (ga K x.n) ∧ findIn K (.ref (ga K x.n)) x.f = some none := by
  obtain ⟨h1, h⟩ := ba h
  obtain ⟨h2, h⟩ := ba h
  obtain ⟨h3, h⟩ := ba h
  obtain ⟨h4, h⟩ := ba h
  obtain ⟨h5, h⟩ := ba h
  obtain ⟨h6, h⟩ := ba h
  obtain ⟨h7, h⟩ := ba h
  obtain ⟨h8, h⟩ := ba h
  obtain ⟨h9, h⟩ := ba h
  obtain ⟨h10, h⟩ := ba h
  obtain ⟨h11, h⟩ := ba h
  obtain ⟨h12, h⟩ := ba h
  obtain ⟨h13, h⟩ := ba h
  obtain ⟨h14, h⟩ := ba h
  obtain ⟨h15, h⟩ := ba h
  obtain ⟨h16, h17⟩ := ba h
  refine ⟨?_, xfB_ok h17, eqO_ok h7⟩
  unfold fnC at e
  unfold funB at h16
  cases q : K.lookup (iAd K x.n) with
  | none => rw [q] at h16; cases h16
  | some o =>
    obtain ⟨oc, od, dt, osl⟩ := o
    rw [q] at h16 e
    cases dt with
    | func fd =>
      obtain ⟨n1, n2, n3, n4, n5, n6, n7, n8, n9, n10, n11, n12, n13, n14, n15⟩ := fd
      have e2 : (some (n1, n2, n3, n4, n5, n6, n15) : FnC) = some (("__init__" : Str), x.qual, Mx.iArgs x.x x.q1 x.q2, FuncBody.stmts (Mx.iBody x.x x.f x.p), Mx.iScope x.x, mainGlobals, builtinsNs) := e
      simp only [Option.some.injEq, Prod.mk.injEq] at e2
      obtain ⟨g1, g2, g3, g4, g5, g6, g8⟩ := e2
      subst g1 g2 g3 g4 g5 g6 g8
      obtain ⟨k1, k⟩ := ba (show (codeIn K n13 x.qual && (codeB K file n13 && (cellB K (ga K x.n) n7 && noV n8))) = true from h16)
      obtain ⟨k2, k⟩ := ba k
      obtain ⟨k3, k4⟩ := ba k
      obtain ⟨cda, rfl⟩ : ∃ cda, n13 = .ref cda := by
        cases n13 with
        | ref c => exact ⟨c, rfl⟩
        | _ => cases k2
      have h8' : n8 = .none := by
        cases n8 with
        | none => rfl
        | _ => cases k4
      subst h8'
      obtain ⟨cc, rfl, hcell⟩ := cellB_ok k3
      have hcode : ∃ (ccl : Value) (cdd : Option Addr) (vs : Array Value) (ccs : Array (Option Value)) (fl : Str) (tf : Tok), K.lookup cda = some ⟨ccl, cdd, .fields vs, ccs⟩ ∧ vs[2]? = some (.str fl tf) ∧ ((P.main.file : Str) == fl) = true := by
        unfold codeB at k2
        cases z : K.lookup cda with
        | none => simp only [z] at k2; cases k2
        | some o2 =>
          obtain ⟨a1, a2, a3, a4⟩ := o2
          simp only [z] at k2
          cases a3 with
          | fields vs =>
            simp only at k2
            cases y : vs[2]? with
            | none => simp only [y] at k2; cases k2
            | some u =>
              simp only [y] at k2
              cases u with
              | str fl tf =>
                simp only at k2
                have e5 : fl = file := of_decide_eq_true k2
                subst e5
                exact ⟨a1, a2, vs, a4, fl, tf, rfl, y, g.file⟩
              | _ => cases k2
          | _ => cases k2
      exact ⟨iAd K x.n, cc, cda, ⟨h1, h2, h3, eqO_ok h4, of_decide_eq_true h5, eqO_ok h6, eqO_ok h7, of_decide_eq_true h8, of_decide_eq_true h9, of_decide_eq_true h10, of_decide_eq_true h11, h12, eqO_ok h13, eqO_ok h14, eqO_ok h15,
        ⟨oc, od, osl, _, _, n9, n10, n11, n14, n12, q, k1⟩, hcode, hcell, g.sup, t.xs, t.x2, t.x3, t.x4, t.bnd, t.ev⟩⟩
    | _ => cases h16

/-! ### the Hook -/
def newB : List Addr → Nat → List Addr → List Addr × Nat
  | [], m, acc => (acc.reverse, m)
  | a :: as, m, acc => match Nat.beq (Nat.land (Nat.shiftRight m a) 1) 1 with
    | true => newB as m acc
    | false => newB as (Nat.lor m (Nat.shiftLeft 1 a)) (a :: acc)
def kidsB (g : Addr → Option Obj) (a : Addr) : List Addr := match g a with
  | some o => refsD o
  | none => []
def asB (g : Addr → Option Obj) : Nat → List Addr × Nat → List Addr
  | 0, (fr, _) => fr
  | n + 1, (fr, m) => fr ++ asB g n (newB (fr.flatMap (kidsB g)) m [])
/-- what is reached in n steps, by marks -/
def asM (g : Addr → Option Obj) (n : Nat) : List Addr := asB g n (newB [mainGlobals, cStatics] 0 [])
abbrev AlM : Type := AlD × Bool × List FnC
def obsM (fa : List Fa) (fn : List DefD) (xs : List XSp) (ck : Frag → Bool) (K : Frag) : AlM := (obsD fa fn K, ck K, xs.map fun x => fnC K x.n)
def valM (fn : List DefD) (xs : List XSp) : AlM := (valD fn, true, xs.map XSp.val)
def SaysM (fa : List Fa) (fn : List DefD) (xs : List XSp) (ck : Frag → Bool) (K : Frag) : Prop := obsM fa fn xs ck K = valM fn xs
def obsMG (n : Nat) (fa : List Fa) (fn : List DefD) (xs : List XSp) (ck : Frag → Bool) (g : Addr → Option Obj) : AlM := obsM fa fn xs ck (frG g (asM g n))
def hookM (n : Nat) (fa : List Fa) (fn : List DefD) (xs : List XSp) (ck : Frag → Bool) : PySem.W.Hook where
  α := AlM
  obs := fun s => obsMG n fa fn xs ck s.heap.get?
  val := fun _ => valM fn xs
  says := fun _ h => ∃ K : Frag, K.In h ∧ SaysM fa fn xs ck K
  of := fun _ _ e => ⟨_, frG_in, e⟩
  keeps := fun _ _ _ ⟨K, hK, c⟩ k => ⟨K, PySem.W.Frag.In.keeps hK k, c⟩
theorem obsMG_eq {n : Nat} {fa : List Fa} {fn : List DefD} {xs : List XSp} {ck : Frag → Bool} {g : Addr → Option Obj} {s : Shared} (h : ∀ a, g a = s.heap.get? a) : obsMG n fa fn xs ck g = (hookM n fa fn xs ck).obs s := by
  have e : g = s.heap.get? := funext h
  rw [e] <;> rfl
section
variable {fa : List Fa} {fn : List DefD} {xs : List XSp} {ck : Frag → Bool} {K : Frag}
theorem SaysM.d' (c : SaysM fa fn xs ck K) : SaysD fa fn K := congrArg (fun z : AlM => z.1) c
theorem SaysM.ck' (c : SaysM fa fn xs ck K) : ck K = true := congrArg (fun z : AlM => z.2.1) c
theorem SaysM.xs' (c : SaysM fa fn xs ck K) (i : Nat) {x : XSp} (h : xs[i]? = some x) : fnC K x.n = x.val := by
  have e : xs.map (fun x => fnC K x.n) = xs.map XSp.val := congrArg (fun z : AlM => z.2.2) c
  have e2 : (xs.map fun x => fnC K x.n)[i]? = (xs.map XSp.val)[i]? := by rw [e]
  rw [List.getElem?_map, List.getElem?_map, h] at e2
  exact Option.some.inj e2
end
/-- the class of number k -/
def clsA (ns : List Str) (K : Frag) (k : Nat) : Addr := ga K (ns.getD k (ns.getD 0 ""))
def mtR (row : List Bool) (k : Nat) : Bool := row.getD k (row.getD 0 false)
/-- each class of the text against the class of number i -/
def rowB (ns : List Str) (K : Frag) (row : List Bool) (i : Nat) : Bool := decide (row.length = ns.length) && (List.range ns.length).all fun k => decide (exmOne K (.ref (clsA ns K k)) (.ref (clsA ns K i)) = some (mtR row k))
theorem getD_out {α : Type} {l : List α} {k : Nat} {d : α} (h : l.length ≤ k) : l.getD k d = d := by rw [List.getD_eq_getElem?_getD, List.getElem?_eq_none h]; rfl
theorem rowB_ok {ns : List Str} {K : Frag} {row : List Bool} {i : Nat} (h0 : ns ≠ []) (h : rowB ns K row i = true) : ∀ k, exmOne K (.ref (clsA ns K k)) (.ref (clsA ns K i)) = some (mtR row k) := by
  obtain ⟨h1, h2⟩ := ba h
  have hl := of_decide_eq_true h1
  have hp : 0 < ns.length := List.length_pos_iff.mpr h0
  intro k
  by_cases c : k < ns.length
  · exact of_decide_eq_true (List.all_eq_true.mp h2 k (List.mem_range.mpr c))
  · have z := of_decide_eq_true (List.all_eq_true.mp h2 0 (List.mem_range.mpr hp))
    have e1 : clsA ns K k = clsA ns K 0 := by
      unfold clsA
      rw [getD_out (by omega)]
      obtain ⟨a, l, rfl⟩ := List.exists_cons_of_ne_nil h0
      rfl
    have e2 : mtR row k = mtR row 0 := by
      unfold mtR
      rw [getD_out (by omega)]
      cases row with
      | nil => rfl
      | cons a l => rfl
    rw [e1, e2]; exact z
end Mh

/-! Mv: the end. -/
namespace Mv
open PySem L2
/-- what the top left, of the module's names -/
structure Tx (fa : List He.Fa) (fn : List He.DefD) (xs : List Mh.XSp) (cks : List (PySem.W.Frag → Bool)) (file : Str) (P : Program) (K : PySem.W.Frag) (mg : Str → Option Value) : Prop where
  ex : ∃ h : Heap, K.In h ∧ h.Ns mainGlobals mg ∧ Mh.SaysM fa fn xs (fun K => cks.all fun c => c K) K
  pg : Mh.PgOk P file
section
variable {fa : List He.Fa} {fn : List He.DefD} {xs : List Mh.XSp} {cks : List (PySem.W.Frag → Bool)} {file : Str} {P : Program} {K : PySem.W.Frag} {mg : Str → Option Value}
theorem Tx.glo (T : Tx fa fn xs cks file P K mg) (i : Nat) {x : Str} (e : fa[i]? = some (.glo x)) : mg x = some (.ref (He.ga K x)) := by
  obtain ⟨h, X, G, c⟩ := T.ex
  exact He.glo_ok X G (c.d'.fact i e)
theorem Tx.free (T : Tx fa fn xs cks file P K mg) (i : Nat) {x : Str} (e : fa[i]? = some (.free x)) : mg x = none := by
  obtain ⟨h, X, G, c⟩ := T.ex
  exact He.free_ok X G (c.d'.fact i e)
theorem Tx.int (T : Tx fa fn xs cks file P K mg) (i : Nat) {x : Str} {n : Int} (e : fa[i]? = some (.int x n)) : ∃ t, mg x = some (.int n t) := by
  obtain ⟨h, X, G, c⟩ := T.ex
  exact He.int_ok X G (c.d'.fact i e)
theorem Tx.str (T : Tx fa fn xs cks file P K mg) (i : Nat) {x n : Str} (e : fa[i]? = some (.str x n)) : ∃ t, mg x = some (.str n t) := by
  obtain ⟨h, X, G, c⟩ := T.ex
  exact He.str_ok X G (c.d'.fact i e)
theorem Tx.fact (T : Tx fa fn xs cks file P K mg) (i : Nat) {f : He.Fa} (e : fa[i]? = some f) : f.ok K = true := by
  obtain ⟨h, X, G, c⟩ := T.ex
  exact c.d'.fact i e
theorem Tx.def_ (T : Tx fa fn xs cks file P K mg) (i : Nat) {d : He.DefD} (e : fn[i]? = some d) : ∃ fd, FunD K d.name d.qual d.params d.body d.scope (d.dvs K) (d.kws K) (He.fAd K d.at_) fd := by
  obtain ⟨h, X, G, c⟩ := T.ex
  exact c.d'.def_ i e
theorem Tx.ck (T : Tx fa fn xs cks file P K mg) (i : Nat) {c : PySem.W.Frag → Bool} (e : cks[i]? = some c) : c K = true := by
  obtain ⟨h, X, G, z⟩ := T.ex
  exact List.all_eq_true.mp z.ck' c (List.mem_of_getElem? e)
theorem Tx.exc (T : Tx fa fn xs cks file P K mg) (i j : Nat) {x : Mh.XSp} (e : xs[i]? = some x) (c : cks[j]? = some (fun K => Mh.xB file K x)) (t : Mh.XTx x) : (∃ fI cc cda, Mx.XcC P K (He.ga K x.n) fI cc cda x.x x.f x.p x.q1 x.q2) ∧ XfC K (He.ga K x.n) ∧ PySem.W.findIn K (.ref (He.ga K x.n)) x.f = some none := by
  have hc := T.ck j c
  obtain ⟨h, X, G, z⟩ := T.ex
  exact Mh.xB_ok hc (z.xs' i e) T.pg t
end
section
variable {X : Cx} {cl : Nat → Addr} {W : WX} {pin : List Nat} {pos : Pos}
theorem qInt {i : Int} {j : Nat} : PM X cl W pin (.Constant (.int i) j pos) (mC (.int i)) := qC pe_int fun F => by rw [Rep]
theorem qBl {i : Bool} {j : Nat} : PM X cl W pin (.Constant (.bool i) j pos) (mC (.bl i)) := qC pe_bl fun F => by rw [Rep]
theorem qNon {j : Nat} : PM X cl W pin (.Constant .none j pos) (mC .non) := qC pe_non fun F => by rw [Rep]
theorem qStr {i : Str} {j : Nat} : PM X cl W pin (.Constant (.str i) j pos) (mC (.str i)) := qC pe_str fun F => by rw [Rep]
theorem qGI {x : Str} {i : Int} (hg : Gl X x) (hm : ∃ t, X.mg x = some (.int i t)) (hd : (x == ("__debug__" : Str)) = false := by decide) : PM X cl W pin (.Name x pos) (mC (.int i)) := by
  obtain ⟨t, h⟩ := hm
  exact qC (pe_glob (v := V.int i) hg h ⟨t, rfl⟩ hd) fun F => by rw [Rep]
theorem qGS {x i : Str} (hg : Gl X x) (hm : ∃ t, X.mg x = some (.str i t)) (hd : (x == ("__debug__" : Str)) = false := by decide) : PM X cl W pin (.Name x pos) (mC (.str i)) := by
  obtain ⟨t, h⟩ := hm
  exact qC (pe_glob (v := V.str i) hg h ⟨t, rfl⟩ hd) fun F => by rw [Rep]
theorem qTy {x : Str} {n : String} (hg : Gl X x) (hm : X.mg x = none) (hv : bootBuiltins x = some (.type n)) (hn : x ≠ "__name__" := by decide) (hd : (x == ("__debug__" : Str)) = false := by decide) : PM X cl W pin (.Name x pos) (mC (.ty n)) :=
  qC (pe_bltn (v := V.ty n) hg hm hv rfl hn hd) fun F => by rw [Rep]
end
/-- the law's def, where no error leaves it -/
theorem law_ok {P : Program} {w : World} {K : PySem.W.Frag} {mg : Str → Option Value} {base : Heap} {cl : Nat → Addr} {k : Nat} {f : Addr} {fd : FuncData} {ps : List Str} {fs : FS} (F : FnOk P w K mg base (L2.CX P w) k f fd ps (spF K cl fs)) :
    FnOk P w K mg base L2.CX0 k f fd ps (fun vs H Q _ => spF K cl fs vs H Q fun _ _ _ => False) :=
  ⟨fun vs H Q E h => F.len _ _ _ _ h, fun A outer s H args us vs Q E hr he hb hv hs => codeAny_mono (F.run A outer s H args us vs Q (fun _ _ _ => False) hr he hb hv hs) fun r s' hq => by
    cases r with
    | ok fl => cases fl <;> exact hq
    | error e =>
      obtain ⟨_, _, _, _, _, _, _, _, _, _, _, _, z⟩ := hq
      exact z.elim⟩
/-- the script is handed in -/
theorem law_in {K : PySem.W.Frag} {cl : Nat → Addr} {fs : FS} {H : Hp} {a : Addr} {ns : List Int} (hS : SqL K H a (ns.map V.int)) (h : fs [.fz (.rol (ns.map D.int))] (fun _ _ => False) (fun r _ => r = .val (.bl true))) (ht : cl 20 = cl 0 ∨ H (tP K) = some (.tbl #[]) := by exact .inl rfl) :
    spF K cl fs [.ref a] H (fun v _ => v = .bl true) fun _ _ _ => False := by
  have tb0 : Tab K cl (fun _ => none) H := ht.elim .inl fun z => .inr ⟨rfl, LamX.TabS.nil z⟩
  obtain ⟨G, _, g2, g3, g4⟩ := tb0.split fun _ _ z => by cases z
  have hG : SqL K G a (ns.map V.int) := by
    rcases hS with (z | ⟨o, z⟩) | z
    · exact .inl (.inl (g4 _ _ z fun ps q => by cases q))
    · exact .inl (.inr ⟨o, g4 _ _ z fun ps q => by cases q⟩)
    · exact .inr z
  refine ⟨[.fz (.rol (ns.map D.int))], G, fun _ => [], _, _, ⟨g2, rfl, fun i d e => ?_, fun i o e => ?_, fun i o e => ?_, fun i j o u _ e => ?_, g3⟩, h, fun r ps q v F' H' fp' st e rr _ => ?_, fun xd ps q => q.elim⟩
  · cases i with
    | zero =>
      simp at e; subst e
      exact ⟨.ref a, rfl, by rw [Rep]; exact ⟨a, _, rfl, hG, RepL.of_ints G ns⟩⟩
    | succ i => simp at e
  · cases i <;> simp at e
  · cases i <;> simp at e
  · cases i <;> simp at e
  · subst q
    have z : Rep K cl F' (.bl true) v := rr
    rwa [Rep] at z
end Mv

/-! Mv: the readings walked by simp. The wishes have names, so that nothing is done under a binder. -/
namespace Mv
open PySem L2
abbrev QE := R → Fm → Prop
abbrev QL := List R → Fm → Prop
abbrev QT := Bool → Fm → Prop
abbrev QI := List D → Fm → Prop
def slQ (S : Fm) (i : Nat) (k : O → Prop) : Prop := ∃ o, S[i]? = some (Sl.ow o) ∧ k o
def setQ (S : Fm) (i : Nat) (p : Sl) (k : Fm → Prop) : Prop := k (S.set i p)
def kO (k : D → Prop) (o : O) : Prop := nbQ o k
def kR (Q : QE) (S : Fm) (r : R) : Prop := Q r S
def kFz1 (Q : QE) (S : Fm) (i : Nat) (o : O) : Prop := setQ S i (.fz (frzO o)) (Q (.val (frzO o)))
def kFz (Q : QE) (r : R) (S : Fm) : Prop := match r with
  | .val d => Q (.val d) S
  | .own o => Q (.val (frzO o)) S
  | .slot i => slQ S i (kFz1 Q S i)
def kB4 (f : DOp2) (d : D) (Q : QE) (S : Fm) (e : D) : Prop := f d e (kR Q S)
def kB3 (f : DOp2) (y : R) (Q : QE) (S : Fm) (d : D) : Prop := pkQ S (fzR y) (kB4 f d Q S)
def kB2 (f : DOp2) (x : R) (Q : QE) (y : R) (S : Fm) : Prop := pkQ S (fzR x) (kB3 f y Q S)
def kB1 (f : DOp2) (b : ME) (E : EX) (Q : QE) (x : R) (S : Fm) : Prop := b E (kB2 f x Q) S
def kU2 (f : DOp1) (Q : QE) (S : Fm) (d : D) : Prop := f d (kR Q S)
def kU1 (f : DOp1) (Q : QE) (x : R) (S : Fm) : Prop := pkQ S (fzR x) (kU2 f Q S)
def kC2 (x : R) (Q : QL) (xs : List R) (S : Fm) : Prop := Q (fzR x :: xs) S
def kC1 (r : MA) (E : EX) (Q : QL) (x : R) (S : Fm) : Prop := r E (kC2 x Q) S
def kP2 (d : D) (k : List D → Prop) (ds : List D) : Prop := k (d :: ds)
def kP1 (S : Fm) (rs : List R) (k : List D → Prop) (d : D) : Prop := pkQs S rs (kP2 d k)
def kI2 (f : DOpL) (Q : QE) (S : Fm) (ds : List D) : Prop := f ds (kR Q S)
def kI1 (f : DOpL) (Q : QE) (rs : List R) (S : Fm) : Prop := pkQs S rs (kI2 f Q S)
def kF1 (a b : ME) (E : EX) (Q : QE) (k : Bool) (S : Fm) : Prop := if k = true then a E Q S else b E Q S
def kT1 (Q : QT) (x : R) (S : Fm) : Prop := match x with
  | .val (.bl k) => Q k S
  | _ => False
def kT4 (Q : QT) (S : Fm) (b : Bool) : Prop := Q b S
def kT3 (Q : QT) (S : Fm) (d : D) : Prop := truQ d (kT4 Q S)
def kT2 (Q : QT) (x : R) (S : Fm) : Prop := pkQ S x (kT3 Q S)
def kA1 (b : MT) (E : EX) (Q : QT) (k : Bool) (S : Fm) : Prop := if k = true then b E Q S else Q false S
def kA2 (b : MT) (E : EX) (Q : QT) (k : Bool) (S : Fm) : Prop := if k = true then Q true S else b E Q S
def kN1 (Q : QT) (k : Bool) (S : Fm) : Prop := Q (!k) S
def kV1 (b : ME) (E : EX) (Q : QE) (x : R) (S : Fm) : Prop := match x with
  | .val (.bl k) => if k = true then b E Q S else Q (.val (.bl false)) S
  | _ => False
def kV2 (b : ME) (E : EX) (Q : QE) (x : R) (S : Fm) : Prop := match x with
  | .val (.bl k) => if k = true then Q (.val (.bl true)) S else b E Q S
  | _ => False
def kV3 (Q : QE) (x : R) (S : Fm) : Prop := match x with
  | .val (.bl k) => Q (.val (.bl !k)) S
  | _ => False
def kH6 (o2 : DOp2) (y : R) (Q : QE) (z : R) (S : Fm) : Prop := pkQ S (fzR y) (kB3 o2 z Q S)
def kH5 (o2 : DOp2) (c : ME) (E : EX) (Q : QE) (y : R) (S : Fm) (r : R) : Prop := match r with
  | .val (.bl k) => if k = true then c E (kH6 o2 y Q) S else Q (.val (.bl false)) S
  | _ => False
def kH4 (o1 o2 : DOp2) (c : ME) (E : EX) (Q : QE) (y : R) (S : Fm) (d e : D) : Prop := o1 d e (kH5 o2 c E Q y S)
def kH3 (o1 o2 : DOp2) (c : ME) (E : EX) (Q : QE) (y : R) (S : Fm) (d : D) : Prop := pkQ S (fzR y) (kH4 o1 o2 c E Q y S d)
def kH2 (o1 o2 : DOp2) (c : ME) (E : EX) (Q : QE) (x y : R) (S : Fm) : Prop := pkQ S (fzR x) (kH3 o1 o2 c E Q y S)
def kH1 (o1 o2 : DOp2) (b c : ME) (E : EX) (Q : QE) (x : R) (S : Fm) : Prop := b E (kH2 o1 o2 c E Q x) S
def bkQ (rs : List R) (ps S : Fm) (k : Fm → Prop) : Prop := k (backS rs ps S)
def kBk (rs : List R) (ps : Fm) (k : Fm → Prop) (S : Fm) : Prop := bkQ rs ps S k
def kKE (E : EX) (rs : List R) (S : Fm) (xd : XD) (ps : Fm) : Prop := bkQ rs ps S (E xd)
def kKQ (Q : QE) (rs : List R) (S : Fm) (r : R) (ps : Fm) : Prop := bkQ rs ps S (Q r)
def kK2 (fs : FS) (E : EX) (Q : QE) (rs : List R) (S : Fm) (as : List Sl) : Prop := fs as (kKE E rs S) (kKQ Q rs S)
def kK1 (fs : FS) (E : EX) (Q : QE) (rs : List R) (S : Fm) : Prop := (slotsOf rs).Nodup ∧ asl S rs (kK2 fs E Q rs S)
def kS0 (p : Sl) (k : List Sl → Prop) (as : List Sl) : Prop := k (p :: as)
def kS9 (S : Fm) (rs : List R) (k : List Sl → Prop) (o : O) : Prop := asl S rs (kS0 (.ow o) k)
def kL2 (Q : QE) (S : Fm) (ds : List D) : Prop := ds.length ≤ 16777216 ∧ Q (.own (.lst ds)) S
def kL1 (Q : QE) (rs : List R) (S : Fm) : Prop := valsOf rs (kL2 Q S)
def kM2 (Q : QE) (S : Fm) (ds : List D) : Prop := ds.length ≤ 16777216 ∧ Q (.val (.tup ds)) S
def kM1 (Q : QE) (rs : List R) (S : Fm) : Prop := valsOf rs (kM2 Q S)
def kPm2 (m : Nat) (p : List Nat) (rs : List R) (Q : QL) (zs : List R) (S : Fm) : Prop := zs.length = m ∧ Q (permR p (rs ++ zs)) S
def kPm1 (n m : Nat) (p : List Nat) (mk : MA) (E : EX) (Q : QL) (rs : List R) (S : Fm) : Prop := rs.length = n ∧ mk E (kPm2 m p rs Q) S
def kFo (g : MG) (b : MS) (Z : MEnds) (ds : List D) (S : Fm) : Prop := forW g b Z ds S
def kRg1 (Q : QI) (rs : List R) (S : Fm) : Prop := match rs with
  | [.val (.int j)] => -(2 ^ 62) ≤ j ∧ j < 2 ^ 62 ∧ Q (rngD 0 j.toNat) S
  | _ => False
def kRg2 (Q : QI) (rs : List R) (S : Fm) : Prop := match rs with
  | [.val (.int i), .val (.int j)] => (-(2 ^ 62) ≤ i ∧ i < 2 ^ 62 ∧ -(2 ^ 62) ≤ j ∧ j < 2 ^ 62) ∧ Q (rngD i (j - i).toNat) S
  | _ => False
def itQ (x : Option (List D)) (Q : QI) (S : Fm) : Prop := ∃ ds, x = some ds ∧ Q ds S
def kSq (Q : QI) (r : R) (S : Fm) : Prop := match fzR r with
  | .val d => itQ (itemsOf d) Q S
  | _ => False
def kSt (i : Nat) (Z : MEnds) (r : R) (S : Fm) : Prop := match r with
  | .val d => setQ S i (.fz d) Z.nx
  | .own o => setQ S i (.ow o) Z.nx
  | .slot _ => False
def kEx (Z : MEnds) (r : R) (S : Fm) : Prop := Z.nx S
def kAs (g : MG) (Z : MEnds) (r : R) (S : Fm) : Prop := match fzR r with
  | .val d => g d S Z.nx
  | _ => False
def kGs (r : MGs) (es : List D) (k : Fm → Prop) (S : Fm) : Prop := r es S k
def kS4 (l h : Option Int) (Q : QE) (S : Fm) (d : D) : Prop := dSl d l h (kR Q S)
def kS3 (x : R) (l : Option Int) (Q : QE) (h : Option Int) (S : Fm) : Prop := pkQ S (fzR x) (kS4 l h Q S)
def kS2 (hi : MO) (E : EX) (Q : QE) (x : R) (l : Option Int) (S : Fm) : Prop := hi E (kS3 x l Q) S
def kS1 (lo hi : MO) (E : EX) (Q : QE) (x : R) (S : Fm) : Prop := lo E (kS2 hi E Q x) S
def kOo (Q : Option Int → Fm → Prop) (r : R) (S : Fm) : Prop := match r with
  | .val (.int i) => Q (some i) S
  | _ => False
def kWh (c : MT) (b : MS) (Z : MEnds) (S : Fm) : Prop := sWhile c b Z S
def kIff (a b : MS) (Z : MEnds) (k : Bool) (S : Fm) : Prop := if k = true then a Z S else b Z S
def kRt (pin : List Nat) (k : Nat) (Q : QE) (r : R) (S : Fm) : Prop := match r with
         | .val d => Q (.val d) (outP pin k S)
         | .own o => Q (.own o) (outP pin k S)
         | .slot i => slQ S i fun o => Q (.own o) (outP pin k (S.set i .un))
def kNo (S : Fm) : Prop := False
def kNx (pin : List Nat) (k : Nat) (Q : QE) (S : Fm) : Prop := Q (.val .non) (outP pin k S)
def kXx (pin : List Nat) (k : Nat) (E : EX) (xd : XD) (S : Fm) : Prop := E xd (outP pin k S)
def ixQ (x : Option D) (k : R → Prop) : Prop := ∃ d, x = some d ∧ k (.val d)
def kMu4 (i : Nat) (Q : QE) (S : Fm) (xs : List D) (d : D) : Prop := setQ S i (.ow (.lst xs)) (Q (.val d))
def kMu3 (i : Nat) (lop : DMu) (ds : List D) (Q : QE) (S : Fm) (xs : List D) : Prop := lop xs ds (kMu4 i Q S)
def kMu2 (i : Nat) (lop : DMu) (Q : QE) (S : Fm) (ds : List D) : Prop := luQ S i (kMu3 i lop ds Q S)
def kMu1 (i : Nat) (lop : DMu) (Q : QE) (rs : List R) (S : Fm) : Prop := valsOf rs (kMu2 i lop Q S)
def kMu0 (i : Nat) (lop : DMu) (ma : MA) (E : EX) (Q : QE) (S : Fm) (_ : List D) : Prop := ma E (kMu1 i lop Q) S
def puQ (x : Option Nat) (k : Nat → Prop) : Prop := ∃ l, x = some l ∧ k l
def kPu5 (i : Nat) (Z : MEnds) (d : D) (S : Fm) (xs : List D) (l : Nat) : Prop := setQ S i (.ow (.lst (xs.set l d))) Z.nx
def kPu4 (i : Nat) (Z : MEnds) (d : D) (j : Int) (S : Fm) (xs : List D) : Prop := puQ (L2.ixN xs.length j) (kPu5 i Z d S xs)
def kPu3 (i : Nat) (Z : MEnds) (d : D) (r : R) (S : Fm) : Prop := match r with
  | .val (.int j) => luQ S i (kPu4 i Z d j S)
  | _ => False
def kPu2 (i : Nat) (mi : ME) (Z : MEnds) (d : D) (S : Fm) (_ : List D) : Prop := mi Z.ex (kPu3 i Z d) S
def kPu1 (i : Nat) (mi : ME) (Z : MEnds) (r : R) (S : Fm) : Prop := match fzR r with
  | .val d => luQ S i (kPu2 i mi Z d S)
  | _ => False
def kLc3 (vs : List Nat) (Q : QE) (S : Fm) (acc : List D) (S2 : Fm) : Prop := Q (.own (.lst acc)) (resS S vs S2)
def kLc (n : Nat) (vs : List Nat) (g : MG) (mt : MT) (me : ME) (Q : QE) (ds : List D) (S : Fm) : Prop := S.length = n ∧ noOw S vs ∧ lcW n vs g mt me ds [] (wipeS S vs) (kLc3 vs Q S)
def lcK3 (vs : List Nat) (acc : List D) (N : List D → Fm → Prop) (r : R) (S : Fm) : Prop := match fzR r with
  | .val y => acc.length < 16777216 ∧ N (acc ++ [y]) (wipeS S vs)
  | _ => False
def lcK2 (vs : List Nat) (me : ME) (acc : List D) (N : List D → Fm → Prop) (b : Bool) (S : Fm) : Prop := if b = true then me noE (lcK3 vs acc N) S else N acc (wipeS S vs)
def lcK1 (n : Nat) (vs : List Nat) (mt : MT) (me : ME) (acc : List D) (N : List D → Fm → Prop) (S : Fm) : Prop := S.length = n ∧ mt noE (lcK2 vs me acc N) S
def kRv1 (Q : QI) (r : R) (S : Fm) : Prop := match r with
  | .val (.int j) => (-(2 ^ 62) ≤ j ∧ j < 2 ^ 62) ∧ Q (rngC ((j.toNat : Int) - 1) (-1) j.toNat) S
  | _ => False
def kRv2b (Q : QI) (q r : R) (S : Fm) : Prop := match q, r with
  | .val (.int i), .val (.int j) => (-(2 ^ 62) ≤ i ∧ i < 2 ^ 62 ∧ -(2 ^ 62) ≤ j ∧ j < 2 ^ 62) ∧ Q (rngC (i + ((j - i).toNat : Int) - 1) (-1) (j - i).toNat) S
  | _, _ => False
def kRv2 (n : ME) (E : EX) (Q : QI) (q : R) (S : Fm) : Prop := n E (kRv2b Q q) S
def kRvS (Q : QI) (r : R) (S : Fm) : Prop := match fzR r with
  | .val (.lst xs) => Q xs.reverse S
  | .val (.rol xs) => Q xs.reverse S
  | .val (.tup xs) => Q xs.reverse S
  | .val (.rot xs) => Q xs.reverse S
  | _ => False
def kEn (Q : QI) (r : R) (S : Fm) : Prop := match fzR r with
  | .val (.lst xs) => Q (enD xs) S
  | .val (.rol xs) => Q (enD xs) S
  | _ => False
def kRg3 (Q : QI) (rs : List R) (S : Fm) : Prop := match rs with
  | [.val (.int i), .val (.int j), .val (.int c)] => ∃ n, RgC i j c n ∧ Q (rngC i c n) S
  | _ => False
def lcN (n : Nat) (vs : List Nat) (g : MG) (mt : MT) (me : ME) (ds : List D) (kk : List D → Fm → Prop) (acc : List D) (S : Fm) : Prop := lcW n vs g mt me ds acc S kk
def kMe5 (dop : DMe) (d : D) (Q : QE) (S : Fm) (ds : List D) : Prop := dop d ds (kR Q S)
def kMe4 (dop : DMe) (rs : List R) (Q : QE) (S : Fm) (d : D) : Prop := pkQs S rs (kMe5 dop d Q S)
def kMe3 (dop : DMe) (x : R) (Q : QE) (rs : List R) (S : Fm) : Prop := pkQ S (fzR x) (kMe4 dop rs Q S)
def kMe2 (T : String) (dop : DMe) (ma : MA) (E : EX) (Q : QE) (x : R) (S : Fm) (d0 : D) : Prop := tyMeth T d0 = true ∧ ma E (kMe3 dop x Q) S
def kMe1 (T : String) (dop : DMe) (ma : MA) (E : EX) (Q : QE) (x : R) (S : Fm) : Prop := pkQ S (fzR x) (kMe2 T dop ma E Q x S)
def kPk5 (i : Nat) (Z : MEnds) (d kd : D) (S : Fm) (kvs : List (Key × D)) : Prop := ∃ key, keyD kd = some key ∧ kvs.length < 16777216 ∧ setQ S i (.ow (.dK (putKD kvs key d))) Z.nx
def kPk3 (i : Nat) (Z : MEnds) (d : D) (r : R) (S : Fm) : Prop := match r with
  | .val kd => duQ S i (kPk5 i Z d kd S)
  | _ => False
def kPk2 (i : Nat) (mi : ME) (Z : MEnds) (d : D) (S : Fm) (_ : List (Key × D)) : Prop := mi Z.ex (kPk3 i Z d) S
def kPk1 (i : Nat) (mi : ME) (Z : MEnds) (r : R) (S : Fm) : Prop := match fzR r with
  | .val d => duQ S i (kPk2 i mi Z d S)
  | _ => False
def kAu (g : Int → Int → Int) (i : Nat) (y : Int) (Z : MEnds) (r : R) (S : Fm) : Prop := match r with
  | .val (.int z) => setQ S i (.fz (.int (g y z))) Z.nx
  | _ => False
def kEnT (Q : QI) (r : R) (S : Fm) : Prop := match fzR r with
  | .val (.lst xs) => Q (enD xs) S
  | .val (.rol xs) => Q (enD xs) S
  | .val (.tup xs) => Q (enD xs) S
  | .val (.rot xs) => Q (enD xs) S
  | _ => False
def kOE (E : EX) (rs : List R) (S : Fm) (xd : XD) (ps : Fm) : Prop := bkQ rs ps.tail S (E xd)
def kOR (Q : QE) (rs : List R) (S : Fm) (r : R) (ps : Fm) : Prop := bkQ rs ps.tail S (Q r)
def kMt2 (fs : FS) (E : EX) (Q : QE) (r : R) (rs : List R) (S : Fm) : Prop := kK1 fs E Q (r :: rs) S
def kMk2 (c : Nat) (fs : FS) (E : EX) (Q : QE) (rs : List R) (S : Fm) (as : List Sl) : Prop := fs (.ow (.obj c []) :: as) (kOE E rs S) (kMkR Q rs S)
def kO2 (fs : FS) (o : O) (E : EX) (Q : QE) (rs : List R) (S : Fm) (as : List Sl) : Prop := fs (.ow o :: as) (kOE E rs S) (kOR Q rs S)
def suQ (i : Nat) (su : Addr → Addr → Nat → MS) (c : Nat) (fs : List (Str × D)) (Z : MEnds) (S : Fm) : Prop := ∀ a dx, setQ S i (.fz (.exo a dx fs)) (su a dx c Z)
def kUn (i : Nat) (k : Fm → Prop) (S : Fm) : Prop := setQ S i .un k
def xfQ (x : Option D) (Q : QE) (S : Fm) : Prop := ∃ d, x = some d ∧ Q (.val d) S
def kXf (a dx : Addr) (c c0 : Nat) (f : Str) (Q : QE) (r : R) (S : Fm) : Prop := match r with
  | .val (.exo a' dx' fs) => a' = a ∧ dx' = dx ∧ c = c0 ∧ xfQ (fs.lookup f) Q S
  | _ => False
section
variable {E : EX} {Q : QE} {QB : QT} {QA : QL} {Qi : QI} {S : Fm} {Z : MEnds} {nx bk ct : Fm → Prop} {rt : QE} {ex : EX} {kf : Fm → Prop} {n k i : Nat} {pin : List Nat} {ms : MS} {as : List Sl} {a b : ME} {sa sb : MS} {ta tb : MT} {d e : D} {ds : List D} {f : DOp2} {fl : DOpL} {f1 : DOp1} {r : MA} {fs : FS} {ma mk : MA} {rs : List R} {x y : R} {bo : Bool}
@[simp] theorem ap_fnSem : fnSem n k pin ms as E Q = (as.length = k ∧ ioOk pin 0 as ∧ ms ⟨kNx pin k Q, kRt pin k Q, kNo, kNo, kXx pin k E⟩ (as ++ List.replicate (n - k) .un)) := by
  rfl
@[simp] theorem ap_seq : sSeq sa sb ⟨nx, rt, bk, ct, ex⟩ S = sa ⟨sb ⟨nx, rt, bk, ct, ex⟩, rt, bk, ct, ex⟩ S := id rfl
@[simp] theorem ap_next : sNext ⟨nx, rt, bk, ct, ex⟩ S = nx S := id rfl
@[simp] theorem ap_expr : sExpr a Z S = a Z.ex (kEx Z) S := id rfl
@[simp] theorem ap_kEx : kEx ⟨nx, rt, bk, ct, ex⟩ x S = nx S := id rfl
@[simp] theorem ap_ret : sRet a ⟨nx, rt, bk, ct, ex⟩ S = a ex rt S := id rfl
@[simp] theorem ap_retN : sRetN ⟨nx, rt, bk, ct, ex⟩ S = rt (.val .non) S := id rfl
@[simp] theorem ap_sNo : sNo Z S = False := id rfl
@[simp] theorem ap_sIf : sIf ta sa sb ⟨nx, rt, bk, ct, ex⟩ S = ta ex (kIff sa sb ⟨nx, rt, bk, ct, ex⟩) S := id rfl
@[simp] theorem ap_kIff : kIff sa sb Z bo S = if bo = true then sa Z S else sb Z S := id rfl
@[simp] theorem ap_brk : sBrk ⟨nx, rt, bk, ct, ex⟩ S = bk S := id rfl
@[simp] theorem ap_cnt : sCnt ⟨nx, rt, bk, ct, ex⟩ S = ct S := id rfl
@[simp] theorem ap_set : sSet i a ⟨nx, rt, bk, ct, ex⟩ S = a ex (kSt i ⟨nx, rt, bk, ct, ex⟩) S := id rfl
@[simp] theorem ap_kSt1 : kSt i ⟨nx, rt, bk, ct, ex⟩ (.val d) S = setQ S i (.fz d) nx := id rfl
@[simp] theorem ap_kSt2 {o : O} : kSt i ⟨nx, rt, bk, ct, ex⟩ (.own o) S = setQ S i (.ow o) nx := id rfl
@[simp] theorem ap_c : mC d E Q S = Q (.val d) S := id rfl
@[simp] theorem ap_lend {m : ME} : mLend m E Q S = m eLn (qLn S Q) (S.map frzS) := id rfl
@[simp] theorem ap_frzS1 {o : O} : frzS (.ow o) = .fz (frzO o) := id rfl
@[simp] theorem ap_frzS2 : frzS (.fz d) = .fz d := id rfl
@[simp] theorem ap_frzS3 : frzS .un = .un := id rfl
@[simp] theorem ap_qLn : qLn S Q (.val d) S1 = (pur d = true ∧ Q (.val d) S) := id rfl
@[simp] theorem ap_pur1 {b : Bool} : pur (.bl b) = true := id rfl
@[simp] theorem ap_pur2 {x : Int} : pur (.int x) = true := id rfl
@[simp] theorem ap_pur3 {t : Str} : pur (.str t) = true := id rfl
@[simp] theorem ap_pur4 : pur .non = true := id rfl
@[simp] theorem ap_pur5 {xs : List D} : pur (.tup xs) = purL xs := by rw [pur]
@[simp] theorem ap_pur6 : purL [] = true := id rfl
@[simp] theorem ap_pur7 {xs : List D} : purL (d :: xs) = (pur d && purL xs) := by rw [purL]
@[simp] theorem ap_fz : mFz a E Q S = a E (kFz Q) S := id rfl
@[simp] theorem ap_kFz : kFz Q (.val d) S = Q (.val d) S := id rfl
@[simp] theorem ap_kFz2 {o : O} : kFz Q (.own o) S = Q (.val (frzO o)) S := id rfl
@[simp] theorem ap_kFz3 : kFz Q (.slot i) S = slQ S i (kFz1 Q S i) := id rfl
@[simp] theorem ap_kFz1 {o : O} : kFz1 Q S i o = setQ S i (.fz (frzO o)) (Q (.val (frzO o))) := id rfl
@[simp] theorem ap_bin : mBin f a b E Q S = a E (kB1 f b E Q) S := id rfl
@[simp] theorem ap_kB1 : kB1 f b E Q x S = b E (kB2 f x Q) S := id rfl
@[simp] theorem ap_kB2 : kB2 f x Q y S = pkQ S (fzR x) (kB3 f y Q S) := id rfl
@[simp] theorem ap_kB3 : kB3 f y Q S d = pkQ S (fzR y) (kB4 f d Q S) := id rfl
@[simp] theorem ap_kB4 : kB4 f d Q S e = f d e (kR Q S) := id rfl
@[simp] theorem ap_kR : kR Q S x = Q x S := id rfl
@[simp] theorem ap_kOa {kd : D → Prop} {xs : List D} : kO kd (.lst xs) = kd (.lst xs) := id rfl
@[simp] theorem ap_kOb {kd : D → Prop} {xs : List (Key × D)} : kO kd (.dK xs) = kd (.dK xs) := id rfl
@[simp] theorem ap_kOc {kd : D → Prop} {xs : List (List Key × D)} : kO kd (.dT xs) = kd (.dT xs) := id rfl
@[simp] theorem ap_kOd {kd : D → Prop} {c0 : Nat} {xs : List (Str × D)} : kO kd (.obj c0 xs) = kd (.obj c0 xs) := id rfl
@[simp] theorem ap_un : mUn f1 a E Q S = a E (kU1 f1 Q) S := id rfl
@[simp] theorem ap_kU1 : kU1 f1 Q x S = pkQ S (fzR x) (kU2 f1 Q S) := id rfl
@[simp] theorem ap_kU2 : kU2 f1 Q S d = f1 d (kR Q S) := id rfl
@[simp] theorem ap_nil : mNil E QA S = QA [] S := id rfl
@[simp] theorem ap_cons : mCons a r E QA S = a E (kC1 r E QA) S := id rfl
@[simp] theorem ap_kC1 : kC1 r E QA x S = r E (kC2 x QA) S := id rfl
@[simp] theorem ap_kC2 : kC2 x QA rs S = QA (fzR x :: rs) S := id rfl
@[simp] theorem ap_bi : mBi fl ma E Q S = ma E (kI1 fl Q) S := id rfl
@[simp] theorem ap_kI1 : kI1 fl Q rs S = pkQs S rs (kI2 fl Q S) := id rfl
@[simp] theorem ap_kI2 : kI2 fl Q S ds = fl ds (kR Q S) := id rfl
@[simp] theorem ap_mIf : mIf ta a b E Q S = ta E (kF1 a b E Q) S := id rfl
@[simp] theorem ap_kF1 : kF1 a b E Q bo S = if bo = true then a E Q S else b E Q S := id rfl
@[simp] theorem ap_te : mTe a E QB S = a E (kT1 QB) S := id rfl
@[simp] theorem ap_kT1 : kT1 QB (.val (.bl bo)) S = QB bo S := id rfl
@[simp] theorem ap_tr : mTr a E QB S = a E (kT2 QB) S := id rfl
@[simp] theorem ap_kT2 : kT2 QB x S = pkQ S x (kT3 QB S) := id rfl
@[simp] theorem ap_kT3 : kT3 QB S d = truQ d (kT4 QB S) := id rfl
@[simp] theorem ap_kT4 : kT4 QB S bo = QB bo S := id rfl
@[simp] theorem ap_and : mAnd ta tb E QB S = ta E (kA1 tb E QB) S := id rfl
@[simp] theorem ap_kA1 : kA1 tb E QB bo S = if bo = true then tb E QB S else QB false S := id rfl
@[simp] theorem ap_or : mOr ta tb E QB S = ta E (kA2 tb E QB) S := id rfl
@[simp] theorem ap_kA2 : kA2 tb E QB bo S = if bo = true then QB true S else tb E QB S := id rfl
@[simp] theorem ap_not : mNot ta E QB S = ta E (kN1 QB) S := id rfl
@[simp] theorem ap_kN1 : kN1 QB bo S = QB (!bo) S := id rfl
@[simp] theorem ap_andV : mAndV a b E Q S = a E (kV1 b E Q) S := id rfl
@[simp] theorem ap_kV1 : kV1 b E Q (.val (.bl bo)) S = if bo = true then b E Q S else Q (.val (.bl false)) S := id rfl
@[simp] theorem ap_orV : mOrV a b E Q S = a E (kV2 b E Q) S := id rfl
@[simp] theorem ap_kV2 : kV2 b E Q (.val (.bl bo)) S = if bo = true then Q (.val (.bl true)) S else b E Q S := id rfl
@[simp] theorem ap_notV : mNotV a E Q S = a E (kV3 Q) S := id rfl
@[simp] theorem ap_kV3 : kV3 Q (.val (.bl bo)) S = Q (.val (.bl !bo)) S := id rfl
@[simp] theorem ap_chain {g : DOp2} {c : ME} : mChain f g a b c E Q S = a E (kH1 f g b c E Q) S := id rfl
@[simp] theorem ap_kH1 {g : DOp2} {c : ME} : kH1 f g b c E Q x S = b E (kH2 f g c E Q x) S := id rfl
@[simp] theorem ap_kH2 {g : DOp2} {c : ME} : kH2 f g c E Q x y S = pkQ S (fzR x) (kH3 f g c E Q y S) := id rfl
@[simp] theorem ap_kH3 {g : DOp2} {c : ME} : kH3 f g c E Q y S d = pkQ S (fzR y) (kH4 f g c E Q y S d) := id rfl
@[simp] theorem ap_kH4 {g : DOp2} {c : ME} : kH4 f g c E Q y S d e = f d e (kH5 g c E Q y S) := id rfl
@[simp] theorem ap_kH5 {g : DOp2} {c : ME} : kH5 g c E Q y S (.val (.bl bo)) = if bo = true then c E (kH6 g y Q) S else Q (.val (.bl false)) S := id rfl
@[simp] theorem ap_kH6 {g : DOp2} : kH6 g y Q x S = pkQ S (fzR y) (kB3 g x Q S) := id rfl
@[simp] theorem ap_call : mCall fs ma E Q S = ma E (kK1 fs E Q) S := id rfl
@[simp] theorem ap_kK1 : kK1 fs E Q rs S = ((slotsOf rs).Nodup ∧ asl S rs (kK2 fs E Q rs S)) := id rfl
@[simp] theorem ap_kK2 : kK2 fs E Q rs S as = fs as (kKE E rs S) (kKQ Q rs S) := id rfl
@[simp] theorem ap_kKQ {ps : Fm} : kKQ Q rs S x ps = bkQ rs ps S (Q x) := id rfl
@[simp] theorem ap_kKE {xd : XD} {ps : Fm} : kKE E rs S xd ps = bkQ rs ps S (E xd) := id rfl
@[simp] theorem ap_kBk {ps : Fm} : kBk rs ps kf S = bkQ rs ps S kf := id rfl
@[simp] theorem ap_bk0 {ps : Fm} : bkQ [] ps S kf = kf S := id rfl
@[simp] theorem ap_bk1 {ps : Fm} {p : Sl} : bkQ (.val d :: rs) (p :: ps) S kf = bkQ rs ps S kf := id rfl
@[simp] theorem ap_bk2 {ps : Fm} {p : Sl} : bkQ (.slot i :: rs) (p :: ps) S kf = setQ S i p (kBk rs ps kf) := id rfl
@[simp] theorem ap_kS0 {p : Sl} {kl : List Sl → Prop} : kS0 p kl as = kl (p :: as) := id rfl
@[simp] theorem ap_asl0 {kl : List Sl → Prop} : asl S [] kl = kl [] := id rfl
@[simp] theorem ap_asl1 {kl : List Sl → Prop} : asl S (.val d :: rs) kl = asl S rs (kS0 (.fz d) kl) := id rfl
@[simp] theorem ap_asl2 {kl : List Sl → Prop} : asl S (.slot i :: rs) kl = slQ S i (kS9 S rs kl) := id rfl
@[simp] theorem ap_kS9 {kl : List Sl → Prop} {o : O} : kS9 S rs kl o = asl S rs (kS0 (.ow o) kl) := id rfl
@[simp] theorem ap_mLst : mLst ma E Q S = ma E (kL1 Q) S := id rfl
@[simp] theorem ap_kL1 : kL1 Q rs S = valsOf rs (kL2 Q S) := id rfl
@[simp] theorem ap_kL2 : kL2 Q S ds = (ds.length ≤ 16777216 ∧ Q (.own (.lst ds)) S) := id rfl
@[simp] theorem ap_mTup : mTup ma E Q S = ma E (kM1 Q) S := id rfl
@[simp] theorem ap_kM1 : kM1 Q rs S = valsOf rs (kM2 Q S) := id rfl
@[simp] theorem ap_kM2 : kM2 Q S ds = (ds.length ≤ 16777216 ∧ Q (.val (.tup ds)) S) := id rfl
@[simp] theorem ap_vals0 {kl : List D → Prop} : valsOf [] kl = kl [] := id rfl
@[simp] theorem ap_vals1 {kl : List D → Prop} : valsOf (.val d :: rs) kl = valsOf rs (kP2 d kl) := id rfl
@[simp] theorem ap_kP2 {kl : List D → Prop} : kP2 d kl ds = kl (d :: ds) := id rfl
@[simp] theorem ap_kP1 {kl : List D → Prop} : kP1 S rs kl d = pkQs S rs (kP2 d kl) := id rfl
@[simp] theorem ap_pks0 {kl : List D → Prop} : pkQs S [] kl = kl [] := id rfl
@[simp] theorem ap_pks1 {kl : List D → Prop} : pkQs S (x :: rs) kl = pkQ S x (kP1 S rs kl) := id rfl
@[simp] theorem ap_pk1 {kd : D → Prop} : pkQ S (.val d) kd = kd d := id rfl
@[simp] theorem ap_pk2a {kd : D → Prop} {xs : List D} : pkQ S (.own (.lst xs)) kd = kd (.lst xs) := id rfl
@[simp] theorem ap_pk2b {kd : D → Prop} {xs : List (Key × D)} : pkQ S (.own (.dK xs)) kd = kd (.dK xs) := id rfl
@[simp] theorem ap_pk2c {kd : D → Prop} {xs : List (List Key × D)} : pkQ S (.own (.dT xs)) kd = kd (.dT xs) := id rfl
@[simp] theorem ap_pk2d {kd : D → Prop} {c0 : Nat} {xs : List (Str × D)} : pkQ S (.own (.obj c0 xs)) kd = kd (.obj c0 xs) := id rfl
@[simp] theorem ap_pk3 {kd : D → Prop} : pkQ S (.slot i) kd = slQ S i (kO kd) := id rfl
@[simp] theorem ap_perm {m : Nat} {p : List Nat} : mPerm n m p ma mk E QA S = ma E (kPm1 n m p mk E QA) S := id rfl
@[simp] theorem ap_kPm1 {m : Nat} {p : List Nat} : kPm1 n m p mk E QA rs S = (rs.length = n ∧ mk E (kPm2 m p rs QA) S) := id rfl
@[simp] theorem ap_kPm2 {m : Nat} {p : List Nat} {zs : List R} : kPm2 m p rs QA zs S = (zs.length = m ∧ QA (permR p (rs ++ zs)) S) := id rfl
@[simp] theorem ap_for {mi : MI} {g : MG} : sFor mi g sb ⟨nx, rt, bk, ct, ex⟩ S = mi ex (kFo g sb ⟨nx, rt, bk, ct, ex⟩) S := id rfl
@[simp] theorem ap_kFo {g : MG} : kFo g sb Z ds S = forW g sb Z ds S := id rfl
@[simp] theorem ap_gN : gN i d S kf = setQ S i (.fz d) kf := id rfl
@[simp] theorem ap_gT {g : MGs} : gT n g (.tup ds) S kf = (ds.length = n ∧ g ds S kf) := id rfl
@[simp] theorem ap_gTl {g : MGs} : gT n g (.lst ds) S kf = (ds.length = n ∧ g ds S kf) := id rfl
@[simp] theorem ap_gsC {g : MG} {r : MGs} : gsC g r (d :: ds) S kf = g d S (kGs r ds kf) := by
  simp only [gsC]
  exact propext ⟨fun ⟨_, _, e, h⟩ => by cases e; exact h, fun h => ⟨_, _, rfl, h⟩⟩
@[simp] theorem ap_gsN : gsN [] S kf = kf S := by simp [gsN]
@[simp] theorem ap_kGs {r : MGs} : kGs r ds kf S = r ds S kf := id rfl
@[simp] theorem ap_rng1 : mRng1 ma E Qi S = ma E (kRg1 Qi) S := id rfl
@[simp] theorem ap_kRg1 {j : Int} : kRg1 Qi [.val (.int j)] S = (-(2 ^ 62) ≤ j ∧ j < 2 ^ 62 ∧ Qi (rngD 0 j.toNat) S) := id rfl
@[simp] theorem ap_rng2 : mRng2 ma E Qi S = ma E (kRg2 Qi) S := id rfl
@[simp] theorem ap_kRg2 {j l : Int} : kRg2 Qi [.val (.int l), .val (.int j)] S = ((-(2 ^ 62) ≤ l ∧ l < 2 ^ 62 ∧ -(2 ^ 62) ≤ j ∧ j < 2 ^ 62) ∧ Qi (rngD l (j - l).toNat) S) := id rfl
@[simp] theorem ap_mseq : mSeq a E Qi S = a E (kSq Qi) S := id rfl
@[simp] theorem ap_kSq : kSq Qi (.val d) S = itQ (itemsOf d) Qi S := id rfl
@[simp] theorem ap_kSq2 {o : O} : kSq Qi (.own o) S = itQ (itemsOf (frzO o)) Qi S := id rfl
@[simp] theorem ap_itQ : itQ (some ds) Qi S = Qi ds S := by simp [itQ]
@[simp] theorem ap_ixQ {kr : R → Prop} : ixQ (some d) kr = kr (.val d) := by simp [ixQ]
@[simp] theorem ap_asg {g : MG} : sAsg a g ⟨nx, rt, bk, ct, ex⟩ S = a ex (kAs g ⟨nx, rt, bk, ct, ex⟩) S := id rfl
@[simp] theorem ap_kAs {g : MG} : kAs g ⟨nx, rt, bk, ct, ex⟩ (.val d) S = g d S nx := id rfl
@[simp] theorem ap_kAs2 {g : MG} {o : O} : kAs g ⟨nx, rt, bk, ct, ex⟩ (.own o) S = g (frzO o) S nx := id rfl
@[simp] theorem ap_sl {lo hi : MO} : mSl a lo hi E Q S = a E (kS1 lo hi E Q) S := id rfl
@[simp] theorem ap_kS1 {lo hi : MO} : kS1 lo hi E Q x S = lo E (kS2 hi E Q x) S := id rfl
@[simp] theorem ap_kS2 {l : Option Int} {hi : MO} : kS2 hi E Q x l S = hi E (kS3 x l Q) S := id rfl
@[simp] theorem ap_kS3 {l h : Option Int} : kS3 x l Q h S = pkQ S (fzR x) (kS4 l h Q S) := id rfl
@[simp] theorem ap_kS4 {l h : Option Int} : kS4 l h Q S d = dSl d l h (kR Q S) := id rfl
@[simp] theorem ap_moN {Qo : Option Int → Fm → Prop} : moN E Qo S = Qo none S := id rfl
@[simp] theorem ap_moS {Qo : Option Int → Fm → Prop} : moS a E Qo S = a E (kOo Qo) S := id rfl
@[simp] theorem ap_kOo {Qo : Option Int → Fm → Prop} {j : Int} : kOo Qo (.val (.int j)) S = Qo (some j) S := id rfl
@[simp] theorem ap_kRt1 : kRt pin k Q (.val d) S = Q (.val d) (outP pin k S) := id rfl
@[simp] theorem ap_kRt2 {o : O} : kRt pin k Q (.own o) S = Q (.own o) (outP pin k S) := id rfl
@[simp] theorem ap_kRt3 : kRt pin k Q (.slot i) S = slQ S i fun o => Q (.own o) (outP pin k (S.set i .un)) := id rfl
@[simp] theorem ap_kNx : kNx pin k Q S = Q (.val .non) (outP pin k S) := id rfl
@[simp] theorem ap_kXx {xd : XD} : kXx pin k E xd S = E xd (outP pin k S) := id rfl
@[simp] theorem ap_kNo : kNo S = False := id rfl
@[simp] theorem ap_mut {lop : DMu} : mMut i lop ma E Q S = luQ S i (kMu0 i lop ma E Q S) := id rfl
@[simp] theorem ap_kMu0 {lop : DMu} : kMu0 i lop ma E Q S ds = ma E (kMu1 i lop Q) S := id rfl
@[simp] theorem ap_kMu1 {lop : DMu} : kMu1 i lop Q rs S = valsOf rs (kMu2 i lop Q S) := id rfl
@[simp] theorem ap_kMu2 {lop : DMu} : kMu2 i lop Q S ds = luQ S i (kMu3 i lop ds Q S) := id rfl
@[simp] theorem ap_kMu3 {lop : DMu} {xs : List D} : kMu3 i lop ds Q S xs = lop xs ds (kMu4 i Q S) := id rfl
@[simp] theorem ap_kMu4 {xs : List D} : kMu4 i Q S xs d = setQ S i (.ow (.lst xs)) (Q (.val d)) := id rfl
@[simp] theorem ap_puQ {l : Nat} {kn : Nat → Prop} : puQ (some l) kn = kn l := by simp [puQ]
@[simp] theorem ap_put : sPut i a b ⟨nx, rt, bk, ct, ex⟩ S = b ex (kPu1 i a ⟨nx, rt, bk, ct, ex⟩) S := id rfl
@[simp] theorem ap_kPu1 : kPu1 i a Z (.val d) S = luQ S i (kPu2 i a Z d S) := id rfl
@[simp] theorem ap_kPu1o {o : O} : kPu1 i a Z (.own o) S = luQ S i (kPu2 i a Z (frzO o) S) := id rfl
@[simp] theorem ap_kPu2 : kPu2 i a ⟨nx, rt, bk, ct, ex⟩ d S ds = a ex (kPu3 i ⟨nx, rt, bk, ct, ex⟩ d) S := id rfl
@[simp] theorem ap_kPu3 {j : Int} : kPu3 i Z d (.val (.int j)) S = luQ S i (kPu4 i Z d j S) := id rfl
@[simp] theorem ap_kPu4 {j : Int} {xs : List D} : kPu4 i Z d j S xs = puQ (L2.ixN xs.length j) (kPu5 i Z d S xs) := id rfl
@[simp] theorem ap_kPu5 {l : Nat} {xs : List D} : kPu5 i ⟨nx, rt, bk, ct, ex⟩ d S xs l = setQ S i (.ow (.lst (xs.set l d))) nx := id rfl
@[simp] theorem ap_lc {vs : List Nat} {mi : MI} {g : MG} : mLc n vs mi g ta a E Q S = mi E (kLc n vs g ta a Q) S := id rfl
@[simp] theorem ap_kLc {vs : List Nat} {g : MG} : kLc n vs g ta a Q ds S = (S.length = n ∧ noOw S vs ∧ lcW n vs g ta a ds [] (wipeS S vs) (kLc3 vs Q S)) := id rfl
@[simp] theorem ap_kLc3 {vs : List Nat} {acc : List D} {S2 : Fm} : kLc3 vs Q S acc S2 = Q (.own (.lst acc)) (resS S vs S2) := id rfl
@[simp] theorem ap_lcK1 {vs : List Nat} {acc : List D} {N : List D → Fm → Prop} : lcK1 n vs ta a acc N S = (S.length = n ∧ ta noE (lcK2 vs a acc N) S) := id rfl
@[simp] theorem ap_lcK2 {vs : List Nat} {acc : List D} {N : List D → Fm → Prop} : lcK2 vs a acc N bo S = if bo = true then a noE (lcK3 vs acc N) S else N acc (wipeS S vs) := id rfl
@[simp] theorem ap_lcK3 {vs : List Nat} {acc : List D} {N : List D → Fm → Prop} : lcK3 vs acc N (.val d) S = (acc.length < 16777216 ∧ N (acc ++ [d]) (wipeS S vs)) := id rfl
@[simp] theorem ap_lcK3o {vs : List Nat} {acc : List D} {N : List D → Fm → Prop} {o : O} : lcK3 vs acc N (.own o) S = (acc.length < 16777216 ∧ N (acc ++ [frzO o]) (wipeS S vs)) := id rfl
@[simp] theorem ap_yes : mYes E QB S = QB true S := id rfl
@[simp] theorem ap_wipe0 : wipeS S [] = S := id rfl
@[simp] theorem ap_wipe1 {v : Nat} {vs : List Nat} : wipeS S (v :: vs) = (wipeS S vs).set v .un := id rfl
@[simp] theorem ap_res0 {S0 : Fm} : resS S0 [] S = S := id rfl
@[simp] theorem ap_res1 {S0 : Fm} {v : Nat} {vs : List Nat} : resS S0 (v :: vs) S = (resS S0 vs S).set v (S0.getD v .un) := id rfl
@[simp] theorem ap_noOw0 : noOw S [] = True := by simp [noOw]
@[simp] theorem ap_noOw1 {v : Nat} {vs : List Nat} : noOw S (v :: vs) = ((∀ o, S[v]? ≠ some (Sl.ow o)) ∧ noOw S vs) := by simp [noOw]
@[simp] theorem ap_meth {T : String} {dop : DMe} : mMeth T dop a ma E Q S = a E (kMe1 T dop ma E Q) S := id rfl
@[simp] theorem ap_kMe1 {T : String} {dop : DMe} : kMe1 T dop ma E Q x S = pkQ S (fzR x) (kMe2 T dop ma E Q x S) := id rfl
@[simp] theorem ap_kMe2 {T : String} {dop : DMe} : kMe2 T dop ma E Q x S d = (tyMeth T d = true ∧ ma E (kMe3 dop x Q) S) := id rfl
@[simp] theorem ap_kMe3 {dop : DMe} : kMe3 dop x Q rs S = pkQ S (fzR x) (kMe4 dop rs Q S) := id rfl
@[simp] theorem ap_kMe4 {dop : DMe} : kMe4 dop rs Q S d = pkQs S rs (kMe5 dop d Q S) := id rfl
@[simp] theorem ap_kMe5 {dop : DMe} : kMe5 dop d Q S ds = dop d ds (kR Q S) := id rfl
theorem lcW_nil {vs : List Nat} {g : MG} {acc : List D} {kk : List D → Fm → Prop} : lcW n vs g ta a [] acc S kk = kk acc S := id rfl
theorem lcW_cons {vs : List Nat} {g : MG} {acc : List D} {kk : List D → Fm → Prop} : lcW n vs g ta a (d :: ds) acc S kk = g d S (lcK1 n vs ta a acc (lcN n vs g ta a ds kk)) := id rfl
theorem ap_lcN {vs : List Nat} {g : MG} {acc : List D} {kk : List D → Fm → Prop} : lcN n vs g ta a ds kk acc S = lcW n vs g ta a ds acc S kk := id rfl
@[simp] theorem ap_rev1 : mRev1 a E Qi S = a E (kRv1 Qi) S := id rfl
@[simp] theorem ap_kRv1 {j : Int} : kRv1 Qi (.val (.int j)) S = ((-(2 ^ 62) ≤ j ∧ j < 2 ^ 62) ∧ Qi (rngC ((j.toNat : Int) - 1) (-1) j.toNat) S) := id rfl
@[simp] theorem ap_rev2 : mRev2 a b E Qi S = a E (kRv2 b E Qi) S := id rfl
@[simp] theorem ap_kRv2 : kRv2 b E Qi x S = b E (kRv2b Qi x) S := id rfl
@[simp] theorem ap_kRv2b {j l : Int} : kRv2b Qi (.val (.int l)) (.val (.int j)) S = ((-(2 ^ 62) ≤ l ∧ l < 2 ^ 62 ∧ -(2 ^ 62) ≤ j ∧ j < 2 ^ 62) ∧ Qi (rngC (l + ((j - l).toNat : Int) - 1) (-1) (j - l).toNat) S) := id rfl
@[simp] theorem ap_revS : mRevS a E Qi S = a E (kRvS Qi) S := id rfl
@[simp] theorem ap_kRvS1 {xs : List D} : kRvS Qi (.val (.lst xs)) S = Qi xs.reverse S := id rfl
@[simp] theorem ap_kRvS2 {xs : List D} : kRvS Qi (.val (.rol xs)) S = Qi xs.reverse S := id rfl
@[simp] theorem ap_kRvS3 {xs : List D} : kRvS Qi (.val (.tup xs)) S = Qi xs.reverse S := id rfl
@[simp] theorem ap_kRvS4 {xs : List D} : kRvS Qi (.own (.lst xs)) S = Qi xs.reverse S := id rfl
@[simp] theorem ap_enum : mEnum a E Qi S = a E (kEn Qi) S := id rfl
@[simp] theorem ap_kEn1 {xs : List D} : kEn Qi (.val (.lst xs)) S = Qi (enD xs) S := id rfl
@[simp] theorem ap_kEn2 {xs : List D} : kEn Qi (.val (.rol xs)) S = Qi (enD xs) S := id rfl
@[simp] theorem ap_kEn3 {xs : List D} : kEn Qi (.own (.lst xs)) S = Qi (enD xs) S := id rfl
@[simp] theorem ap_rng3 : mRng3 ma E Qi S = ma E (kRg3 Qi) S := id rfl
@[simp] theorem ap_kRg3 {j l c : Int} : kRg3 Qi [.val (.int l), .val (.int j), .val (.int c)] S = ∃ n, RgC l j c n ∧ Qi (rngC l c n) S := id rfl
variable {c0 c1 : Nat} {f0 : Str} {fs0 : List (Str × D)} {mt0 : Nat → Bool} {su0 : Addr → Addr → Nat → MS} {cs0 : List ((Nat → Bool) × MS)} {ad ax bd bx : Addr} {xd0 : XD} {S0 : Fm}
@[simp] theorem ap_raise : sRaise c0 f0 a ⟨nx, rt, bk, ct, ex⟩ S = mCons a mNil ex (raiseQ c0 f0 ex) S := id rfl
@[simp] theorem ap_raiseQ : raiseQ c0 f0 E [.val d] S = E ⟨c0, [(f0, d)]⟩ S := id rfl
@[simp] theorem ap_tryAs : sTryAs i mt0 sa su0 ⟨nx, rt, bk, ct, ex⟩ S = sa ⟨nx, rt, bk, ct, tryAs i mt0 su0 ⟨nx, rt, bk, ct, ex⟩⟩ S := id rfl
@[simp] theorem ap_tryAsQ : tryAs i mt0 su0 ⟨nx, rt, bk, ct, ex⟩ ⟨c0, fs0⟩ S = if mt0 c0 = true then suQ i su0 c0 fs0 ⟨kUn i nx, rt, kUn i bk, kUn i ct, exNo⟩ S else ex ⟨c0, fs0⟩ S := id rfl
@[simp] theorem ap_suQ {Zs : MEnds} : suQ i su0 c0 fs0 Zs S = ∀ a dx, setQ S i (.fz (.exo a dx fs0)) (su0 a dx c0 Zs) := id rfl
@[simp] theorem ap_kUn : kUn i kf S = setQ S i .un kf := id rfl
@[simp] theorem ap_tryM : sTryM cs0 sa ⟨nx, rt, bk, ct, ex⟩ S = sa ⟨nx, rt, bk, ct, trySu ⟨nx, rt, bk, ct, ex⟩ cs0⟩ S := id rfl
@[simp] theorem ap_trySu0 : trySu ⟨nx, rt, bk, ct, ex⟩ [] xd0 S = ex xd0 S := id rfl
@[simp] theorem ap_trySu1 : trySu ⟨nx, rt, bk, ct, ex⟩ ((mt0, sa) :: cs0) ⟨c0, fs0⟩ S = if mt0 c0 = true then sa ⟨nx, rt, bk, ct, exNo⟩ S else trySu ⟨nx, rt, bk, ct, ex⟩ cs0 ⟨c0, fs0⟩ S := id rfl
@[simp] theorem ap_xf : mXf ad ax c0 c1 f0 a E Q S = a E (kXf ad ax c0 c1 f0 Q) S := id rfl
@[simp] theorem ap_kXf : kXf ad ax c0 c1 f0 Q (.val (.exo bd bx fs0)) S = (bd = ad ∧ bx = ax ∧ c0 = c1 ∧ xfQ (fs0.lookup f0) Q S) := id rfl
@[simp] theorem ap_xfQ : xfQ (some d) Q S = Q (.val d) S := by simp [xfQ]
variable {kvs0 : List (Key × D)} {kd0 : D} {gg0 : Int → Int → Int} {y0 z0 : Int} {mi0 : ME}
@[simp] theorem ap_dic0 : mDic0 E Q S = Q (.own (.dK [])) S := id rfl
@[simp] theorem ap_putK : sPutK i mi0 a ⟨nx, rt, bk, ct, ex⟩ S = a ex (kPk1 i mi0 ⟨nx, rt, bk, ct, ex⟩) S := id rfl
@[simp] theorem ap_kPk1 : kPk1 i mi0 ⟨nx, rt, bk, ct, ex⟩ (.val d) S = duQ S i (kPk2 i mi0 ⟨nx, rt, bk, ct, ex⟩ d S) := id rfl
@[simp] theorem ap_kPk1o {o : O} : kPk1 i mi0 ⟨nx, rt, bk, ct, ex⟩ (.own o) S = duQ S i (kPk2 i mi0 ⟨nx, rt, bk, ct, ex⟩ (frzO o) S) := id rfl
@[simp] theorem ap_kPk2 : kPk2 i mi0 ⟨nx, rt, bk, ct, ex⟩ d S kvs0 = mi0 ex (kPk3 i ⟨nx, rt, bk, ct, ex⟩ d) S := id rfl
@[simp] theorem ap_kPk3 : kPk3 i ⟨nx, rt, bk, ct, ex⟩ d (.val kd0) S = duQ S i (kPk5 i ⟨nx, rt, bk, ct, ex⟩ d kd0 S) := id rfl
@[simp] theorem ap_kPk5 : kPk5 i ⟨nx, rt, bk, ct, ex⟩ d kd0 S kvs0 = ∃ key, keyD kd0 = some key ∧ kvs0.length < 16777216 ∧ setQ S i (.ow (.dK (putKD kvs0 key d))) nx := id rfl
@[simp] theorem ap_kAu : kAu gg0 i y0 ⟨nx, rt, bk, ct, ex⟩ (.val (.int z0)) S = setQ S i (.fz (.int (gg0 y0 z0))) nx := id rfl
@[simp] theorem ap_frzK : frzO (.dK kvs0) = .dK kvs0 := id rfl
@[simp] theorem ap_enumT : mEnumT a E Qi S = a E (kEnT Qi) S := id rfl
@[simp] theorem ap_kEnT1 {xs : List D} : kEnT Qi (.val (.lst xs)) S = Qi (enD xs) S := id rfl
@[simp] theorem ap_kEnT2 {xs : List D} : kEnT Qi (.val (.rol xs)) S = Qi (enD xs) S := id rfl
@[simp] theorem ap_kEnT3 {xs : List D} : kEnT Qi (.val (.tup xs)) S = Qi (enD xs) S := id rfl
@[simp] theorem ap_kEnT4 {xs : List D} : kEnT Qi (.val (.rot xs)) S = Qi (enD xs) S := id rfl
@[simp] theorem ap_kEnT5 {xs : List D} : kEnT Qi (.own (.lst xs)) S = Qi (enD xs) S := id rfl
@[simp] theorem ap_callO {ma : MA} {fs : FS} : mCallO fs a ma E Q S = a E (cO1 fs ma E Q) S := id rfl
@[simp] theorem ap_cO1 {ma : MA} {fs : FS} {o : O} : cO1 fs ma E Q (.own o) S = ma E (cOQ fs o E Q) S := id rfl
@[simp] theorem ap_cOQ {fs : FS} {o : O} {rs : List R} : cOQ fs o E Q rs S = ((slotsOf rs).Nodup ∧ asl S rs (kO2 fs o E Q rs S)) := id rfl
@[simp] theorem ap_kO2 {fs : FS} {o : O} {rs : List R} {as : List Sl} : kO2 fs o E Q rs S as = fs (.ow o :: as) (kOE E rs S) (kOR Q rs S) := id rfl
@[simp] theorem ap_kOE {rs : List R} {ps : Fm} {p0 : Sl} : kOE E rs S xd0 (p0 :: ps) = bkQ rs ps S (E xd0) := id rfl
@[simp] theorem ap_kOR {rs : List R} {ps : Fm} {p0 : Sl} {r0 : R} : kOR Q rs S r0 (p0 :: ps) = bkQ rs ps S (Q r0) := id rfl
@[simp] theorem ap_fld {cs : List Nat} {f : Str} : mFld cs f a E Q S = a E (kFld cs f Q) S := id rfl
@[simp] theorem ap_kFld1 {cs : List Nat} {f : Str} {c : Nat} {fl : List (Str × D)} : kFld cs f Q (.val (.obj c fl)) S = (c ∈ cs ∧ ∃ x, fl.lookup f = some x ∧ Q (.val x) S) := id rfl
@[simp] theorem ap_kFld2 {cs : List Nat} {f : Str} {c : Nat} {fl : List (Str × D)} : kFld cs f Q (.own (.obj c fl)) S = (c ∈ cs ∧ ∃ x, fl.lookup f = some x ∧ Q (.val x) S) := id rfl
@[simp] theorem ap_kFld3 {cs : List Nat} {f : Str} : kFld cs f Q (.slot i) S = slQ S i (kO (fun d => match d with
  | .obj c fs => c ∈ cs ∧ ∃ x, fs.lookup f = some x ∧ Q (.val x) S
  | _ => False)) := id rfl
@[simp] theorem ap_pf {cs : List Nat} {f : Str} : sPf cs i f a ⟨nx, rt, bk, ct, ex⟩ S = a ex (kPf cs i f ⟨nx, rt, bk, ct, ex⟩) S := id rfl
@[simp] theorem ap_kPf1 {cs : List Nat} {f : Str} : kPf cs i f ⟨nx, rt, bk, ct, ex⟩ (.val d) S = slQ S i (kPo cs i f ⟨nx, rt, bk, ct, ex⟩ d S) := id rfl
@[simp] theorem ap_kPf2 {cs : List Nat} {f : Str} {o : O} : kPf cs i f ⟨nx, rt, bk, ct, ex⟩ (.own o) S = slQ S i (kPo cs i f ⟨nx, rt, bk, ct, ex⟩ (frzO o) S) := id rfl
@[simp] theorem ap_kPo {cs : List Nat} {f : Str} {c : Nat} {fl : List (Str × D)} : kPo cs i f ⟨nx, rt, bk, ct, ex⟩ d S (.obj c fl) = (c ∈ cs ∧ fl.length < 1000 ∧ setQ S i (.ow (.obj c (putD f d fl))) nx) := id rfl
@[simp] theorem ap_mt {c : Nat} {f : Str} : mMt c f fs a ma E Q S = a E (kMtO c f fs ma E Q) S := id rfl
@[simp] theorem ap_kMt1 {c : Nat} {f : Str} : kMtO c f fs ma E Q (.val d) S = (objQ c f d ∧ ma E (kMt2 fs E Q (.val d)) S) := id rfl
@[simp] theorem ap_kMt2 {c : Nat} {f : Str} : kMtO c f fs ma E Q (.slot i) S = (slQ S i (kO (objQ c f)) ∧ ma E (kMt2 fs E Q (.slot i)) S) := id rfl
@[simp] theorem ap_kMt3 : kMt2 fs E Q x rs S = kK1 fs E Q (x :: rs) S := id rfl
@[simp] theorem ap_objQ {c c2 : Nat} {f : Str} {fl : List (Str × D)} : objQ c f (.obj c2 fl) = (c2 = c ∧ fl.lookup f = none) := id rfl
@[simp] theorem ap_make {c : Nat} : mMake c fs ma E Q S = ma E (kMk c fs E Q) S := id rfl
@[simp] theorem ap_kMk {c : Nat} : kMk c fs E Q rs S = ((slotsOf rs).Nodup ∧ asl S rs (kMk2 c fs E Q rs S)) := id rfl
@[simp] theorem ap_kMk2 {c : Nat} : kMk2 c fs E Q rs S as = fs (.ow (.obj c []) :: as) (kOE E rs S) (kMkR Q rs S) := id rfl
@[simp] theorem ap_kMkR {o : O} {ps : Fm} : kMkR Q rs S (.val .non) (.ow o :: ps) = bkQ rs ps S (Q (.own o)) := id rfl
@[simp] theorem ap_isC1 {c c1 c2 : Nat} {fl : List (Str × D)} {kr : R → Prop} : dIsC c [.obj c1 fl, .cls c2] kr = (c2 = c ∧ c1 = c ∧ kr (.val (.bl true))) := id rfl
@[simp] theorem ap_isC2 {c c2 : Nat} {xs : List D} {kr : R → Prop} : dIsC c [.tup xs, .cls c2] kr = (c2 = c ∧ kr (.val (.bl false))) := by simp [dIsC, d2, tyN]
@[simp] theorem ap_isC3 {c c2 : Nat} {xs : List D} {kr : R → Prop} : dIsC c [.lst xs, .cls c2] kr = (c2 = c ∧ kr (.val (.bl false))) := by simp [dIsC, d2, tyN]
@[simp] theorem ap_isC4 {c c2 : Nat} {i : Int} {kr : R → Prop} : dIsC c [.int i, .cls c2] kr = (c2 = c ∧ kr (.val (.bl false))) := by simp [dIsC, d2, tyN]
@[simp] theorem ap_isC5 {c c2 : Nat} {i : Str} {kr : R → Prop} : dIsC c [.str i, .cls c2] kr = (c2 = c ∧ kr (.val (.bl false))) := by simp [dIsC, d2, tyN]
@[simp] theorem ap_isC6 {c c2 : Nat} {kr : R → Prop} : dIsC c [.non, .cls c2] kr = (c2 = c ∧ kr (.val (.bl false))) := by simp [dIsC, d2, tyN]
@[simp] theorem ap_isB {b1 b2 : Bool} {kr : R → Prop} : dIsB (.bl b1) (.bl b2) kr = kr (.val (.bl (b1 == b2))) := id rfl
@[simp] theorem ap_mulT {xs : List D} {j : Int} {kr : R → Prop} : dMulT (.tup xs) (.int j) kr = (xs ≠ [] ∧ 2 ≤ j ∧ j ≤ 1000 ∧ xs.length ≤ 1000 ∧ kr (.val (.tup (List.replicate j.toNat xs).flatten))) := id rfl
@[simp] theorem ap_putA {g : Int → Int → Int} : sPutA g i a b ⟨nx, rt, bk, ct, ex⟩ S = luQ S i (kPa0 g i a b ⟨nx, rt, bk, ct, ex⟩ S) := id rfl
@[simp] theorem ap_kPa0 {g : Int → Int → Int} {xs : List D} : kPa0 g i a b ⟨nx, rt, bk, ct, ex⟩ S xs = a ex (kPa1 g i b ⟨nx, rt, bk, ct, ex⟩) S := id rfl
@[simp] theorem ap_kPa1 {g : Int → Int → Int} {j : Int} : kPa1 g i b Z (.val (.int j)) S = luQ S i (kPa2 g i b Z j S) := id rfl
@[simp] theorem ap_kPa2 {g : Int → Int → Int} {j : Int} {xs : List D} : kPa2 g i b ⟨nx, rt, bk, ct, ex⟩ j S xs = (0 ≤ j ∧ ∃ y, L2.atI xs j = some (.int y) ∧ b ex (kPa3 g i ⟨nx, rt, bk, ct, ex⟩ j y) S) := id rfl
@[simp] theorem ap_kPa3 {g : Int → Int → Int} {j y z : Int} : kPa3 g i Z j y (.val (.int z)) S = luQ S i (kPa4 g i Z j y z S) := id rfl
@[simp] theorem ap_kPa4 {g : Int → Int → Int} {j y z : Int} {xs : List D} : kPa4 g i ⟨nx, rt, bk, ct, ex⟩ j y z S xs = puQ (L2.ixN xs.length j) (kPu5 i ⟨nx, rt, bk, ct, ex⟩ (.int (g y z)) S xs) := id rfl
@[simp] theorem ap_nonO {c : Nat} {fl : List (Str × D)} : isNonD (.obj c fl) = false := id rfl
@[simp] theorem ap_frzOb {c : Nat} {fl : List (Str × D)} : frzO (.obj c fl) = .obj c fl := id rfl
def kEqO (kr : R → Prop) (r : R) (S : Fm) : Prop := ∃ b, r = .val (.bl b) ∧ kr (.val (.bl b))
@[simp] theorem ap_kEqO {kr : R → Prop} {b : Bool} : kEqO kr (.val (.bl b)) S = kr (.val (.bl b)) := by simp [kEqO]
@[simp] theorem ap_eqO {c c1 c2 : Nat} {f1 f2 : List (Str × D)} {kr : R → Prop} : dEqO c fs (.obj c1 f1) (.obj c2 f2) kr = (c1 = c ∧ c2 = c ∧ fs [.fz (.obj c1 f1), .fz (.obj c2 f2)] exNo (kEqO kr)) := id rfl
theorem str_inj {a b : String} : (Str.ofString a = Str.ofString b) = (a = b) := by
  apply propext
  constructor
  · intro h
    rw [Str.ofString_eq_toList, Str.ofString_eq_toList] at h
    have h2 := congrArg (fun s : Str => s.cps.toList) h
    simp only [List.toList_toArray] at h2
    have inj : ∀ (l m : List Char), l.map Char.toNat = m.map Char.toNat → l = m := by
      intro l
      induction l with
      | nil => intro m e; cases m with
        | nil => rfl
        | cons y m => simp at e
      | cons x l ih => intro m e; cases m with
        | nil => simp at e
        | cons y m =>
          simp only [List.map_cons, List.cons.injEq] at e
          rw [ih m e.2, Char.toNat_inj.mp e.1]
    have h3 := inj _ _ h2
    exact String.toList_inj.mp h3
  · intro h; rw [h]
@[simp] theorem putD_nil {f : Str} : putD f d [] = [(f, d)] := id rfl
end
def mulOk (x y : Int) : Prop := (-(2 ^ 64) < x ∧ x < 2 ^ 64) ∨ (-(2 ^ 64) < y ∧ y < 2 ^ 64) ∨ x.natAbs.log2 + y.natAbs.log2 < 1000000
def fdOk (y : Int) : Prop := 0 < y ∧ y.natAbs.log2 < 9000
@[simp] theorem mulOk_r {x y : Int} (h1 : -18446744073709551616 < y) (h2 : y < 18446744073709551616) : mulOk x y := .inr (.inl ⟨h1, h2⟩)
@[simp] theorem mulOk_l {x y : Int} (h1 : -18446744073709551616 < x) (h2 : x < 18446744073709551616) : mulOk x y := .inl ⟨h1, h2⟩
@[simp] theorem fdOk_p {y : Int} (h1 : 0 < y) (h2 : y < 18446744073709551616) : fdOk y := ⟨h1, Nat.lt_trans ((Nat.log2_lt (by omega)).mpr (show y.natAbs < 2 ^ 64 by omega)) (by decide)⟩
section
variable {d e : D} {k : D → Prop} {kr : R → Prop} {kb : Bool → Prop} {kl : List D → Prop} {ks : List Sl → Prop} {o : O} {i j : Nat} {is : List Nat} {x y : Int} {b c : Bool} {t u : Str} {xs ys : List D} {rs : List R} {r : R} {S S' : Fm} {p : Sl} {ps : Fm} {n m : String} {pin : List Nat} {as : List Sl}
@[simp] theorem z1 : permR [] rs = [] := id rfl
@[simp] theorem z2 : permR (i :: is) rs = rs.getD i (.val .non) :: permR is rs := id rfl
@[simp] theorem z3 : fzR (.val d) = .val d := id rfl
@[simp] theorem z4 : fzR (.own o) = .val (frzO o) := id rfl
@[simp] theorem z5 : fzR (.slot i) = .slot i := id rfl
@[simp] theorem z6 : frzO (.lst xs) = .lst xs := id rfl
@[simp] theorem z7 : slotsOf [] = [] := id rfl
@[simp] theorem z8 : slotsOf (.val d :: rs) = slotsOf rs := id rfl
@[simp] theorem z9 : slotsOf (.slot i :: rs) = i :: slotsOf rs := id rfl
@[simp] theorem z10 : backS [] ps S = S := id rfl
@[simp] theorem z11 : backS (.val d :: rs) (p :: ps) S = backS rs ps S := id rfl
@[simp] theorem z12 : backS (.slot i :: rs) (p :: ps) S = backS rs ps (S.set i p) := id rfl
@[simp] theorem z13 : backS rs [] S = S := by cases rs <;> rfl
@[simp] theorem z14 : ioOk pin i [] := trivial
@[simp] theorem z15 : ioOk pin i (.fz d :: as) = ioOk pin (i + 1) as := id rfl
@[simp] theorem z16 : ioOk pin i (.ow o :: as) = (i ∈ pin ∧ ioOk pin (i + 1) as) := id rfl
@[simp] theorem z17 : truQ .non kb = kb false := id rfl
@[simp] theorem z18 : truQ (.bl b) kb = kb b := id rfl
@[simp] theorem z19 : truQ (.int x) kb = kb (x != 0) := id rfl
@[simp] theorem z20 : truQ (.lst xs) kb = kb (!xs.isEmpty) := id rfl
@[simp] theorem z21 : truQ (.rol xs) kb = kb (!xs.isEmpty) := id rfl
@[simp] theorem z22 : truQ (.tup xs) kb = kb (!xs.isEmpty) := id rfl
@[simp] theorem z23 : truQ (.str t) kb = (t.length ≤ 16777216 ∧ kb ((t.length : Int) != 0)) := id rfl
@[simp] theorem z24 : dIx (.lst xs) (.int x) kr = ixQ (atI xs x) kr := id rfl
@[simp] theorem z25 : dLen [.lst xs] kr = kr (.val (.int xs.length)) := id rfl
@[simp] theorem z26 : itemsOf (.lst xs) = some xs := id rfl
@[simp] theorem z27 : dList [.lst xs] kr = kr (.own (.lst xs)) := id rfl
@[simp] theorem z28 : dTuple [.lst xs] kr = kr (.val (.tup xs)) := id rfl
@[simp] theorem z29 : dIx (.rol xs) (.int x) kr = ixQ (atI xs x) kr := id rfl
@[simp] theorem z30 : dLen [.rol xs] kr = kr (.val (.int xs.length)) := id rfl
@[simp] theorem z31 : itemsOf (.rol xs) = some xs := id rfl
@[simp] theorem z32 : dList [.rol xs] kr = kr (.own (.lst xs)) := id rfl
@[simp] theorem z33 : dTuple [.rol xs] kr = kr (.val (.tup xs)) := id rfl
@[simp] theorem z34 : dIx (.tup xs) (.int x) kr = ixQ (atI xs x) kr := id rfl
@[simp] theorem z35 : dLen [.tup xs] kr = kr (.val (.int xs.length)) := id rfl
@[simp] theorem z36 : itemsOf (.tup xs) = some xs := id rfl
@[simp] theorem z37 : dList [.tup xs] kr = kr (.own (.lst xs)) := id rfl
@[simp] theorem z38 : dTuple [.tup xs] kr = kr (.val (.tup xs)) := id rfl
@[simp] theorem z39 : dIx (.rot xs) (.int x) kr = ixQ (atI xs x) kr := id rfl
@[simp] theorem z40 : dLen [.rot xs] kr = kr (.val (.int xs.length)) := id rfl
@[simp] theorem z41 : itemsOf (.rot xs) = some xs := id rfl
@[simp] theorem z42 : dList [.rot xs] kr = kr (.own (.lst xs)) := id rfl
@[simp] theorem z43 : dLen [.str t] kr = (t.length ≤ 16777216 ∧ kr (.val (.int t.length))) := id rfl
@[simp] theorem z44 : itemsOf (.str t) = some (t.cps.toList.map fun c => D.str ⟨#[c]⟩) := id rfl
@[simp] theorem z45 : dInt [.int x] kr = kr (.val (.int x)) := id rfl
@[simp] theorem z46 : dInt [.bl b] kr = kr (.val (.int (if b then 1 else 0))) := id rfl
@[simp] theorem z47 : dMax2 [.int x, .int y] kr = kr (.val (.int (if y > x then y else x))) := id rfl
@[simp] theorem z48 : dMin2 [.int x, .int y] kr = kr (.val (.int (if y < x then y else x))) := id rfl
@[simp] theorem z49 : dAbs [.int x] kr = kr (.val (.int (if x < 0 then -x else x))) := id rfl
@[simp] theorem z50 : dIsi [d, .ty n] kr = (tyKnown n = true ∧ tyN d ≠ "" ∧ kr (.val (.bl (isTy d n)))) := id rfl
@[simp] theorem z51 : dIsi [d, .tup [.ty n, .ty m]] kr = (tyKnown n = true ∧ tyKnown m = true ∧ tyN d ≠ "" ∧ kr (.val (.bl (isTy d n || isTy d m)))) := id rfl
@[simp] theorem z52 : tyN (.non) = "NoneType" := id rfl
@[simp] theorem z53 : tyN (.bl b) = "bool" := id rfl
@[simp] theorem z54 : tyN (.int x) = "int" := id rfl
@[simp] theorem z55 : tyN (.str t) = "str" := id rfl
@[simp] theorem z56 : tyN (.tup xs) = "tuple" := id rfl
@[simp] theorem z57 : tyN (.rot xs) = "tuple" := id rfl
@[simp] theorem z58 : tyN (.lst xs) = "list" := id rfl
@[simp] theorem z59 : tyN (.rol xs) = "list" := id rfl
@[simp] theorem z60 : tyKnown "int" = true := id rfl
@[simp] theorem z61 : tyKnown "bool" = true := id rfl
@[simp] theorem z62 : tyKnown "str" = true := id rfl
@[simp] theorem z63 : tyKnown "tuple" = true := id rfl
@[simp] theorem z64 : tyKnown "list" = true := id rfl
@[simp] theorem z65 : tyKnown "dict" = true := id rfl
@[simp] theorem z66 : isTy (.non) "int" = false := id rfl
@[simp] theorem z67 : isTy (.non) "bool" = false := id rfl
@[simp] theorem z68 : isTy (.non) "str" = false := id rfl
@[simp] theorem z69 : isTy (.non) "tuple" = false := id rfl
@[simp] theorem z70 : isTy (.non) "list" = false := id rfl
@[simp] theorem z71 : isTy (.non) "dict" = false := id rfl
@[simp] theorem z72 : isTy (.bl b) "int" = true := id rfl
@[simp] theorem z73 : isTy (.bl b) "bool" = true := id rfl
@[simp] theorem z74 : isTy (.bl b) "str" = false := id rfl
@[simp] theorem z75 : isTy (.bl b) "tuple" = false := id rfl
@[simp] theorem z76 : isTy (.bl b) "list" = false := id rfl
@[simp] theorem z77 : isTy (.bl b) "dict" = false := id rfl
@[simp] theorem z78 : isTy (.int x) "int" = true := id rfl
@[simp] theorem z79 : isTy (.int x) "bool" = false := id rfl
@[simp] theorem z80 : isTy (.int x) "str" = false := id rfl
@[simp] theorem z81 : isTy (.int x) "tuple" = false := id rfl
@[simp] theorem z82 : isTy (.int x) "list" = false := id rfl
@[simp] theorem z83 : isTy (.int x) "dict" = false := id rfl
@[simp] theorem z84 : isTy (.str t) "int" = false := id rfl
@[simp] theorem z85 : isTy (.str t) "bool" = false := id rfl
@[simp] theorem z86 : isTy (.str t) "str" = true := id rfl
@[simp] theorem z87 : isTy (.str t) "tuple" = false := id rfl
@[simp] theorem z88 : isTy (.str t) "list" = false := id rfl
@[simp] theorem z89 : isTy (.str t) "dict" = false := id rfl
@[simp] theorem z90 : isTy (.tup xs) "int" = false := id rfl
@[simp] theorem z91 : isTy (.tup xs) "bool" = false := id rfl
@[simp] theorem z92 : isTy (.tup xs) "str" = false := id rfl
@[simp] theorem z93 : isTy (.tup xs) "tuple" = true := id rfl
@[simp] theorem z94 : isTy (.tup xs) "list" = false := id rfl
@[simp] theorem z95 : isTy (.tup xs) "dict" = false := id rfl
@[simp] theorem z96 : isTy (.rot xs) "int" = false := id rfl
@[simp] theorem z97 : isTy (.rot xs) "bool" = false := id rfl
@[simp] theorem z98 : isTy (.rot xs) "str" = false := id rfl
@[simp] theorem z99 : isTy (.rot xs) "tuple" = true := id rfl
@[simp] theorem z100 : isTy (.rot xs) "list" = false := id rfl
@[simp] theorem z101 : isTy (.rot xs) "dict" = false := id rfl
@[simp] theorem z102 : isTy (.lst xs) "int" = false := id rfl
@[simp] theorem z103 : isTy (.lst xs) "bool" = false := id rfl
@[simp] theorem z104 : isTy (.lst xs) "str" = false := id rfl
@[simp] theorem z105 : isTy (.lst xs) "tuple" = false := id rfl
@[simp] theorem z106 : isTy (.lst xs) "list" = true := id rfl
@[simp] theorem z107 : isTy (.lst xs) "dict" = false := id rfl
@[simp] theorem z108 : isTy (.rol xs) "int" = false := id rfl
@[simp] theorem z109 : isTy (.rol xs) "bool" = false := id rfl
@[simp] theorem z110 : isTy (.rol xs) "str" = false := id rfl
@[simp] theorem z111 : isTy (.rol xs) "tuple" = false := id rfl
@[simp] theorem z112 : isTy (.rol xs) "list" = true := id rfl
@[simp] theorem z113 : isTy (.rol xs) "dict" = false := id rfl
@[simp] theorem z114 : dIsN d .non kr = kr (.val (.bl (isNonD d))) := id rfl
@[simp] theorem z115 : dNotN d .non kr = kr (.val (.bl (!isNonD d))) := id rfl
@[simp] theorem z116 : isNonD .non = true := id rfl
@[simp] theorem z117 : isNonD (.bl b) = false := id rfl
@[simp] theorem z118 : isNonD (.int x) = false := id rfl
@[simp] theorem z119 : isNonD (.str t) = false := id rfl
@[simp] theorem z120 : isNonD (.tup xs) = false := id rfl
@[simp] theorem z121 : isNonD (.rot xs) = false := id rfl
@[simp] theorem z122 : isNonD (.lst xs) = false := id rfl
@[simp] theorem z123 : isNonD (.rol xs) = false := id rfl
@[simp] theorem z124 : dEq d e kr = (cmpOk d e ∧ kr (.val (.bl (deq d e)))) := id rfl
@[simp] theorem z125 : dNe d e kr = (cmpOk d e ∧ kr (.val (.bl (!deq d e)))) := id rfl
@[simp] theorem z126 : dLt (.int x) (.int y) kr = kr (.val (.bl (decide (x < y)))) := id rfl
@[simp] theorem z127 : dGt (.int x) (.int y) kr = kr (.val (.bl (decide (y < x)))) := id rfl
@[simp] theorem z128 : dLe (.int x) (.int y) kr = kr (.val (.bl (decide (x ≤ y)))) := id rfl
@[simp] theorem z129 : dGe (.int x) (.int y) kr = kr (.val (.bl (decide (y ≤ x)))) := id rfl
@[simp] theorem z130 : cmpOk (.non) (.non) := .inl rfl
@[simp] theorem z131 : cmpOk (.non) (.int y) := .inl rfl
@[simp] theorem z132 : cmpOk (.non) (.bl c) := .inl rfl
@[simp] theorem z133 : cmpOk (.non) (.str u) := .inl rfl
@[simp] theorem z134 : cmpOk (.int x) (.non) := .inl rfl
@[simp] theorem z135 : cmpOk (.int x) (.int y) := .inl rfl
@[simp] theorem z136 : cmpOk (.int x) (.bl c) := .inr ⟨by rw [eqOk], by rw [eqOk]⟩
@[simp] theorem z137 : cmpOk (.int x) (.str u) := .inl rfl
@[simp] theorem z138 : cmpOk (.bl b) (.non) := .inl rfl
@[simp] theorem z139 : cmpOk (.bl b) (.int y) := .inr ⟨by rw [eqOk], by rw [eqOk]⟩
@[simp] theorem z140 : cmpOk (.bl b) (.bl c) := .inl rfl
@[simp] theorem z141 : cmpOk (.bl b) (.str u) := .inl rfl
@[simp] theorem z142 : cmpOk (.str t) (.non) := .inl rfl
@[simp] theorem z143 : cmpOk (.str t) (.int y) := .inl rfl
@[simp] theorem z144 : cmpOk (.str t) (.bl c) := .inl rfl
@[simp] theorem z145 : cmpOk (.str t) (.str u) := .inl rfl
@[simp] theorem z146 : deq (.int x) (.int y) = (x == y) := by rw [deq]
@[simp] theorem z147 : deq (.bl b) (.bl c) = (b == c) := by rw [deq]
@[simp] theorem z148 : deq (.str t) (.str u) = (t == u) := by rw [deq]
@[simp] theorem z149 : deq .non .non = true := by rw [deq]
@[simp] theorem z150 : deq (.lst xs) (.lst ys) = deqL xs ys := by rw [deq]
@[simp] theorem z151 : deq (.lst xs) (.rol ys) = deqL xs ys := by rw [deq]
@[simp] theorem z152 : deq (.rol xs) (.lst ys) = deqL xs ys := by rw [deq]
@[simp] theorem z153 : deq (.rol xs) (.rol ys) = deqL xs ys := by rw [deq]
@[simp] theorem z154 : deq (.tup xs) (.tup ys) = deqL xs ys := by rw [deq]
@[simp] theorem z155 : deq (.tup xs) (.rot ys) = deqL xs ys := by rw [deq]
@[simp] theorem z156 : deq (.rot xs) (.tup ys) = deqL xs ys := by rw [deq]
@[simp] theorem z157 : deq (.rot xs) (.rot ys) = deqL xs ys := by rw [deq]
@[simp] theorem z158 : dSub (.int x) (.int y) kr = kr (.val (.int (x - y))) := by simp [dSub, dI2]
@[simp] theorem z159 : dAdd (.int x) (.int y) kr = kr (.val (.int (x + y))) := id rfl
@[simp] theorem z160 : dAdd (.lst xs) (.lst ys) kr = (xs.length + ys.length ≤ 16777216 ∧ kr (.own (.lst (xs ++ ys)))) := id rfl
@[simp] theorem z161 : dAdd (.tup xs) (.tup ys) kr = (xs.length + ys.length ≤ 16777216 ∧ kr (.val (.tup (xs ++ ys)))) := id rfl
@[simp] theorem z162 : dAdd (.str t) (.str u) kr = (t.length + u.length ≤ 16777216 ∧ kr (.val (.str (t ++ u)))) := id rfl
@[simp] theorem z163 : dMul (.int x) (.int y) kr = (mulOk x y ∧ kr (.val (.int (x * y)))) := id rfl
@[simp] theorem z164 : dFdiv (.int x) (.int y) kr = (fdOk y ∧ kr (.val (.int (x / y)))) := id rfl
@[simp] theorem z165 : dMod (.int x) (.int y) kr = (0 < y ∧ kr (.val (.int (x % y)))) := id rfl
@[simp] theorem z166 : dPow (.int x) (.int y) kr = ((0 ≤ y ∧ y ≤ 1000000 ∧ x.natAbs < 2 ^ 64) ∧ kr (.val (.int (x ^ y.toNat)))) := id rfl
@[simp] theorem z167 : dShl (.int x) (.int y) kr = ((0 ≤ y ∧ y ≤ 1000000 ∧ x.natAbs < 2 ^ 64) ∧ kr (.val (.int (x * 2 ^ y.toNat)))) := id rfl
@[simp] theorem z168 : dShr (.int x) (.int y) kr = (0 ≤ y ∧ kr (.val (.int (x / 2 ^ y.toNat)))) := id rfl
@[simp] theorem z169 : dAnd (.int x) (.int y) kr = kr (.val (.int (Builtin.bitAnd x y))) := by simp [dAnd, dI2]
@[simp] theorem z170 : dOr (.int x) (.int y) kr = kr (.val (.int (Builtin.bitOr x y))) := by simp [dOr, dI2]
@[simp] theorem z171 : dXor (.int x) (.int y) kr = kr (.val (.int (Builtin.bitXor x y))) := by simp [dXor, dI2]
@[simp] theorem z172 : dIxK (.lst xs) (.int x) kr = ixQ (atI xs x) kr := id rfl
@[simp] theorem z173 : dIn d (.lst xs) kr = (flatD d = true ∧ xs.all flatD = true ∧ kr (.val (.bl (xs.any fun z => deq z d)))) := by simp [dIn, inK, seqD]
@[simp] theorem z174 : dNotIn d (.lst xs) kr = (flatD d = true ∧ xs.all flatD = true ∧ kr (.val (.bl (!(xs.any fun z => deq z d))))) := by simp [dNotIn, inK, seqD]
@[simp] theorem z175 : dIxK (.rol xs) (.int x) kr = ixQ (atI xs x) kr := id rfl
@[simp] theorem z176 : dIn d (.rol xs) kr = (flatD d = true ∧ xs.all flatD = true ∧ kr (.val (.bl (xs.any fun z => deq z d)))) := by simp [dIn, inK, seqD]
@[simp] theorem z177 : dNotIn d (.rol xs) kr = (flatD d = true ∧ xs.all flatD = true ∧ kr (.val (.bl (!(xs.any fun z => deq z d))))) := by simp [dNotIn, inK, seqD]
@[simp] theorem z178 : dIxK (.tup xs) (.int x) kr = ixQ (atI xs x) kr := id rfl
@[simp] theorem z179 : dIn d (.tup xs) kr = (flatD d = true ∧ xs.all flatD = true ∧ kr (.val (.bl (xs.any fun z => deq z d)))) := by simp [dIn, inK, seqD]
@[simp] theorem z180 : dNotIn d (.tup xs) kr = (flatD d = true ∧ xs.all flatD = true ∧ kr (.val (.bl (!(xs.any fun z => deq z d))))) := by simp [dNotIn, inK, seqD]
@[simp] theorem z181 : dIxK (.rot xs) (.int x) kr = ixQ (atI xs x) kr := id rfl
@[simp] theorem z182 : dIn d (.rot xs) kr = (flatD d = true ∧ xs.all flatD = true ∧ kr (.val (.bl (xs.any fun z => deq z d)))) := by simp [dIn, inK, seqD]
@[simp] theorem z183 : dNotIn d (.rot xs) kr = (flatD d = true ∧ xs.all flatD = true ∧ kr (.val (.bl (!(xs.any fun z => deq z d))))) := by simp [dNotIn, inK, seqD]
@[simp] theorem z184 : dRev (.lst xs) kr = kr (.own (.lst xs.reverse)) := id rfl
@[simp] theorem z185 : dRev (.rol xs) kr = kr (.own (.lst xs.reverse)) := id rfl
@[simp] theorem z186 : dRev (.tup xs) kr = kr (.val (.tup xs.reverse)) := id rfl
@[simp] theorem z187 : dRev (.rot xs) kr = kr (.val (.tup xs.reverse)) := id rfl
variable {kvs : List (Key × D)} {key : Key}
@[simp] theorem z188 : dIxK (.str t) (.int x) kr = (t.length ≤ 16777216 ∧ ∃ c, L2.atI t.cps.toList x = some c ∧ kr (.val (.str ⟨#[c]⟩))) := id rfl
@[simp] theorem z189 : dIxK (.dK kvs) d kr = ∃ key, keyD d = some key ∧ ixQ (valD kvs key) kr := by simp [dIxK, ixQ]
@[simp] theorem z190 : keyD (.int x) = some (.inl x) := id rfl
@[simp] theorem z191 : keyD (.str t) = some (.inr t) := id rfl
@[simp] theorem z192 : dIn d (.dK kvs) kr = ∃ key, keyD d = some key ∧ kr (.val (.bl (valD kvs key).isSome)) := by simp [dIn, inK]
@[simp] theorem z193 : dNotIn d (.dK kvs) kr = ∃ key, keyD d = some key ∧ kr (.val (.bl (!(valD kvs key).isSome))) := by simp [dNotIn, inK]
@[simp] theorem z194 : dIn d (.str t) kr = ∃ c, d = .str ⟨#[c]⟩ ∧ kr (.val (.bl (decide (c ∈ t.cps.toList)))) := by simp [dIn, inK]
@[simp] theorem z195 : dNotIn d (.str t) kr = ∃ c, d = .str ⟨#[c]⟩ ∧ kr (.val (.bl (!decide (c ∈ t.cps.toList)))) := by simp [dNotIn, inK]
@[simp] theorem z196 : flatD (.non) = true := id rfl
@[simp] theorem z197 : flatD (.bl b) = true := id rfl
@[simp] theorem z198 : flatD (.int x) = true := id rfl
@[simp] theorem z199 : flatD (.str t) = true := id rfl
variable {kd : List D → D → Prop}
@[simp] theorem z200 : lAppend xs [d] kd = (xs.length < 16777216 ∧ kd (xs ++ [d]) .non) := id rfl
@[simp] theorem z201 : lExtend xs [.lst ys] kd = (xs.length + ys.length ≤ 16777216 ∧ kd (xs ++ ys) .non) := id rfl
@[simp] theorem z202 : lReverse xs [] kd = kd xs.reverse .non := id rfl
@[simp] theorem z203 : lPop xs [] kd = ∃ d, xs[xs.length - 1]? = some d ∧ kd xs.dropLast d := id rfl
@[simp] theorem z204 : lPopAt xs [.int x] kd = ((-(2 ^ 63) ≤ x ∧ x < 2 ^ 63) ∧ ∃ j d, L2.ixN xs.length x = some j ∧ xs[j]? = some d ∧ kd (xs.eraseIdx j) d) := id rfl
@[simp] theorem z205 : lInsert xs [.int x, d] kd = ((xs.length < 16777216 ∧ 0 ≤ x ∧ x < 2 ^ 63) ∧ kd (xs.take x.toNat ++ [d] ++ xs.drop x.toNat) .non) := id rfl
@[simp] theorem z206 : dMul (.lst xs) (.int x) kr = (-(2 ^ 63) ≤ x ∧ x < 2 ^ 63 ∧ xs.length * x.toNat ≤ 16777216 ∧ kr (.own (.lst (List.replicate x.toNat xs).flatten))) := id rfl
@[simp] theorem z207 : tyMeth "list" (.lst xs) = true := id rfl
@[simp] theorem z208 : tyMeth "list" (.rol xs) = true := id rfl
@[simp] theorem z209 : tyMeth "str" (.str t) = true := id rfl
variable {lo hi : Option Int}
@[simp] theorem z210 : dSl (.lst xs) lo hi kr = kr (.own (.lst (cutD xs lo hi))) := id rfl
@[simp] theorem z211 : dSl (.rol xs) lo hi kr = kr (.own (.lst (cutD xs lo hi))) := id rfl
@[simp] theorem z212 : dSl (.tup xs) lo hi kr = kr (.val (.tup (cutD xs lo hi))) := id rfl
@[simp] theorem z213 : dMul (.str t) (.int x) kr = (-(2 ^ 63) ≤ x ∧ x < 2 ^ 63 ∧ t.length * x.toNat ≤ 16777216 ∧ kr (.val (.str (mulS t x.toNat)))) := id rfl
@[simp] theorem z214 : dIx (.str t) (.int x) kr = (t.length ≤ 16777216 ∧ ∃ c, L2.atI t.cps.toList x = some c ∧ kr (.val (.str ⟨#[c]⟩))) := id rfl
@[simp] theorem z215 : dOrd [.str t] kr = (t.length = 1 ∧ kr (.val (.int (t.cps.getD 0 0 : Nat)))) := id rfl
@[simp] theorem z216 : dChr [.int x] kr = ((0 ≤ x ∧ x ≤ 1114111) ∧ kr (.val (.str ⟨#[x.toNat]⟩))) := id rfl
@[simp] theorem z217 : dStr [.int x] kr = (x.natAbs.log2 < 1920 ∧ kr (.val (.str (toString x)))) := id rfl
@[simp] theorem z218 : dStarts (.str t) [.str u] kr = kr (.val (.bl (Txt.startswith t u))) := id rfl
@[simp] theorem z219 : dFind (.str t) [.str u] kr = kr (.val (.int (Txt.find t u))) := id rfl
@[simp] theorem z220 : dJoin (.str t) [d] kr = ∃ ys : List Str, strsOf d = some (ys.map D.str) ∧ (ys.map (·.length)).sum + ys.length * t.length ≤ 16777216 ∧ kr (.val (.str (Txt.join t ys))) := id rfl
@[simp] theorem z221 : dNeg (.int x) kr = kr (.val (.int (-x))) := id rfl
variable {E : EX} {Q : QE} {kf : Fm → Prop} {ko : O → Prop} {q : Sl}
@[simp] theorem va0 : mVar 0 E Q (.fz d :: S) = Q (.val d) (.fz d :: S) := by simp [mVar]
@[simp] theorem vo0 : mOwn 0 E Q (.ow o :: S) = Q (.slot 0) (.ow o :: S) := by simp [mOwn]
@[simp] theorem vw0 : mOwn 0 E Q (.fz d :: S) = Q (.val d) (.fz d :: S) := by simp [mOwn]
@[simp] theorem vs0 : slQ (.ow o :: S) 0 ko = ko o := by simp [slQ]
@[simp] theorem vl0 {kl : List D → Prop} : luQ (.ow (.lst xs) :: S) 0 kl = kl xs := by simp [luQ]
@[simp] theorem vd0 {kl : List (Key × D) → Prop} : duQ (.ow (.dK kvs) :: S) 0 kl = kl kvs := by simp [duQ]
@[simp] theorem vg0 {gg : Int → Int → Int} {me : ME} {Z : MEnds} : sAug gg 0 me Z (.fz (.int x) :: S) = me Z.ex (kAu gg 0 x Z) (.fz (.int x) :: S) := propext ⟨fun ⟨_, e, q⟩ => by simp at e; subst e; exact q, fun q => ⟨_, by simp, q⟩⟩
@[simp] theorem vt0 : setQ (p :: S) 0 q kf = kf (q :: S) := id rfl
@[simp] theorem va1 {q0 : Sl}: mVar 1 E Q (q0 :: .fz d :: S) = Q (.val d) (q0 :: .fz d :: S) := by simp [mVar]
@[simp] theorem vo1 {q0 : Sl}: mOwn 1 E Q (q0 :: .ow o :: S) = Q (.slot 1) (q0 :: .ow o :: S) := by simp [mOwn]
@[simp] theorem vw1 {q0 : Sl}: mOwn 1 E Q (q0 :: .fz d :: S) = Q (.val d) (q0 :: .fz d :: S) := by simp [mOwn]
@[simp] theorem vs1 {q0 : Sl}: slQ (q0 :: .ow o :: S) 1 ko = ko o := by simp [slQ]
@[simp] theorem vl1 {q0 : Sl}{kl : List D → Prop} : luQ (q0 :: .ow (.lst xs) :: S) 1 kl = kl xs := by simp [luQ]
@[simp] theorem vd1 {q0 : Sl}{kl : List (Key × D) → Prop} : duQ (q0 :: .ow (.dK kvs) :: S) 1 kl = kl kvs := by simp [duQ]
@[simp] theorem vg1 {q0 : Sl}{gg : Int → Int → Int} {me : ME} {Z : MEnds} : sAug gg 1 me Z (q0 :: .fz (.int x) :: S) = me Z.ex (kAu gg 1 x Z) (q0 :: .fz (.int x) :: S) := propext ⟨fun ⟨_, e, q⟩ => by simp at e; subst e; exact q, fun q => ⟨_, by simp, q⟩⟩
@[simp] theorem vt1 {q0 : Sl}: setQ (q0 :: p :: S) 1 q kf = kf (q0 :: q :: S) := id rfl
@[simp] theorem va2 {q0 q1 : Sl}: mVar 2 E Q (q0 :: q1 :: .fz d :: S) = Q (.val d) (q0 :: q1 :: .fz d :: S) := by simp [mVar]
@[simp] theorem vo2 {q0 q1 : Sl}: mOwn 2 E Q (q0 :: q1 :: .ow o :: S) = Q (.slot 2) (q0 :: q1 :: .ow o :: S) := by simp [mOwn]
@[simp] theorem vw2 {q0 q1 : Sl}: mOwn 2 E Q (q0 :: q1 :: .fz d :: S) = Q (.val d) (q0 :: q1 :: .fz d :: S) := by simp [mOwn]
@[simp] theorem vs2 {q0 q1 : Sl}: slQ (q0 :: q1 :: .ow o :: S) 2 ko = ko o := by simp [slQ]
@[simp] theorem vl2 {q0 q1 : Sl}{kl : List D → Prop} : luQ (q0 :: q1 :: .ow (.lst xs) :: S) 2 kl = kl xs := by simp [luQ]
@[simp] theorem vd2 {q0 q1 : Sl}{kl : List (Key × D) → Prop} : duQ (q0 :: q1 :: .ow (.dK kvs) :: S) 2 kl = kl kvs := by simp [duQ]
@[simp] theorem vg2 {q0 q1 : Sl}{gg : Int → Int → Int} {me : ME} {Z : MEnds} : sAug gg 2 me Z (q0 :: q1 :: .fz (.int x) :: S) = me Z.ex (kAu gg 2 x Z) (q0 :: q1 :: .fz (.int x) :: S) := propext ⟨fun ⟨_, e, q⟩ => by simp at e; subst e; exact q, fun q => ⟨_, by simp, q⟩⟩
@[simp] theorem vt2 {q0 q1 : Sl}: setQ (q0 :: q1 :: p :: S) 2 q kf = kf (q0 :: q1 :: q :: S) := id rfl
@[simp] theorem va3 {q0 q1 q2 : Sl}: mVar 3 E Q (q0 :: q1 :: q2 :: .fz d :: S) = Q (.val d) (q0 :: q1 :: q2 :: .fz d :: S) := by simp [mVar]
@[simp] theorem vo3 {q0 q1 q2 : Sl}: mOwn 3 E Q (q0 :: q1 :: q2 :: .ow o :: S) = Q (.slot 3) (q0 :: q1 :: q2 :: .ow o :: S) := by simp [mOwn]
@[simp] theorem vw3 {q0 q1 q2 : Sl}: mOwn 3 E Q (q0 :: q1 :: q2 :: .fz d :: S) = Q (.val d) (q0 :: q1 :: q2 :: .fz d :: S) := by simp [mOwn]
@[simp] theorem vs3 {q0 q1 q2 : Sl}: slQ (q0 :: q1 :: q2 :: .ow o :: S) 3 ko = ko o := by simp [slQ]
@[simp] theorem vl3 {q0 q1 q2 : Sl}{kl : List D → Prop} : luQ (q0 :: q1 :: q2 :: .ow (.lst xs) :: S) 3 kl = kl xs := by simp [luQ]
@[simp] theorem vd3 {q0 q1 q2 : Sl}{kl : List (Key × D) → Prop} : duQ (q0 :: q1 :: q2 :: .ow (.dK kvs) :: S) 3 kl = kl kvs := by simp [duQ]
@[simp] theorem vg3 {q0 q1 q2 : Sl}{gg : Int → Int → Int} {me : ME} {Z : MEnds} : sAug gg 3 me Z (q0 :: q1 :: q2 :: .fz (.int x) :: S) = me Z.ex (kAu gg 3 x Z) (q0 :: q1 :: q2 :: .fz (.int x) :: S) := propext ⟨fun ⟨_, e, q⟩ => by simp at e; subst e; exact q, fun q => ⟨_, by simp, q⟩⟩
@[simp] theorem vt3 {q0 q1 q2 : Sl}: setQ (q0 :: q1 :: q2 :: p :: S) 3 q kf = kf (q0 :: q1 :: q2 :: q :: S) := id rfl
@[simp] theorem va4 {q0 q1 q2 q3 : Sl}: mVar 4 E Q (q0 :: q1 :: q2 :: q3 :: .fz d :: S) = Q (.val d) (q0 :: q1 :: q2 :: q3 :: .fz d :: S) := by simp [mVar]
@[simp] theorem vo4 {q0 q1 q2 q3 : Sl}: mOwn 4 E Q (q0 :: q1 :: q2 :: q3 :: .ow o :: S) = Q (.slot 4) (q0 :: q1 :: q2 :: q3 :: .ow o :: S) := by simp [mOwn]
@[simp] theorem vw4 {q0 q1 q2 q3 : Sl}: mOwn 4 E Q (q0 :: q1 :: q2 :: q3 :: .fz d :: S) = Q (.val d) (q0 :: q1 :: q2 :: q3 :: .fz d :: S) := by simp [mOwn]
@[simp] theorem vs4 {q0 q1 q2 q3 : Sl}: slQ (q0 :: q1 :: q2 :: q3 :: .ow o :: S) 4 ko = ko o := by simp [slQ]
@[simp] theorem vl4 {q0 q1 q2 q3 : Sl}{kl : List D → Prop} : luQ (q0 :: q1 :: q2 :: q3 :: .ow (.lst xs) :: S) 4 kl = kl xs := by simp [luQ]
@[simp] theorem vd4 {q0 q1 q2 q3 : Sl}{kl : List (Key × D) → Prop} : duQ (q0 :: q1 :: q2 :: q3 :: .ow (.dK kvs) :: S) 4 kl = kl kvs := by simp [duQ]
@[simp] theorem vg4 {q0 q1 q2 q3 : Sl}{gg : Int → Int → Int} {me : ME} {Z : MEnds} : sAug gg 4 me Z (q0 :: q1 :: q2 :: q3 :: .fz (.int x) :: S) = me Z.ex (kAu gg 4 x Z) (q0 :: q1 :: q2 :: q3 :: .fz (.int x) :: S) := propext ⟨fun ⟨_, e, q⟩ => by simp at e; subst e; exact q, fun q => ⟨_, by simp, q⟩⟩
@[simp] theorem vt4 {q0 q1 q2 q3 : Sl}: setQ (q0 :: q1 :: q2 :: q3 :: p :: S) 4 q kf = kf (q0 :: q1 :: q2 :: q3 :: q :: S) := id rfl
@[simp] theorem va5 {q0 q1 q2 q3 q4 : Sl}: mVar 5 E Q (q0 :: q1 :: q2 :: q3 :: q4 :: .fz d :: S) = Q (.val d) (q0 :: q1 :: q2 :: q3 :: q4 :: .fz d :: S) := by simp [mVar]
@[simp] theorem vo5 {q0 q1 q2 q3 q4 : Sl}: mOwn 5 E Q (q0 :: q1 :: q2 :: q3 :: q4 :: .ow o :: S) = Q (.slot 5) (q0 :: q1 :: q2 :: q3 :: q4 :: .ow o :: S) := by simp [mOwn]
@[simp] theorem vw5 {q0 q1 q2 q3 q4 : Sl}: mOwn 5 E Q (q0 :: q1 :: q2 :: q3 :: q4 :: .fz d :: S) = Q (.val d) (q0 :: q1 :: q2 :: q3 :: q4 :: .fz d :: S) := by simp [mOwn]
@[simp] theorem vs5 {q0 q1 q2 q3 q4 : Sl}: slQ (q0 :: q1 :: q2 :: q3 :: q4 :: .ow o :: S) 5 ko = ko o := by simp [slQ]
@[simp] theorem vl5 {q0 q1 q2 q3 q4 : Sl}{kl : List D → Prop} : luQ (q0 :: q1 :: q2 :: q3 :: q4 :: .ow (.lst xs) :: S) 5 kl = kl xs := by simp [luQ]
@[simp] theorem vd5 {q0 q1 q2 q3 q4 : Sl}{kl : List (Key × D) → Prop} : duQ (q0 :: q1 :: q2 :: q3 :: q4 :: .ow (.dK kvs) :: S) 5 kl = kl kvs := by simp [duQ]
@[simp] theorem vg5 {q0 q1 q2 q3 q4 : Sl}{gg : Int → Int → Int} {me : ME} {Z : MEnds} : sAug gg 5 me Z (q0 :: q1 :: q2 :: q3 :: q4 :: .fz (.int x) :: S) = me Z.ex (kAu gg 5 x Z) (q0 :: q1 :: q2 :: q3 :: q4 :: .fz (.int x) :: S) := propext ⟨fun ⟨_, e, q⟩ => by simp at e; subst e; exact q, fun q => ⟨_, by simp, q⟩⟩
@[simp] theorem vt5 {q0 q1 q2 q3 q4 : Sl}: setQ (q0 :: q1 :: q2 :: q3 :: q4 :: p :: S) 5 q kf = kf (q0 :: q1 :: q2 :: q3 :: q4 :: q :: S) := id rfl
@[simp] theorem va6 {q0 q1 q2 q3 q4 q5 : Sl}: mVar 6 E Q (q0 :: q1 :: q2 :: q3 :: q4 :: q5 :: .fz d :: S) = Q (.val d) (q0 :: q1 :: q2 :: q3 :: q4 :: q5 :: .fz d :: S) := by simp [mVar]
@[simp] theorem vo6 {q0 q1 q2 q3 q4 q5 : Sl}: mOwn 6 E Q (q0 :: q1 :: q2 :: q3 :: q4 :: q5 :: .ow o :: S) = Q (.slot 6) (q0 :: q1 :: q2 :: q3 :: q4 :: q5 :: .ow o :: S) := by simp [mOwn]
@[simp] theorem vw6 {q0 q1 q2 q3 q4 q5 : Sl}: mOwn 6 E Q (q0 :: q1 :: q2 :: q3 :: q4 :: q5 :: .fz d :: S) = Q (.val d) (q0 :: q1 :: q2 :: q3 :: q4 :: q5 :: .fz d :: S) := by simp [mOwn]
@[simp] theorem vs6 {q0 q1 q2 q3 q4 q5 : Sl}: slQ (q0 :: q1 :: q2 :: q3 :: q4 :: q5 :: .ow o :: S) 6 ko = ko o := by simp [slQ]
@[simp] theorem vl6 {q0 q1 q2 q3 q4 q5 : Sl}{kl : List D → Prop} : luQ (q0 :: q1 :: q2 :: q3 :: q4 :: q5 :: .ow (.lst xs) :: S) 6 kl = kl xs := by simp [luQ]
@[simp] theorem vd6 {q0 q1 q2 q3 q4 q5 : Sl}{kl : List (Key × D) → Prop} : duQ (q0 :: q1 :: q2 :: q3 :: q4 :: q5 :: .ow (.dK kvs) :: S) 6 kl = kl kvs := by simp [duQ]
@[simp] theorem vg6 {q0 q1 q2 q3 q4 q5 : Sl}{gg : Int → Int → Int} {me : ME} {Z : MEnds} : sAug gg 6 me Z (q0 :: q1 :: q2 :: q3 :: q4 :: q5 :: .fz (.int x) :: S) = me Z.ex (kAu gg 6 x Z) (q0 :: q1 :: q2 :: q3 :: q4 :: q5 :: .fz (.int x) :: S) := propext ⟨fun ⟨_, e, q⟩ => by simp at e; subst e; exact q, fun q => ⟨_, by simp, q⟩⟩
@[simp] theorem vt6 {q0 q1 q2 q3 q4 q5 : Sl}: setQ (q0 :: q1 :: q2 :: q3 :: q4 :: q5 :: p :: S) 6 q kf = kf (q0 :: q1 :: q2 :: q3 :: q4 :: q5 :: q :: S) := id rfl
@[simp] theorem va7 {q0 q1 q2 q3 q4 q5 q6 : Sl}: mVar 7 E Q (q0 :: q1 :: q2 :: q3 :: q4 :: q5 :: q6 :: .fz d :: S) = Q (.val d) (q0 :: q1 :: q2 :: q3 :: q4 :: q5 :: q6 :: .fz d :: S) := by simp [mVar]
@[simp] theorem vo7 {q0 q1 q2 q3 q4 q5 q6 : Sl}: mOwn 7 E Q (q0 :: q1 :: q2 :: q3 :: q4 :: q5 :: q6 :: .ow o :: S) = Q (.slot 7) (q0 :: q1 :: q2 :: q3 :: q4 :: q5 :: q6 :: .ow o :: S) := by simp [mOwn]
@[simp] theorem vw7 {q0 q1 q2 q3 q4 q5 q6 : Sl}: mOwn 7 E Q (q0 :: q1 :: q2 :: q3 :: q4 :: q5 :: q6 :: .fz d :: S) = Q (.val d) (q0 :: q1 :: q2 :: q3 :: q4 :: q5 :: q6 :: .fz d :: S) := by simp [mOwn]
@[simp] theorem vs7 {q0 q1 q2 q3 q4 q5 q6 : Sl}: slQ (q0 :: q1 :: q2 :: q3 :: q4 :: q5 :: q6 :: .ow o :: S) 7 ko = ko o := by simp [slQ]
@[simp] theorem vl7 {q0 q1 q2 q3 q4 q5 q6 : Sl}{kl : List D → Prop} : luQ (q0 :: q1 :: q2 :: q3 :: q4 :: q5 :: q6 :: .ow (.lst xs) :: S) 7 kl = kl xs := by simp [luQ]
@[simp] theorem vd7 {q0 q1 q2 q3 q4 q5 q6 : Sl}{kl : List (Key × D) → Prop} : duQ (q0 :: q1 :: q2 :: q3 :: q4 :: q5 :: q6 :: .ow (.dK kvs) :: S) 7 kl = kl kvs := by simp [duQ]
@[simp] theorem vg7 {q0 q1 q2 q3 q4 q5 q6 : Sl}{gg : Int → Int → Int} {me : ME} {Z : MEnds} : sAug gg 7 me Z (q0 :: q1 :: q2 :: q3 :: q4 :: q5 :: q6 :: .fz (.int x) :: S) = me Z.ex (kAu gg 7 x Z) (q0 :: q1 :: q2 :: q3 :: q4 :: q5 :: q6 :: .fz (.int x) :: S) := propext ⟨fun ⟨_, e, q⟩ => by simp at e; subst e; exact q, fun q => ⟨_, by simp, q⟩⟩
@[simp] theorem vt7 {q0 q1 q2 q3 q4 q5 q6 : Sl}: setQ (q0 :: q1 :: q2 :: q3 :: q4 :: q5 :: q6 :: p :: S) 7 q kf = kf (q0 :: q1 :: q2 :: q3 :: q4 :: q5 :: q6 :: q :: S) := id rfl
@[simp] theorem va8 {q0 q1 q2 q3 q4 q5 q6 q7 : Sl}: mVar 8 E Q (q0 :: q1 :: q2 :: q3 :: q4 :: q5 :: q6 :: q7 :: .fz d :: S) = Q (.val d) (q0 :: q1 :: q2 :: q3 :: q4 :: q5 :: q6 :: q7 :: .fz d :: S) := by simp [mVar]
@[simp] theorem vo8 {q0 q1 q2 q3 q4 q5 q6 q7 : Sl}: mOwn 8 E Q (q0 :: q1 :: q2 :: q3 :: q4 :: q5 :: q6 :: q7 :: .ow o :: S) = Q (.slot 8) (q0 :: q1 :: q2 :: q3 :: q4 :: q5 :: q6 :: q7 :: .ow o :: S) := by simp [mOwn]
@[simp] theorem vw8 {q0 q1 q2 q3 q4 q5 q6 q7 : Sl}: mOwn 8 E Q (q0 :: q1 :: q2 :: q3 :: q4 :: q5 :: q6 :: q7 :: .fz d :: S) = Q (.val d) (q0 :: q1 :: q2 :: q3 :: q4 :: q5 :: q6 :: q7 :: .fz d :: S) := by simp [mOwn]
@[simp] theorem vs8 {q0 q1 q2 q3 q4 q5 q6 q7 : Sl}: slQ (q0 :: q1 :: q2 :: q3 :: q4 :: q5 :: q6 :: q7 :: .ow o :: S) 8 ko = ko o := by simp [slQ]
@[simp] theorem vl8 {q0 q1 q2 q3 q4 q5 q6 q7 : Sl}{kl : List D → Prop} : luQ (q0 :: q1 :: q2 :: q3 :: q4 :: q5 :: q6 :: q7 :: .ow (.lst xs) :: S) 8 kl = kl xs := by simp [luQ]
@[simp] theorem vd8 {q0 q1 q2 q3 q4 q5 q6 q7 : Sl}{kl : List (Key × D) → Prop} : duQ (q0 :: q1 :: q2 :: q3 :: q4 :: q5 :: q6 :: q7 :: .ow (.dK kvs) :: S) 8 kl = kl kvs := by simp [duQ]
@[simp] theorem vg8 {q0 q1 q2 q3 q4 q5 q6 q7 : Sl}{gg : Int → Int → Int} {me : ME} {Z : MEnds} : sAug gg 8 me Z (q0 :: q1 :: q2 :: q3 :: q4 :: q5 :: q6 :: q7 :: .fz (.int x) :: S) = me Z.ex (kAu gg 8 x Z) (q0 :: q1 :: q2 :: q3 :: q4 :: q5 :: q6 :: q7 :: .fz (.int x) :: S) := propext ⟨fun ⟨_, e, q⟩ => by simp at e; subst e; exact q, fun q => ⟨_, by simp, q⟩⟩
@[simp] theorem vt8 {q0 q1 q2 q3 q4 q5 q6 q7 : Sl}: setQ (q0 :: q1 :: q2 :: q3 :: q4 :: q5 :: q6 :: q7 :: p :: S) 8 q kf = kf (q0 :: q1 :: q2 :: q3 :: q4 :: q5 :: q6 :: q7 :: q :: S) := id rfl
@[simp] theorem va9 {q0 q1 q2 q3 q4 q5 q6 q7 q8 : Sl}: mVar 9 E Q (q0 :: q1 :: q2 :: q3 :: q4 :: q5 :: q6 :: q7 :: q8 :: .fz d :: S) = Q (.val d) (q0 :: q1 :: q2 :: q3 :: q4 :: q5 :: q6 :: q7 :: q8 :: .fz d :: S) := by simp [mVar]
@[simp] theorem vo9 {q0 q1 q2 q3 q4 q5 q6 q7 q8 : Sl}: mOwn 9 E Q (q0 :: q1 :: q2 :: q3 :: q4 :: q5 :: q6 :: q7 :: q8 :: .ow o :: S) = Q (.slot 9) (q0 :: q1 :: q2 :: q3 :: q4 :: q5 :: q6 :: q7 :: q8 :: .ow o :: S) := by simp [mOwn]
@[simp] theorem vw9 {q0 q1 q2 q3 q4 q5 q6 q7 q8 : Sl}: mOwn 9 E Q (q0 :: q1 :: q2 :: q3 :: q4 :: q5 :: q6 :: q7 :: q8 :: .fz d :: S) = Q (.val d) (q0 :: q1 :: q2 :: q3 :: q4 :: q5 :: q6 :: q7 :: q8 :: .fz d :: S) := by simp [mOwn]
@[simp] theorem vs9 {q0 q1 q2 q3 q4 q5 q6 q7 q8 : Sl}: slQ (q0 :: q1 :: q2 :: q3 :: q4 :: q5 :: q6 :: q7 :: q8 :: .ow o :: S) 9 ko = ko o := by simp [slQ]
@[simp] theorem vl9 {q0 q1 q2 q3 q4 q5 q6 q7 q8 : Sl}{kl : List D → Prop} : luQ (q0 :: q1 :: q2 :: q3 :: q4 :: q5 :: q6 :: q7 :: q8 :: .ow (.lst xs) :: S) 9 kl = kl xs := by simp [luQ]
@[simp] theorem vd9 {q0 q1 q2 q3 q4 q5 q6 q7 q8 : Sl}{kl : List (Key × D) → Prop} : duQ (q0 :: q1 :: q2 :: q3 :: q4 :: q5 :: q6 :: q7 :: q8 :: .ow (.dK kvs) :: S) 9 kl = kl kvs := by simp [duQ]
@[simp] theorem vg9 {q0 q1 q2 q3 q4 q5 q6 q7 q8 : Sl}{gg : Int → Int → Int} {me : ME} {Z : MEnds} : sAug gg 9 me Z (q0 :: q1 :: q2 :: q3 :: q4 :: q5 :: q6 :: q7 :: q8 :: .fz (.int x) :: S) = me Z.ex (kAu gg 9 x Z) (q0 :: q1 :: q2 :: q3 :: q4 :: q5 :: q6 :: q7 :: q8 :: .fz (.int x) :: S) := propext ⟨fun ⟨_, e, q⟩ => by simp at e; subst e; exact q, fun q => ⟨_, by simp, q⟩⟩
@[simp] theorem vt9 {q0 q1 q2 q3 q4 q5 q6 q7 q8 : Sl}: setQ (q0 :: q1 :: q2 :: q3 :: q4 :: q5 :: q6 :: q7 :: q8 :: p :: S) 9 q kf = kf (q0 :: q1 :: q2 :: q3 :: q4 :: q5 :: q6 :: q7 :: q8 :: q :: S) := id rfl
@[simp] theorem va10 {q0 q1 q2 q3 q4 q5 q6 q7 q8 q9 : Sl}: mVar 10 E Q (q0 :: q1 :: q2 :: q3 :: q4 :: q5 :: q6 :: q7 :: q8 :: q9 :: .fz d :: S) = Q (.val d) (q0 :: q1 :: q2 :: q3 :: q4 :: q5 :: q6 :: q7 :: q8 :: q9 :: .fz d :: S) := by simp [mVar]
@[simp] theorem vo10 {q0 q1 q2 q3 q4 q5 q6 q7 q8 q9 : Sl}: mOwn 10 E Q (q0 :: q1 :: q2 :: q3 :: q4 :: q5 :: q6 :: q7 :: q8 :: q9 :: .ow o :: S) = Q (.slot 10) (q0 :: q1 :: q2 :: q3 :: q4 :: q5 :: q6 :: q7 :: q8 :: q9 :: .ow o :: S) := by simp [mOwn]
@[simp] theorem vw10 {q0 q1 q2 q3 q4 q5 q6 q7 q8 q9 : Sl}: mOwn 10 E Q (q0 :: q1 :: q2 :: q3 :: q4 :: q5 :: q6 :: q7 :: q8 :: q9 :: .fz d :: S) = Q (.val d) (q0 :: q1 :: q2 :: q3 :: q4 :: q5 :: q6 :: q7 :: q8 :: q9 :: .fz d :: S) := by simp [mOwn]
@[simp] theorem vs10 {q0 q1 q2 q3 q4 q5 q6 q7 q8 q9 : Sl}: slQ (q0 :: q1 :: q2 :: q3 :: q4 :: q5 :: q6 :: q7 :: q8 :: q9 :: .ow o :: S) 10 ko = ko o := by simp [slQ]
@[simp] theorem vl10 {q0 q1 q2 q3 q4 q5 q6 q7 q8 q9 : Sl}{kl : List D → Prop} : luQ (q0 :: q1 :: q2 :: q3 :: q4 :: q5 :: q6 :: q7 :: q8 :: q9 :: .ow (.lst xs) :: S) 10 kl = kl xs := by simp [luQ]
@[simp] theorem vd10 {q0 q1 q2 q3 q4 q5 q6 q7 q8 q9 : Sl}{kl : List (Key × D) → Prop} : duQ (q0 :: q1 :: q2 :: q3 :: q4 :: q5 :: q6 :: q7 :: q8 :: q9 :: .ow (.dK kvs) :: S) 10 kl = kl kvs := by simp [duQ]
@[simp] theorem vg10 {q0 q1 q2 q3 q4 q5 q6 q7 q8 q9 : Sl}{gg : Int → Int → Int} {me : ME} {Z : MEnds} : sAug gg 10 me Z (q0 :: q1 :: q2 :: q3 :: q4 :: q5 :: q6 :: q7 :: q8 :: q9 :: .fz (.int x) :: S) = me Z.ex (kAu gg 10 x Z) (q0 :: q1 :: q2 :: q3 :: q4 :: q5 :: q6 :: q7 :: q8 :: q9 :: .fz (.int x) :: S) := propext ⟨fun ⟨_, e, q⟩ => by simp at e; subst e; exact q, fun q => ⟨_, by simp, q⟩⟩
@[simp] theorem vt10 {q0 q1 q2 q3 q4 q5 q6 q7 q8 q9 : Sl}: setQ (q0 :: q1 :: q2 :: q3 :: q4 :: q5 :: q6 :: q7 :: q8 :: q9 :: p :: S) 10 q kf = kf (q0 :: q1 :: q2 :: q3 :: q4 :: q5 :: q6 :: q7 :: q8 :: q9 :: q :: S) := id rfl
@[simp] theorem va11 {q0 q1 q2 q3 q4 q5 q6 q7 q8 q9 q10 : Sl}: mVar 11 E Q (q0 :: q1 :: q2 :: q3 :: q4 :: q5 :: q6 :: q7 :: q8 :: q9 :: q10 :: .fz d :: S) = Q (.val d) (q0 :: q1 :: q2 :: q3 :: q4 :: q5 :: q6 :: q7 :: q8 :: q9 :: q10 :: .fz d :: S) := by simp [mVar]
@[simp] theorem vo11 {q0 q1 q2 q3 q4 q5 q6 q7 q8 q9 q10 : Sl}: mOwn 11 E Q (q0 :: q1 :: q2 :: q3 :: q4 :: q5 :: q6 :: q7 :: q8 :: q9 :: q10 :: .ow o :: S) = Q (.slot 11) (q0 :: q1 :: q2 :: q3 :: q4 :: q5 :: q6 :: q7 :: q8 :: q9 :: q10 :: .ow o :: S) := by simp [mOwn]
@[simp] theorem vw11 {q0 q1 q2 q3 q4 q5 q6 q7 q8 q9 q10 : Sl}: mOwn 11 E Q (q0 :: q1 :: q2 :: q3 :: q4 :: q5 :: q6 :: q7 :: q8 :: q9 :: q10 :: .fz d :: S) = Q (.val d) (q0 :: q1 :: q2 :: q3 :: q4 :: q5 :: q6 :: q7 :: q8 :: q9 :: q10 :: .fz d :: S) := by simp [mOwn]
@[simp] theorem vs11 {q0 q1 q2 q3 q4 q5 q6 q7 q8 q9 q10 : Sl}: slQ (q0 :: q1 :: q2 :: q3 :: q4 :: q5 :: q6 :: q7 :: q8 :: q9 :: q10 :: .ow o :: S) 11 ko = ko o := by simp [slQ]
@[simp] theorem vl11 {q0 q1 q2 q3 q4 q5 q6 q7 q8 q9 q10 : Sl}{kl : List D → Prop} : luQ (q0 :: q1 :: q2 :: q3 :: q4 :: q5 :: q6 :: q7 :: q8 :: q9 :: q10 :: .ow (.lst xs) :: S) 11 kl = kl xs := by simp [luQ]
@[simp] theorem vd11 {q0 q1 q2 q3 q4 q5 q6 q7 q8 q9 q10 : Sl}{kl : List (Key × D) → Prop} : duQ (q0 :: q1 :: q2 :: q3 :: q4 :: q5 :: q6 :: q7 :: q8 :: q9 :: q10 :: .ow (.dK kvs) :: S) 11 kl = kl kvs := by simp [duQ]
@[simp] theorem vg11 {q0 q1 q2 q3 q4 q5 q6 q7 q8 q9 q10 : Sl}{gg : Int → Int → Int} {me : ME} {Z : MEnds} : sAug gg 11 me Z (q0 :: q1 :: q2 :: q3 :: q4 :: q5 :: q6 :: q7 :: q8 :: q9 :: q10 :: .fz (.int x) :: S) = me Z.ex (kAu gg 11 x Z) (q0 :: q1 :: q2 :: q3 :: q4 :: q5 :: q6 :: q7 :: q8 :: q9 :: q10 :: .fz (.int x) :: S) := propext ⟨fun ⟨_, e, q⟩ => by simp at e; subst e; exact q, fun q => ⟨_, by simp, q⟩⟩
@[simp] theorem vt11 {q0 q1 q2 q3 q4 q5 q6 q7 q8 q9 q10 : Sl}: setQ (q0 :: q1 :: q2 :: q3 :: q4 :: q5 :: q6 :: q7 :: q8 :: q9 :: q10 :: p :: S) 11 q kf = kf (q0 :: q1 :: q2 :: q3 :: q4 :: q5 :: q6 :: q7 :: q8 :: q9 :: q10 :: q :: S) := id rfl
@[simp] theorem va12 {q0 q1 q2 q3 q4 q5 q6 q7 q8 q9 q10 q11 : Sl}: mVar 12 E Q (q0 :: q1 :: q2 :: q3 :: q4 :: q5 :: q6 :: q7 :: q8 :: q9 :: q10 :: q11 :: .fz d :: S) = Q (.val d) (q0 :: q1 :: q2 :: q3 :: q4 :: q5 :: q6 :: q7 :: q8 :: q9 :: q10 :: q11 :: .fz d :: S) := by simp [mVar]
@[simp] theorem vo12 {q0 q1 q2 q3 q4 q5 q6 q7 q8 q9 q10 q11 : Sl}: mOwn 12 E Q (q0 :: q1 :: q2 :: q3 :: q4 :: q5 :: q6 :: q7 :: q8 :: q9 :: q10 :: q11 :: .ow o :: S) = Q (.slot 12) (q0 :: q1 :: q2 :: q3 :: q4 :: q5 :: q6 :: q7 :: q8 :: q9 :: q10 :: q11 :: .ow o :: S) := by simp [mOwn]
@[simp] theorem vw12 {q0 q1 q2 q3 q4 q5 q6 q7 q8 q9 q10 q11 : Sl}: mOwn 12 E Q (q0 :: q1 :: q2 :: q3 :: q4 :: q5 :: q6 :: q7 :: q8 :: q9 :: q10 :: q11 :: .fz d :: S) = Q (.val d) (q0 :: q1 :: q2 :: q3 :: q4 :: q5 :: q6 :: q7 :: q8 :: q9 :: q10 :: q11 :: .fz d :: S) := by simp [mOwn]
@[simp] theorem vs12 {q0 q1 q2 q3 q4 q5 q6 q7 q8 q9 q10 q11 : Sl}: slQ (q0 :: q1 :: q2 :: q3 :: q4 :: q5 :: q6 :: q7 :: q8 :: q9 :: q10 :: q11 :: .ow o :: S) 12 ko = ko o := by simp [slQ]
@[simp] theorem vl12 {q0 q1 q2 q3 q4 q5 q6 q7 q8 q9 q10 q11 : Sl}{kl : List D → Prop} : luQ (q0 :: q1 :: q2 :: q3 :: q4 :: q5 :: q6 :: q7 :: q8 :: q9 :: q10 :: q11 :: .ow (.lst xs) :: S) 12 kl = kl xs := by simp [luQ]
@[simp] theorem vd12 {q0 q1 q2 q3 q4 q5 q6 q7 q8 q9 q10 q11 : Sl}{kl : List (Key × D) → Prop} : duQ (q0 :: q1 :: q2 :: q3 :: q4 :: q5 :: q6 :: q7 :: q8 :: q9 :: q10 :: q11 :: .ow (.dK kvs) :: S) 12 kl = kl kvs := by simp [duQ]
@[simp] theorem vg12 {q0 q1 q2 q3 q4 q5 q6 q7 q8 q9 q10 q11 : Sl}{gg : Int → Int → Int} {me : ME} {Z : MEnds} : sAug gg 12 me Z (q0 :: q1 :: q2 :: q3 :: q4 :: q5 :: q6 :: q7 :: q8 :: q9 :: q10 :: q11 :: .fz (.int x) :: S) = me Z.ex (kAu gg 12 x Z) (q0 :: q1 :: q2 :: q3 :: q4 :: q5 :: q6 :: q7 :: q8 :: q9 :: q10 :: q11 :: .fz (.int x) :: S) := propext ⟨fun ⟨_, e, q⟩ => by simp at e; subst e; exact q, fun q => ⟨_, by simp, q⟩⟩
@[simp] theorem vt12 {q0 q1 q2 q3 q4 q5 q6 q7 q8 q9 q10 q11 : Sl}: setQ (q0 :: q1 :: q2 :: q3 :: q4 :: q5 :: q6 :: q7 :: q8 :: q9 :: q10 :: q11 :: p :: S) 12 q kf = kf (q0 :: q1 :: q2 :: q3 :: q4 :: q5 :: q6 :: q7 :: q8 :: q9 :: q10 :: q11 :: q :: S) := id rfl
@[simp] theorem va13 {q0 q1 q2 q3 q4 q5 q6 q7 q8 q9 q10 q11 q12 : Sl}: mVar 13 E Q (q0 :: q1 :: q2 :: q3 :: q4 :: q5 :: q6 :: q7 :: q8 :: q9 :: q10 :: q11 :: q12 :: .fz d :: S) = Q (.val d) (q0 :: q1 :: q2 :: q3 :: q4 :: q5 :: q6 :: q7 :: q8 :: q9 :: q10 :: q11 :: q12 :: .fz d :: S) := by simp [mVar]
@[simp] theorem vo13 {q0 q1 q2 q3 q4 q5 q6 q7 q8 q9 q10 q11 q12 : Sl}: mOwn 13 E Q (q0 :: q1 :: q2 :: q3 :: q4 :: q5 :: q6 :: q7 :: q8 :: q9 :: q10 :: q11 :: q12 :: .ow o :: S) = Q (.slot 13) (q0 :: q1 :: q2 :: q3 :: q4 :: q5 :: q6 :: q7 :: q8 :: q9 :: q10 :: q11 :: q12 :: .ow o :: S) := by simp [mOwn]
@[simp] theorem vw13 {q0 q1 q2 q3 q4 q5 q6 q7 q8 q9 q10 q11 q12 : Sl}: mOwn 13 E Q (q0 :: q1 :: q2 :: q3 :: q4 :: q5 :: q6 :: q7 :: q8 :: q9 :: q10 :: q11 :: q12 :: .fz d :: S) = Q (.val d) (q0 :: q1 :: q2 :: q3 :: q4 :: q5 :: q6 :: q7 :: q8 :: q9 :: q10 :: q11 :: q12 :: .fz d :: S) := by simp [mOwn]
@[simp] theorem vs13 {q0 q1 q2 q3 q4 q5 q6 q7 q8 q9 q10 q11 q12 : Sl}: slQ (q0 :: q1 :: q2 :: q3 :: q4 :: q5 :: q6 :: q7 :: q8 :: q9 :: q10 :: q11 :: q12 :: .ow o :: S) 13 ko = ko o := by simp [slQ]
@[simp] theorem vl13 {q0 q1 q2 q3 q4 q5 q6 q7 q8 q9 q10 q11 q12 : Sl}{kl : List D → Prop} : luQ (q0 :: q1 :: q2 :: q3 :: q4 :: q5 :: q6 :: q7 :: q8 :: q9 :: q10 :: q11 :: q12 :: .ow (.lst xs) :: S) 13 kl = kl xs := by simp [luQ]
@[simp] theorem vd13 {q0 q1 q2 q3 q4 q5 q6 q7 q8 q9 q10 q11 q12 : Sl}{kl : List (Key × D) → Prop} : duQ (q0 :: q1 :: q2 :: q3 :: q4 :: q5 :: q6 :: q7 :: q8 :: q9 :: q10 :: q11 :: q12 :: .ow (.dK kvs) :: S) 13 kl = kl kvs := by simp [duQ]
@[simp] theorem vg13 {q0 q1 q2 q3 q4 q5 q6 q7 q8 q9 q10 q11 q12 : Sl}{gg : Int → Int → Int} {me : ME} {Z : MEnds} : sAug gg 13 me Z (q0 :: q1 :: q2 :: q3 :: q4 :: q5 :: q6 :: q7 :: q8 :: q9 :: q10 :: q11 :: q12 :: .fz (.int x) :: S) = me Z.ex (kAu gg 13 x Z) (q0 :: q1 :: q2 :: q3 :: q4 :: q5 :: q6 :: q7 :: q8 :: q9 :: q10 :: q11 :: q12 :: .fz (.int x) :: S) := propext ⟨fun ⟨_, e, q⟩ => by simp at e; subst e; exact q, fun q => ⟨_, by simp, q⟩⟩
@[simp] theorem vt13 {q0 q1 q2 q3 q4 q5 q6 q7 q8 q9 q10 q11 q12 : Sl}: setQ (q0 :: q1 :: q2 :: q3 :: q4 :: q5 :: q6 :: q7 :: q8 :: q9 :: q10 :: q11 :: q12 :: p :: S) 13 q kf = kf (q0 :: q1 :: q2 :: q3 :: q4 :: q5 :: q6 :: q7 :: q8 :: q9 :: q10 :: q11 :: q12 :: q :: S) := id rfl
@[simp] theorem va14 {q0 q1 q2 q3 q4 q5 q6 q7 q8 q9 q10 q11 q12 q13 : Sl}: mVar 14 E Q (q0 :: q1 :: q2 :: q3 :: q4 :: q5 :: q6 :: q7 :: q8 :: q9 :: q10 :: q11 :: q12 :: q13 :: .fz d :: S) = Q (.val d) (q0 :: q1 :: q2 :: q3 :: q4 :: q5 :: q6 :: q7 :: q8 :: q9 :: q10 :: q11 :: q12 :: q13 :: .fz d :: S) := by simp [mVar]
@[simp] theorem vo14 {q0 q1 q2 q3 q4 q5 q6 q7 q8 q9 q10 q11 q12 q13 : Sl}: mOwn 14 E Q (q0 :: q1 :: q2 :: q3 :: q4 :: q5 :: q6 :: q7 :: q8 :: q9 :: q10 :: q11 :: q12 :: q13 :: .ow o :: S) = Q (.slot 14) (q0 :: q1 :: q2 :: q3 :: q4 :: q5 :: q6 :: q7 :: q8 :: q9 :: q10 :: q11 :: q12 :: q13 :: .ow o :: S) := by simp [mOwn]
@[simp] theorem vw14 {q0 q1 q2 q3 q4 q5 q6 q7 q8 q9 q10 q11 q12 q13 : Sl}: mOwn 14 E Q (q0 :: q1 :: q2 :: q3 :: q4 :: q5 :: q6 :: q7 :: q8 :: q9 :: q10 :: q11 :: q12 :: q13 :: .fz d :: S) = Q (.val d) (q0 :: q1 :: q2 :: q3 :: q4 :: q5 :: q6 :: q7 :: q8 :: q9 :: q10 :: q11 :: q12 :: q13 :: .fz d :: S) := by simp [mOwn]
@[simp] theorem vs14 {q0 q1 q2 q3 q4 q5 q6 q7 q8 q9 q10 q11 q12 q13 : Sl}: slQ (q0 :: q1 :: q2 :: q3 :: q4 :: q5 :: q6 :: q7 :: q8 :: q9 :: q10 :: q11 :: q12 :: q13 :: .ow o :: S) 14 ko = ko o := by simp [slQ]
@[simp] theorem vl14 {q0 q1 q2 q3 q4 q5 q6 q7 q8 q9 q10 q11 q12 q13 : Sl}{kl : List D → Prop} : luQ (q0 :: q1 :: q2 :: q3 :: q4 :: q5 :: q6 :: q7 :: q8 :: q9 :: q10 :: q11 :: q12 :: q13 :: .ow (.lst xs) :: S) 14 kl = kl xs := by simp [luQ]
@[simp] theorem vd14 {q0 q1 q2 q3 q4 q5 q6 q7 q8 q9 q10 q11 q12 q13 : Sl}{kl : List (Key × D) → Prop} : duQ (q0 :: q1 :: q2 :: q3 :: q4 :: q5 :: q6 :: q7 :: q8 :: q9 :: q10 :: q11 :: q12 :: q13 :: .ow (.dK kvs) :: S) 14 kl = kl kvs := by simp [duQ]
@[simp] theorem vg14 {q0 q1 q2 q3 q4 q5 q6 q7 q8 q9 q10 q11 q12 q13 : Sl}{gg : Int → Int → Int} {me : ME} {Z : MEnds} : sAug gg 14 me Z (q0 :: q1 :: q2 :: q3 :: q4 :: q5 :: q6 :: q7 :: q8 :: q9 :: q10 :: q11 :: q12 :: q13 :: .fz (.int x) :: S) = me Z.ex (kAu gg 14 x Z) (q0 :: q1 :: q2 :: q3 :: q4 :: q5 :: q6 :: q7 :: q8 :: q9 :: q10 :: q11 :: q12 :: q13 :: .fz (.int x) :: S) := propext ⟨fun ⟨_, e, q⟩ => by simp at e; subst e; exact q, fun q => ⟨_, by simp, q⟩⟩
@[simp] theorem vt14 {q0 q1 q2 q3 q4 q5 q6 q7 q8 q9 q10 q11 q12 q13 : Sl}: setQ (q0 :: q1 :: q2 :: q3 :: q4 :: q5 :: q6 :: q7 :: q8 :: q9 :: q10 :: q11 :: q12 :: q13 :: p :: S) 14 q kf = kf (q0 :: q1 :: q2 :: q3 :: q4 :: q5 :: q6 :: q7 :: q8 :: q9 :: q10 :: q11 :: q12 :: q13 :: q :: S) := id rfl
@[simp] theorem va15 {q0 q1 q2 q3 q4 q5 q6 q7 q8 q9 q10 q11 q12 q13 q14 : Sl}: mVar 15 E Q (q0 :: q1 :: q2 :: q3 :: q4 :: q5 :: q6 :: q7 :: q8 :: q9 :: q10 :: q11 :: q12 :: q13 :: q14 :: .fz d :: S) = Q (.val d) (q0 :: q1 :: q2 :: q3 :: q4 :: q5 :: q6 :: q7 :: q8 :: q9 :: q10 :: q11 :: q12 :: q13 :: q14 :: .fz d :: S) := by simp [mVar]
@[simp] theorem vo15 {q0 q1 q2 q3 q4 q5 q6 q7 q8 q9 q10 q11 q12 q13 q14 : Sl}: mOwn 15 E Q (q0 :: q1 :: q2 :: q3 :: q4 :: q5 :: q6 :: q7 :: q8 :: q9 :: q10 :: q11 :: q12 :: q13 :: q14 :: .ow o :: S) = Q (.slot 15) (q0 :: q1 :: q2 :: q3 :: q4 :: q5 :: q6 :: q7 :: q8 :: q9 :: q10 :: q11 :: q12 :: q13 :: q14 :: .ow o :: S) := by simp [mOwn]
@[simp] theorem vw15 {q0 q1 q2 q3 q4 q5 q6 q7 q8 q9 q10 q11 q12 q13 q14 : Sl}: mOwn 15 E Q (q0 :: q1 :: q2 :: q3 :: q4 :: q5 :: q6 :: q7 :: q8 :: q9 :: q10 :: q11 :: q12 :: q13 :: q14 :: .fz d :: S) = Q (.val d) (q0 :: q1 :: q2 :: q3 :: q4 :: q5 :: q6 :: q7 :: q8 :: q9 :: q10 :: q11 :: q12 :: q13 :: q14 :: .fz d :: S) := by simp [mOwn]
@[simp] theorem vs15 {q0 q1 q2 q3 q4 q5 q6 q7 q8 q9 q10 q11 q12 q13 q14 : Sl}: slQ (q0 :: q1 :: q2 :: q3 :: q4 :: q5 :: q6 :: q7 :: q8 :: q9 :: q10 :: q11 :: q12 :: q13 :: q14 :: .ow o :: S) 15 ko = ko o := by simp [slQ]
@[simp] theorem vl15 {q0 q1 q2 q3 q4 q5 q6 q7 q8 q9 q10 q11 q12 q13 q14 : Sl}{kl : List D → Prop} : luQ (q0 :: q1 :: q2 :: q3 :: q4 :: q5 :: q6 :: q7 :: q8 :: q9 :: q10 :: q11 :: q12 :: q13 :: q14 :: .ow (.lst xs) :: S) 15 kl = kl xs := by simp [luQ]
@[simp] theorem vd15 {q0 q1 q2 q3 q4 q5 q6 q7 q8 q9 q10 q11 q12 q13 q14 : Sl}{kl : List (Key × D) → Prop} : duQ (q0 :: q1 :: q2 :: q3 :: q4 :: q5 :: q6 :: q7 :: q8 :: q9 :: q10 :: q11 :: q12 :: q13 :: q14 :: .ow (.dK kvs) :: S) 15 kl = kl kvs := by simp [duQ]
@[simp] theorem vg15 {q0 q1 q2 q3 q4 q5 q6 q7 q8 q9 q10 q11 q12 q13 q14 : Sl}{gg : Int → Int → Int} {me : ME} {Z : MEnds} : sAug gg 15 me Z (q0 :: q1 :: q2 :: q3 :: q4 :: q5 :: q6 :: q7 :: q8 :: q9 :: q10 :: q11 :: q12 :: q13 :: q14 :: .fz (.int x) :: S) = me Z.ex (kAu gg 15 x Z) (q0 :: q1 :: q2 :: q3 :: q4 :: q5 :: q6 :: q7 :: q8 :: q9 :: q10 :: q11 :: q12 :: q13 :: q14 :: .fz (.int x) :: S) := propext ⟨fun ⟨_, e, q⟩ => by simp at e; subst e; exact q, fun q => ⟨_, by simp, q⟩⟩
@[simp] theorem vt15 {q0 q1 q2 q3 q4 q5 q6 q7 q8 q9 q10 q11 q12 q13 q14 : Sl}: setQ (q0 :: q1 :: q2 :: q3 :: q4 :: q5 :: q6 :: q7 :: q8 :: q9 :: q10 :: q11 :: q12 :: q13 :: q14 :: p :: S) 15 q kf = kf (q0 :: q1 :: q2 :: q3 :: q4 :: q5 :: q6 :: q7 :: q8 :: q9 :: q10 :: q11 :: q12 :: q13 :: q14 :: q :: S) := id rfl
@[simp] theorem va16 {q0 q1 q2 q3 q4 q5 q6 q7 q8 q9 q10 q11 q12 q13 q14 q15 : Sl}: mVar 16 E Q (q0 :: q1 :: q2 :: q3 :: q4 :: q5 :: q6 :: q7 :: q8 :: q9 :: q10 :: q11 :: q12 :: q13 :: q14 :: q15 :: .fz d :: S) = Q (.val d) (q0 :: q1 :: q2 :: q3 :: q4 :: q5 :: q6 :: q7 :: q8 :: q9 :: q10 :: q11 :: q12 :: q13 :: q14 :: q15 :: .fz d :: S) := by simp [mVar]
@[simp] theorem vo16 {q0 q1 q2 q3 q4 q5 q6 q7 q8 q9 q10 q11 q12 q13 q14 q15 : Sl}: mOwn 16 E Q (q0 :: q1 :: q2 :: q3 :: q4 :: q5 :: q6 :: q7 :: q8 :: q9 :: q10 :: q11 :: q12 :: q13 :: q14 :: q15 :: .ow o :: S) = Q (.slot 16) (q0 :: q1 :: q2 :: q3 :: q4 :: q5 :: q6 :: q7 :: q8 :: q9 :: q10 :: q11 :: q12 :: q13 :: q14 :: q15 :: .ow o :: S) := by simp [mOwn]
@[simp] theorem vw16 {q0 q1 q2 q3 q4 q5 q6 q7 q8 q9 q10 q11 q12 q13 q14 q15 : Sl}: mOwn 16 E Q (q0 :: q1 :: q2 :: q3 :: q4 :: q5 :: q6 :: q7 :: q8 :: q9 :: q10 :: q11 :: q12 :: q13 :: q14 :: q15 :: .fz d :: S) = Q (.val d) (q0 :: q1 :: q2 :: q3 :: q4 :: q5 :: q6 :: q7 :: q8 :: q9 :: q10 :: q11 :: q12 :: q13 :: q14 :: q15 :: .fz d :: S) := by simp [mOwn]
@[simp] theorem vs16 {q0 q1 q2 q3 q4 q5 q6 q7 q8 q9 q10 q11 q12 q13 q14 q15 : Sl}: slQ (q0 :: q1 :: q2 :: q3 :: q4 :: q5 :: q6 :: q7 :: q8 :: q9 :: q10 :: q11 :: q12 :: q13 :: q14 :: q15 :: .ow o :: S) 16 ko = ko o := by simp [slQ]
@[simp] theorem vl16 {q0 q1 q2 q3 q4 q5 q6 q7 q8 q9 q10 q11 q12 q13 q14 q15 : Sl}{kl : List D → Prop} : luQ (q0 :: q1 :: q2 :: q3 :: q4 :: q5 :: q6 :: q7 :: q8 :: q9 :: q10 :: q11 :: q12 :: q13 :: q14 :: q15 :: .ow (.lst xs) :: S) 16 kl = kl xs := by simp [luQ]
@[simp] theorem vd16 {q0 q1 q2 q3 q4 q5 q6 q7 q8 q9 q10 q11 q12 q13 q14 q15 : Sl}{kl : List (Key × D) → Prop} : duQ (q0 :: q1 :: q2 :: q3 :: q4 :: q5 :: q6 :: q7 :: q8 :: q9 :: q10 :: q11 :: q12 :: q13 :: q14 :: q15 :: .ow (.dK kvs) :: S) 16 kl = kl kvs := by simp [duQ]
@[simp] theorem vg16 {q0 q1 q2 q3 q4 q5 q6 q7 q8 q9 q10 q11 q12 q13 q14 q15 : Sl}{gg : Int → Int → Int} {me : ME} {Z : MEnds} : sAug gg 16 me Z (q0 :: q1 :: q2 :: q3 :: q4 :: q5 :: q6 :: q7 :: q8 :: q9 :: q10 :: q11 :: q12 :: q13 :: q14 :: q15 :: .fz (.int x) :: S) = me Z.ex (kAu gg 16 x Z) (q0 :: q1 :: q2 :: q3 :: q4 :: q5 :: q6 :: q7 :: q8 :: q9 :: q10 :: q11 :: q12 :: q13 :: q14 :: q15 :: .fz (.int x) :: S) := propext ⟨fun ⟨_, e, q⟩ => by simp at e; subst e; exact q, fun q => ⟨_, by simp, q⟩⟩
@[simp] theorem vt16 {q0 q1 q2 q3 q4 q5 q6 q7 q8 q9 q10 q11 q12 q13 q14 q15 : Sl}: setQ (q0 :: q1 :: q2 :: q3 :: q4 :: q5 :: q6 :: q7 :: q8 :: q9 :: q10 :: q11 :: q12 :: q13 :: q14 :: q15 :: p :: S) 16 q kf = kf (q0 :: q1 :: q2 :: q3 :: q4 :: q5 :: q6 :: q7 :: q8 :: q9 :: q10 :: q11 :: q12 :: q13 :: q14 :: q15 :: q :: S) := id rfl
@[simp] theorem va17 {q0 q1 q2 q3 q4 q5 q6 q7 q8 q9 q10 q11 q12 q13 q14 q15 q16 : Sl}: mVar 17 E Q (q0 :: q1 :: q2 :: q3 :: q4 :: q5 :: q6 :: q7 :: q8 :: q9 :: q10 :: q11 :: q12 :: q13 :: q14 :: q15 :: q16 :: .fz d :: S) = Q (.val d) (q0 :: q1 :: q2 :: q3 :: q4 :: q5 :: q6 :: q7 :: q8 :: q9 :: q10 :: q11 :: q12 :: q13 :: q14 :: q15 :: q16 :: .fz d :: S) := by simp [mVar]
@[simp] theorem vo17 {q0 q1 q2 q3 q4 q5 q6 q7 q8 q9 q10 q11 q12 q13 q14 q15 q16 : Sl}: mOwn 17 E Q (q0 :: q1 :: q2 :: q3 :: q4 :: q5 :: q6 :: q7 :: q8 :: q9 :: q10 :: q11 :: q12 :: q13 :: q14 :: q15 :: q16 :: .ow o :: S) = Q (.slot 17) (q0 :: q1 :: q2 :: q3 :: q4 :: q5 :: q6 :: q7 :: q8 :: q9 :: q10 :: q11 :: q12 :: q13 :: q14 :: q15 :: q16 :: .ow o :: S) := by simp [mOwn]
@[simp] theorem vw17 {q0 q1 q2 q3 q4 q5 q6 q7 q8 q9 q10 q11 q12 q13 q14 q15 q16 : Sl}: mOwn 17 E Q (q0 :: q1 :: q2 :: q3 :: q4 :: q5 :: q6 :: q7 :: q8 :: q9 :: q10 :: q11 :: q12 :: q13 :: q14 :: q15 :: q16 :: .fz d :: S) = Q (.val d) (q0 :: q1 :: q2 :: q3 :: q4 :: q5 :: q6 :: q7 :: q8 :: q9 :: q10 :: q11 :: q12 :: q13 :: q14 :: q15 :: q16 :: .fz d :: S) := by simp [mOwn]
@[simp] theorem vs17 {q0 q1 q2 q3 q4 q5 q6 q7 q8 q9 q10 q11 q12 q13 q14 q15 q16 : Sl}: slQ (q0 :: q1 :: q2 :: q3 :: q4 :: q5 :: q6 :: q7 :: q8 :: q9 :: q10 :: q11 :: q12 :: q13 :: q14 :: q15 :: q16 :: .ow o :: S) 17 ko = ko o := by simp [slQ]
@[simp] theorem vl17 {q0 q1 q2 q3 q4 q5 q6 q7 q8 q9 q10 q11 q12 q13 q14 q15 q16 : Sl}{kl : List D → Prop} : luQ (q0 :: q1 :: q2 :: q3 :: q4 :: q5 :: q6 :: q7 :: q8 :: q9 :: q10 :: q11 :: q12 :: q13 :: q14 :: q15 :: q16 :: .ow (.lst xs) :: S) 17 kl = kl xs := by simp [luQ]
@[simp] theorem vd17 {q0 q1 q2 q3 q4 q5 q6 q7 q8 q9 q10 q11 q12 q13 q14 q15 q16 : Sl}{kl : List (Key × D) → Prop} : duQ (q0 :: q1 :: q2 :: q3 :: q4 :: q5 :: q6 :: q7 :: q8 :: q9 :: q10 :: q11 :: q12 :: q13 :: q14 :: q15 :: q16 :: .ow (.dK kvs) :: S) 17 kl = kl kvs := by simp [duQ]
@[simp] theorem vg17 {q0 q1 q2 q3 q4 q5 q6 q7 q8 q9 q10 q11 q12 q13 q14 q15 q16 : Sl}{gg : Int → Int → Int} {me : ME} {Z : MEnds} : sAug gg 17 me Z (q0 :: q1 :: q2 :: q3 :: q4 :: q5 :: q6 :: q7 :: q8 :: q9 :: q10 :: q11 :: q12 :: q13 :: q14 :: q15 :: q16 :: .fz (.int x) :: S) = me Z.ex (kAu gg 17 x Z) (q0 :: q1 :: q2 :: q3 :: q4 :: q5 :: q6 :: q7 :: q8 :: q9 :: q10 :: q11 :: q12 :: q13 :: q14 :: q15 :: q16 :: .fz (.int x) :: S) := propext ⟨fun ⟨_, e, q⟩ => by simp at e; subst e; exact q, fun q => ⟨_, by simp, q⟩⟩
@[simp] theorem vt17 {q0 q1 q2 q3 q4 q5 q6 q7 q8 q9 q10 q11 q12 q13 q14 q15 q16 : Sl}: setQ (q0 :: q1 :: q2 :: q3 :: q4 :: q5 :: q6 :: q7 :: q8 :: q9 :: q10 :: q11 :: q12 :: q13 :: q14 :: q15 :: q16 :: p :: S) 17 q kf = kf (q0 :: q1 :: q2 :: q3 :: q4 :: q5 :: q6 :: q7 :: q8 :: q9 :: q10 :: q11 :: q12 :: q13 :: q14 :: q15 :: q16 :: q :: S) := id rfl
@[simp] theorem va18 {q0 q1 q2 q3 q4 q5 q6 q7 q8 q9 q10 q11 q12 q13 q14 q15 q16 q17 : Sl}: mVar 18 E Q (q0 :: q1 :: q2 :: q3 :: q4 :: q5 :: q6 :: q7 :: q8 :: q9 :: q10 :: q11 :: q12 :: q13 :: q14 :: q15 :: q16 :: q17 :: .fz d :: S) = Q (.val d) (q0 :: q1 :: q2 :: q3 :: q4 :: q5 :: q6 :: q7 :: q8 :: q9 :: q10 :: q11 :: q12 :: q13 :: q14 :: q15 :: q16 :: q17 :: .fz d :: S) := by simp [mVar]
@[simp] theorem vo18 {q0 q1 q2 q3 q4 q5 q6 q7 q8 q9 q10 q11 q12 q13 q14 q15 q16 q17 : Sl}: mOwn 18 E Q (q0 :: q1 :: q2 :: q3 :: q4 :: q5 :: q6 :: q7 :: q8 :: q9 :: q10 :: q11 :: q12 :: q13 :: q14 :: q15 :: q16 :: q17 :: .ow o :: S) = Q (.slot 18) (q0 :: q1 :: q2 :: q3 :: q4 :: q5 :: q6 :: q7 :: q8 :: q9 :: q10 :: q11 :: q12 :: q13 :: q14 :: q15 :: q16 :: q17 :: .ow o :: S) := by simp [mOwn]
@[simp] theorem vw18 {q0 q1 q2 q3 q4 q5 q6 q7 q8 q9 q10 q11 q12 q13 q14 q15 q16 q17 : Sl}: mOwn 18 E Q (q0 :: q1 :: q2 :: q3 :: q4 :: q5 :: q6 :: q7 :: q8 :: q9 :: q10 :: q11 :: q12 :: q13 :: q14 :: q15 :: q16 :: q17 :: .fz d :: S) = Q (.val d) (q0 :: q1 :: q2 :: q3 :: q4 :: q5 :: q6 :: q7 :: q8 :: q9 :: q10 :: q11 :: q12 :: q13 :: q14 :: q15 :: q16 :: q17 :: .fz d :: S) := by simp [mOwn]
@[simp] theorem vs18 {q0 q1 q2 q3 q4 q5 q6 q7 q8 q9 q10 q11 q12 q13 q14 q15 q16 q17 : Sl}: slQ (q0 :: q1 :: q2 :: q3 :: q4 :: q5 :: q6 :: q7 :: q8 :: q9 :: q10 :: q11 :: q12 :: q13 :: q14 :: q15 :: q16 :: q17 :: .ow o :: S) 18 ko = ko o := by simp [slQ]
@[simp] theorem vl18 {q0 q1 q2 q3 q4 q5 q6 q7 q8 q9 q10 q11 q12 q13 q14 q15 q16 q17 : Sl}{kl : List D → Prop} : luQ (q0 :: q1 :: q2 :: q3 :: q4 :: q5 :: q6 :: q7 :: q8 :: q9 :: q10 :: q11 :: q12 :: q13 :: q14 :: q15 :: q16 :: q17 :: .ow (.lst xs) :: S) 18 kl = kl xs := by simp [luQ]
@[simp] theorem vd18 {q0 q1 q2 q3 q4 q5 q6 q7 q8 q9 q10 q11 q12 q13 q14 q15 q16 q17 : Sl}{kl : List (Key × D) → Prop} : duQ (q0 :: q1 :: q2 :: q3 :: q4 :: q5 :: q6 :: q7 :: q8 :: q9 :: q10 :: q11 :: q12 :: q13 :: q14 :: q15 :: q16 :: q17 :: .ow (.dK kvs) :: S) 18 kl = kl kvs := by simp [duQ]
@[simp] theorem vg18 {q0 q1 q2 q3 q4 q5 q6 q7 q8 q9 q10 q11 q12 q13 q14 q15 q16 q17 : Sl}{gg : Int → Int → Int} {me : ME} {Z : MEnds} : sAug gg 18 me Z (q0 :: q1 :: q2 :: q3 :: q4 :: q5 :: q6 :: q7 :: q8 :: q9 :: q10 :: q11 :: q12 :: q13 :: q14 :: q15 :: q16 :: q17 :: .fz (.int x) :: S) = me Z.ex (kAu gg 18 x Z) (q0 :: q1 :: q2 :: q3 :: q4 :: q5 :: q6 :: q7 :: q8 :: q9 :: q10 :: q11 :: q12 :: q13 :: q14 :: q15 :: q16 :: q17 :: .fz (.int x) :: S) := propext ⟨fun ⟨_, e, q⟩ => by simp at e; subst e; exact q, fun q => ⟨_, by simp, q⟩⟩
@[simp] theorem vt18 {q0 q1 q2 q3 q4 q5 q6 q7 q8 q9 q10 q11 q12 q13 q14 q15 q16 q17 : Sl}: setQ (q0 :: q1 :: q2 :: q3 :: q4 :: q5 :: q6 :: q7 :: q8 :: q9 :: q10 :: q11 :: q12 :: q13 :: q14 :: q15 :: q16 :: q17 :: p :: S) 18 q kf = kf (q0 :: q1 :: q2 :: q3 :: q4 :: q5 :: q6 :: q7 :: q8 :: q9 :: q10 :: q11 :: q12 :: q13 :: q14 :: q15 :: q16 :: q17 :: q :: S) := id rfl
@[simp] theorem va19 {q0 q1 q2 q3 q4 q5 q6 q7 q8 q9 q10 q11 q12 q13 q14 q15 q16 q17 q18 : Sl}: mVar 19 E Q (q0 :: q1 :: q2 :: q3 :: q4 :: q5 :: q6 :: q7 :: q8 :: q9 :: q10 :: q11 :: q12 :: q13 :: q14 :: q15 :: q16 :: q17 :: q18 :: .fz d :: S) = Q (.val d) (q0 :: q1 :: q2 :: q3 :: q4 :: q5 :: q6 :: q7 :: q8 :: q9 :: q10 :: q11 :: q12 :: q13 :: q14 :: q15 :: q16 :: q17 :: q18 :: .fz d :: S) := by simp [mVar]
@[simp] theorem vo19 {q0 q1 q2 q3 q4 q5 q6 q7 q8 q9 q10 q11 q12 q13 q14 q15 q16 q17 q18 : Sl}: mOwn 19 E Q (q0 :: q1 :: q2 :: q3 :: q4 :: q5 :: q6 :: q7 :: q8 :: q9 :: q10 :: q11 :: q12 :: q13 :: q14 :: q15 :: q16 :: q17 :: q18 :: .ow o :: S) = Q (.slot 19) (q0 :: q1 :: q2 :: q3 :: q4 :: q5 :: q6 :: q7 :: q8 :: q9 :: q10 :: q11 :: q12 :: q13 :: q14 :: q15 :: q16 :: q17 :: q18 :: .ow o :: S) := by simp [mOwn]
@[simp] theorem vw19 {q0 q1 q2 q3 q4 q5 q6 q7 q8 q9 q10 q11 q12 q13 q14 q15 q16 q17 q18 : Sl}: mOwn 19 E Q (q0 :: q1 :: q2 :: q3 :: q4 :: q5 :: q6 :: q7 :: q8 :: q9 :: q10 :: q11 :: q12 :: q13 :: q14 :: q15 :: q16 :: q17 :: q18 :: .fz d :: S) = Q (.val d) (q0 :: q1 :: q2 :: q3 :: q4 :: q5 :: q6 :: q7 :: q8 :: q9 :: q10 :: q11 :: q12 :: q13 :: q14 :: q15 :: q16 :: q17 :: q18 :: .fz d :: S) := by simp [mOwn]
@[simp] theorem vs19 {q0 q1 q2 q3 q4 q5 q6 q7 q8 q9 q10 q11 q12 q13 q14 q15 q16 q17 q18 : Sl}: slQ (q0 :: q1 :: q2 :: q3 :: q4 :: q5 :: q6 :: q7 :: q8 :: q9 :: q10 :: q11 :: q12 :: q13 :: q14 :: q15 :: q16 :: q17 :: q18 :: .ow o :: S) 19 ko = ko o := by simp [slQ]
@[simp] theorem vl19 {q0 q1 q2 q3 q4 q5 q6 q7 q8 q9 q10 q11 q12 q13 q14 q15 q16 q17 q18 : Sl}{kl : List D → Prop} : luQ (q0 :: q1 :: q2 :: q3 :: q4 :: q5 :: q6 :: q7 :: q8 :: q9 :: q10 :: q11 :: q12 :: q13 :: q14 :: q15 :: q16 :: q17 :: q18 :: .ow (.lst xs) :: S) 19 kl = kl xs := by simp [luQ]
@[simp] theorem vd19 {q0 q1 q2 q3 q4 q5 q6 q7 q8 q9 q10 q11 q12 q13 q14 q15 q16 q17 q18 : Sl}{kl : List (Key × D) → Prop} : duQ (q0 :: q1 :: q2 :: q3 :: q4 :: q5 :: q6 :: q7 :: q8 :: q9 :: q10 :: q11 :: q12 :: q13 :: q14 :: q15 :: q16 :: q17 :: q18 :: .ow (.dK kvs) :: S) 19 kl = kl kvs := by simp [duQ]
@[simp] theorem vg19 {q0 q1 q2 q3 q4 q5 q6 q7 q8 q9 q10 q11 q12 q13 q14 q15 q16 q17 q18 : Sl}{gg : Int → Int → Int} {me : ME} {Z : MEnds} : sAug gg 19 me Z (q0 :: q1 :: q2 :: q3 :: q4 :: q5 :: q6 :: q7 :: q8 :: q9 :: q10 :: q11 :: q12 :: q13 :: q14 :: q15 :: q16 :: q17 :: q18 :: .fz (.int x) :: S) = me Z.ex (kAu gg 19 x Z) (q0 :: q1 :: q2 :: q3 :: q4 :: q5 :: q6 :: q7 :: q8 :: q9 :: q10 :: q11 :: q12 :: q13 :: q14 :: q15 :: q16 :: q17 :: q18 :: .fz (.int x) :: S) := propext ⟨fun ⟨_, e, q⟩ => by simp at e; subst e; exact q, fun q => ⟨_, by simp, q⟩⟩
@[simp] theorem vt19 {q0 q1 q2 q3 q4 q5 q6 q7 q8 q9 q10 q11 q12 q13 q14 q15 q16 q17 q18 : Sl}: setQ (q0 :: q1 :: q2 :: q3 :: q4 :: q5 :: q6 :: q7 :: q8 :: q9 :: q10 :: q11 :: q12 :: q13 :: q14 :: q15 :: q16 :: q17 :: q18 :: p :: S) 19 q kf = kf (q0 :: q1 :: q2 :: q3 :: q4 :: q5 :: q6 :: q7 :: q8 :: q9 :: q10 :: q11 :: q12 :: q13 :: q14 :: q15 :: q16 :: q17 :: q18 :: q :: S) := id rfl
@[simp] theorem va20 {q0 q1 q2 q3 q4 q5 q6 q7 q8 q9 q10 q11 q12 q13 q14 q15 q16 q17 q18 q19 : Sl}: mVar 20 E Q (q0 :: q1 :: q2 :: q3 :: q4 :: q5 :: q6 :: q7 :: q8 :: q9 :: q10 :: q11 :: q12 :: q13 :: q14 :: q15 :: q16 :: q17 :: q18 :: q19 :: .fz d :: S) = Q (.val d) (q0 :: q1 :: q2 :: q3 :: q4 :: q5 :: q6 :: q7 :: q8 :: q9 :: q10 :: q11 :: q12 :: q13 :: q14 :: q15 :: q16 :: q17 :: q18 :: q19 :: .fz d :: S) := by simp [mVar]
@[simp] theorem vo20 {q0 q1 q2 q3 q4 q5 q6 q7 q8 q9 q10 q11 q12 q13 q14 q15 q16 q17 q18 q19 : Sl}: mOwn 20 E Q (q0 :: q1 :: q2 :: q3 :: q4 :: q5 :: q6 :: q7 :: q8 :: q9 :: q10 :: q11 :: q12 :: q13 :: q14 :: q15 :: q16 :: q17 :: q18 :: q19 :: .ow o :: S) = Q (.slot 20) (q0 :: q1 :: q2 :: q3 :: q4 :: q5 :: q6 :: q7 :: q8 :: q9 :: q10 :: q11 :: q12 :: q13 :: q14 :: q15 :: q16 :: q17 :: q18 :: q19 :: .ow o :: S) := by simp [mOwn]
@[simp] theorem vw20 {q0 q1 q2 q3 q4 q5 q6 q7 q8 q9 q10 q11 q12 q13 q14 q15 q16 q17 q18 q19 : Sl}: mOwn 20 E Q (q0 :: q1 :: q2 :: q3 :: q4 :: q5 :: q6 :: q7 :: q8 :: q9 :: q10 :: q11 :: q12 :: q13 :: q14 :: q15 :: q16 :: q17 :: q18 :: q19 :: .fz d :: S) = Q (.val d) (q0 :: q1 :: q2 :: q3 :: q4 :: q5 :: q6 :: q7 :: q8 :: q9 :: q10 :: q11 :: q12 :: q13 :: q14 :: q15 :: q16 :: q17 :: q18 :: q19 :: .fz d :: S) := by simp [mOwn]
@[simp] theorem vs20 {q0 q1 q2 q3 q4 q5 q6 q7 q8 q9 q10 q11 q12 q13 q14 q15 q16 q17 q18 q19 : Sl}: slQ (q0 :: q1 :: q2 :: q3 :: q4 :: q5 :: q6 :: q7 :: q8 :: q9 :: q10 :: q11 :: q12 :: q13 :: q14 :: q15 :: q16 :: q17 :: q18 :: q19 :: .ow o :: S) 20 ko = ko o := by simp [slQ]
@[simp] theorem vl20 {q0 q1 q2 q3 q4 q5 q6 q7 q8 q9 q10 q11 q12 q13 q14 q15 q16 q17 q18 q19 : Sl}{kl : List D → Prop} : luQ (q0 :: q1 :: q2 :: q3 :: q4 :: q5 :: q6 :: q7 :: q8 :: q9 :: q10 :: q11 :: q12 :: q13 :: q14 :: q15 :: q16 :: q17 :: q18 :: q19 :: .ow (.lst xs) :: S) 20 kl = kl xs := by simp [luQ]
@[simp] theorem vd20 {q0 q1 q2 q3 q4 q5 q6 q7 q8 q9 q10 q11 q12 q13 q14 q15 q16 q17 q18 q19 : Sl}{kl : List (Key × D) → Prop} : duQ (q0 :: q1 :: q2 :: q3 :: q4 :: q5 :: q6 :: q7 :: q8 :: q9 :: q10 :: q11 :: q12 :: q13 :: q14 :: q15 :: q16 :: q17 :: q18 :: q19 :: .ow (.dK kvs) :: S) 20 kl = kl kvs := by simp [duQ]
@[simp] theorem vg20 {q0 q1 q2 q3 q4 q5 q6 q7 q8 q9 q10 q11 q12 q13 q14 q15 q16 q17 q18 q19 : Sl}{gg : Int → Int → Int} {me : ME} {Z : MEnds} : sAug gg 20 me Z (q0 :: q1 :: q2 :: q3 :: q4 :: q5 :: q6 :: q7 :: q8 :: q9 :: q10 :: q11 :: q12 :: q13 :: q14 :: q15 :: q16 :: q17 :: q18 :: q19 :: .fz (.int x) :: S) = me Z.ex (kAu gg 20 x Z) (q0 :: q1 :: q2 :: q3 :: q4 :: q5 :: q6 :: q7 :: q8 :: q9 :: q10 :: q11 :: q12 :: q13 :: q14 :: q15 :: q16 :: q17 :: q18 :: q19 :: .fz (.int x) :: S) := propext ⟨fun ⟨_, e, q⟩ => by simp at e; subst e; exact q, fun q => ⟨_, by simp, q⟩⟩
@[simp] theorem vt20 {q0 q1 q2 q3 q4 q5 q6 q7 q8 q9 q10 q11 q12 q13 q14 q15 q16 q17 q18 q19 : Sl}: setQ (q0 :: q1 :: q2 :: q3 :: q4 :: q5 :: q6 :: q7 :: q8 :: q9 :: q10 :: q11 :: q12 :: q13 :: q14 :: q15 :: q16 :: q17 :: q18 :: q19 :: p :: S) 20 q kf = kf (q0 :: q1 :: q2 :: q3 :: q4 :: q5 :: q6 :: q7 :: q8 :: q9 :: q10 :: q11 :: q12 :: q13 :: q14 :: q15 :: q16 :: q17 :: q18 :: q19 :: q :: S) := id rfl
@[simp] theorem va21 {q0 q1 q2 q3 q4 q5 q6 q7 q8 q9 q10 q11 q12 q13 q14 q15 q16 q17 q18 q19 q20 : Sl}: mVar 21 E Q (q0 :: q1 :: q2 :: q3 :: q4 :: q5 :: q6 :: q7 :: q8 :: q9 :: q10 :: q11 :: q12 :: q13 :: q14 :: q15 :: q16 :: q17 :: q18 :: q19 :: q20 :: .fz d :: S) = Q (.val d) (q0 :: q1 :: q2 :: q3 :: q4 :: q5 :: q6 :: q7 :: q8 :: q9 :: q10 :: q11 :: q12 :: q13 :: q14 :: q15 :: q16 :: q17 :: q18 :: q19 :: q20 :: .fz d :: S) := by simp [mVar]
@[simp] theorem vo21 {q0 q1 q2 q3 q4 q5 q6 q7 q8 q9 q10 q11 q12 q13 q14 q15 q16 q17 q18 q19 q20 : Sl}: mOwn 21 E Q (q0 :: q1 :: q2 :: q3 :: q4 :: q5 :: q6 :: q7 :: q8 :: q9 :: q10 :: q11 :: q12 :: q13 :: q14 :: q15 :: q16 :: q17 :: q18 :: q19 :: q20 :: .ow o :: S) = Q (.slot 21) (q0 :: q1 :: q2 :: q3 :: q4 :: q5 :: q6 :: q7 :: q8 :: q9 :: q10 :: q11 :: q12 :: q13 :: q14 :: q15 :: q16 :: q17 :: q18 :: q19 :: q20 :: .ow o :: S) := by simp [mOwn]
@[simp] theorem vw21 {q0 q1 q2 q3 q4 q5 q6 q7 q8 q9 q10 q11 q12 q13 q14 q15 q16 q17 q18 q19 q20 : Sl}: mOwn 21 E Q (q0 :: q1 :: q2 :: q3 :: q4 :: q5 :: q6 :: q7 :: q8 :: q9 :: q10 :: q11 :: q12 :: q13 :: q14 :: q15 :: q16 :: q17 :: q18 :: q19 :: q20 :: .fz d :: S) = Q (.val d) (q0 :: q1 :: q2 :: q3 :: q4 :: q5 :: q6 :: q7 :: q8 :: q9 :: q10 :: q11 :: q12 :: q13 :: q14 :: q15 :: q16 :: q17 :: q18 :: q19 :: q20 :: .fz d :: S) := by simp [mOwn]
@[simp] theorem vs21 {q0 q1 q2 q3 q4 q5 q6 q7 q8 q9 q10 q11 q12 q13 q14 q15 q16 q17 q18 q19 q20 : Sl}: slQ (q0 :: q1 :: q2 :: q3 :: q4 :: q5 :: q6 :: q7 :: q8 :: q9 :: q10 :: q11 :: q12 :: q13 :: q14 :: q15 :: q16 :: q17 :: q18 :: q19 :: q20 :: .ow o :: S) 21 ko = ko o := by simp [slQ]
@[simp] theorem vl21 {q0 q1 q2 q3 q4 q5 q6 q7 q8 q9 q10 q11 q12 q13 q14 q15 q16 q17 q18 q19 q20 : Sl}{kl : List D → Prop} : luQ (q0 :: q1 :: q2 :: q3 :: q4 :: q5 :: q6 :: q7 :: q8 :: q9 :: q10 :: q11 :: q12 :: q13 :: q14 :: q15 :: q16 :: q17 :: q18 :: q19 :: q20 :: .ow (.lst xs) :: S) 21 kl = kl xs := by simp [luQ]
@[simp] theorem vd21 {q0 q1 q2 q3 q4 q5 q6 q7 q8 q9 q10 q11 q12 q13 q14 q15 q16 q17 q18 q19 q20 : Sl}{kl : List (Key × D) → Prop} : duQ (q0 :: q1 :: q2 :: q3 :: q4 :: q5 :: q6 :: q7 :: q8 :: q9 :: q10 :: q11 :: q12 :: q13 :: q14 :: q15 :: q16 :: q17 :: q18 :: q19 :: q20 :: .ow (.dK kvs) :: S) 21 kl = kl kvs := by simp [duQ]
@[simp] theorem vg21 {q0 q1 q2 q3 q4 q5 q6 q7 q8 q9 q10 q11 q12 q13 q14 q15 q16 q17 q18 q19 q20 : Sl}{gg : Int → Int → Int} {me : ME} {Z : MEnds} : sAug gg 21 me Z (q0 :: q1 :: q2 :: q3 :: q4 :: q5 :: q6 :: q7 :: q8 :: q9 :: q10 :: q11 :: q12 :: q13 :: q14 :: q15 :: q16 :: q17 :: q18 :: q19 :: q20 :: .fz (.int x) :: S) = me Z.ex (kAu gg 21 x Z) (q0 :: q1 :: q2 :: q3 :: q4 :: q5 :: q6 :: q7 :: q8 :: q9 :: q10 :: q11 :: q12 :: q13 :: q14 :: q15 :: q16 :: q17 :: q18 :: q19 :: q20 :: .fz (.int x) :: S) := propext ⟨fun ⟨_, e, q⟩ => by simp at e; subst e; exact q, fun q => ⟨_, by simp, q⟩⟩
@[simp] theorem vt21 {q0 q1 q2 q3 q4 q5 q6 q7 q8 q9 q10 q11 q12 q13 q14 q15 q16 q17 q18 q19 q20 : Sl}: setQ (q0 :: q1 :: q2 :: q3 :: q4 :: q5 :: q6 :: q7 :: q8 :: q9 :: q10 :: q11 :: q12 :: q13 :: q14 :: q15 :: q16 :: q17 :: q18 :: q19 :: q20 :: p :: S) 21 q kf = kf (q0 :: q1 :: q2 :: q3 :: q4 :: q5 :: q6 :: q7 :: q8 :: q9 :: q10 :: q11 :: q12 :: q13 :: q14 :: q15 :: q16 :: q17 :: q18 :: q19 :: q20 :: q :: S) := id rfl
@[simp] theorem va22 {q0 q1 q2 q3 q4 q5 q6 q7 q8 q9 q10 q11 q12 q13 q14 q15 q16 q17 q18 q19 q20 q21 : Sl}: mVar 22 E Q (q0 :: q1 :: q2 :: q3 :: q4 :: q5 :: q6 :: q7 :: q8 :: q9 :: q10 :: q11 :: q12 :: q13 :: q14 :: q15 :: q16 :: q17 :: q18 :: q19 :: q20 :: q21 :: .fz d :: S) = Q (.val d) (q0 :: q1 :: q2 :: q3 :: q4 :: q5 :: q6 :: q7 :: q8 :: q9 :: q10 :: q11 :: q12 :: q13 :: q14 :: q15 :: q16 :: q17 :: q18 :: q19 :: q20 :: q21 :: .fz d :: S) := by simp [mVar]
@[simp] theorem vo22 {q0 q1 q2 q3 q4 q5 q6 q7 q8 q9 q10 q11 q12 q13 q14 q15 q16 q17 q18 q19 q20 q21 : Sl}: mOwn 22 E Q (q0 :: q1 :: q2 :: q3 :: q4 :: q5 :: q6 :: q7 :: q8 :: q9 :: q10 :: q11 :: q12 :: q13 :: q14 :: q15 :: q16 :: q17 :: q18 :: q19 :: q20 :: q21 :: .ow o :: S) = Q (.slot 22) (q0 :: q1 :: q2 :: q3 :: q4 :: q5 :: q6 :: q7 :: q8 :: q9 :: q10 :: q11 :: q12 :: q13 :: q14 :: q15 :: q16 :: q17 :: q18 :: q19 :: q20 :: q21 :: .ow o :: S) := by simp [mOwn]
@[simp] theorem vw22 {q0 q1 q2 q3 q4 q5 q6 q7 q8 q9 q10 q11 q12 q13 q14 q15 q16 q17 q18 q19 q20 q21 : Sl}: mOwn 22 E Q (q0 :: q1 :: q2 :: q3 :: q4 :: q5 :: q6 :: q7 :: q8 :: q9 :: q10 :: q11 :: q12 :: q13 :: q14 :: q15 :: q16 :: q17 :: q18 :: q19 :: q20 :: q21 :: .fz d :: S) = Q (.val d) (q0 :: q1 :: q2 :: q3 :: q4 :: q5 :: q6 :: q7 :: q8 :: q9 :: q10 :: q11 :: q12 :: q13 :: q14 :: q15 :: q16 :: q17 :: q18 :: q19 :: q20 :: q21 :: .fz d :: S) := by simp [mOwn]
@[simp] theorem vs22 {q0 q1 q2 q3 q4 q5 q6 q7 q8 q9 q10 q11 q12 q13 q14 q15 q16 q17 q18 q19 q20 q21 : Sl}: slQ (q0 :: q1 :: q2 :: q3 :: q4 :: q5 :: q6 :: q7 :: q8 :: q9 :: q10 :: q11 :: q12 :: q13 :: q14 :: q15 :: q16 :: q17 :: q18 :: q19 :: q20 :: q21 :: .ow o :: S) 22 ko = ko o := by simp [slQ]
@[simp] theorem vl22 {q0 q1 q2 q3 q4 q5 q6 q7 q8 q9 q10 q11 q12 q13 q14 q15 q16 q17 q18 q19 q20 q21 : Sl}{kl : List D → Prop} : luQ (q0 :: q1 :: q2 :: q3 :: q4 :: q5 :: q6 :: q7 :: q8 :: q9 :: q10 :: q11 :: q12 :: q13 :: q14 :: q15 :: q16 :: q17 :: q18 :: q19 :: q20 :: q21 :: .ow (.lst xs) :: S) 22 kl = kl xs := by simp [luQ]
@[simp] theorem vd22 {q0 q1 q2 q3 q4 q5 q6 q7 q8 q9 q10 q11 q12 q13 q14 q15 q16 q17 q18 q19 q20 q21 : Sl}{kl : List (Key × D) → Prop} : duQ (q0 :: q1 :: q2 :: q3 :: q4 :: q5 :: q6 :: q7 :: q8 :: q9 :: q10 :: q11 :: q12 :: q13 :: q14 :: q15 :: q16 :: q17 :: q18 :: q19 :: q20 :: q21 :: .ow (.dK kvs) :: S) 22 kl = kl kvs := by simp [duQ]
@[simp] theorem vg22 {q0 q1 q2 q3 q4 q5 q6 q7 q8 q9 q10 q11 q12 q13 q14 q15 q16 q17 q18 q19 q20 q21 : Sl}{gg : Int → Int → Int} {me : ME} {Z : MEnds} : sAug gg 22 me Z (q0 :: q1 :: q2 :: q3 :: q4 :: q5 :: q6 :: q7 :: q8 :: q9 :: q10 :: q11 :: q12 :: q13 :: q14 :: q15 :: q16 :: q17 :: q18 :: q19 :: q20 :: q21 :: .fz (.int x) :: S) = me Z.ex (kAu gg 22 x Z) (q0 :: q1 :: q2 :: q3 :: q4 :: q5 :: q6 :: q7 :: q8 :: q9 :: q10 :: q11 :: q12 :: q13 :: q14 :: q15 :: q16 :: q17 :: q18 :: q19 :: q20 :: q21 :: .fz (.int x) :: S) := propext ⟨fun ⟨_, e, q⟩ => by simp at e; subst e; exact q, fun q => ⟨_, by simp, q⟩⟩
@[simp] theorem vt22 {q0 q1 q2 q3 q4 q5 q6 q7 q8 q9 q10 q11 q12 q13 q14 q15 q16 q17 q18 q19 q20 q21 : Sl}: setQ (q0 :: q1 :: q2 :: q3 :: q4 :: q5 :: q6 :: q7 :: q8 :: q9 :: q10 :: q11 :: q12 :: q13 :: q14 :: q15 :: q16 :: q17 :: q18 :: q19 :: q20 :: q21 :: p :: S) 22 q kf = kf (q0 :: q1 :: q2 :: q3 :: q4 :: q5 :: q6 :: q7 :: q8 :: q9 :: q10 :: q11 :: q12 :: q13 :: q14 :: q15 :: q16 :: q17 :: q18 :: q19 :: q20 :: q21 :: q :: S) := id rfl
@[simp] theorem va23 {q0 q1 q2 q3 q4 q5 q6 q7 q8 q9 q10 q11 q12 q13 q14 q15 q16 q17 q18 q19 q20 q21 q22 : Sl}: mVar 23 E Q (q0 :: q1 :: q2 :: q3 :: q4 :: q5 :: q6 :: q7 :: q8 :: q9 :: q10 :: q11 :: q12 :: q13 :: q14 :: q15 :: q16 :: q17 :: q18 :: q19 :: q20 :: q21 :: q22 :: .fz d :: S) = Q (.val d) (q0 :: q1 :: q2 :: q3 :: q4 :: q5 :: q6 :: q7 :: q8 :: q9 :: q10 :: q11 :: q12 :: q13 :: q14 :: q15 :: q16 :: q17 :: q18 :: q19 :: q20 :: q21 :: q22 :: .fz d :: S) := by simp [mVar]
@[simp] theorem vo23 {q0 q1 q2 q3 q4 q5 q6 q7 q8 q9 q10 q11 q12 q13 q14 q15 q16 q17 q18 q19 q20 q21 q22 : Sl}: mOwn 23 E Q (q0 :: q1 :: q2 :: q3 :: q4 :: q5 :: q6 :: q7 :: q8 :: q9 :: q10 :: q11 :: q12 :: q13 :: q14 :: q15 :: q16 :: q17 :: q18 :: q19 :: q20 :: q21 :: q22 :: .ow o :: S) = Q (.slot 23) (q0 :: q1 :: q2 :: q3 :: q4 :: q5 :: q6 :: q7 :: q8 :: q9 :: q10 :: q11 :: q12 :: q13 :: q14 :: q15 :: q16 :: q17 :: q18 :: q19 :: q20 :: q21 :: q22 :: .ow o :: S) := by simp [mOwn]
@[simp] theorem vw23 {q0 q1 q2 q3 q4 q5 q6 q7 q8 q9 q10 q11 q12 q13 q14 q15 q16 q17 q18 q19 q20 q21 q22 : Sl}: mOwn 23 E Q (q0 :: q1 :: q2 :: q3 :: q4 :: q5 :: q6 :: q7 :: q8 :: q9 :: q10 :: q11 :: q12 :: q13 :: q14 :: q15 :: q16 :: q17 :: q18 :: q19 :: q20 :: q21 :: q22 :: .fz d :: S) = Q (.val d) (q0 :: q1 :: q2 :: q3 :: q4 :: q5 :: q6 :: q7 :: q8 :: q9 :: q10 :: q11 :: q12 :: q13 :: q14 :: q15 :: q16 :: q17 :: q18 :: q19 :: q20 :: q21 :: q22 :: .fz d :: S) := by simp [mOwn]
@[simp] theorem vs23 {q0 q1 q2 q3 q4 q5 q6 q7 q8 q9 q10 q11 q12 q13 q14 q15 q16 q17 q18 q19 q20 q21 q22 : Sl}: slQ (q0 :: q1 :: q2 :: q3 :: q4 :: q5 :: q6 :: q7 :: q8 :: q9 :: q10 :: q11 :: q12 :: q13 :: q14 :: q15 :: q16 :: q17 :: q18 :: q19 :: q20 :: q21 :: q22 :: .ow o :: S) 23 ko = ko o := by simp [slQ]
@[simp] theorem vl23 {q0 q1 q2 q3 q4 q5 q6 q7 q8 q9 q10 q11 q12 q13 q14 q15 q16 q17 q18 q19 q20 q21 q22 : Sl}{kl : List D → Prop} : luQ (q0 :: q1 :: q2 :: q3 :: q4 :: q5 :: q6 :: q7 :: q8 :: q9 :: q10 :: q11 :: q12 :: q13 :: q14 :: q15 :: q16 :: q17 :: q18 :: q19 :: q20 :: q21 :: q22 :: .ow (.lst xs) :: S) 23 kl = kl xs := by simp [luQ]
@[simp] theorem vd23 {q0 q1 q2 q3 q4 q5 q6 q7 q8 q9 q10 q11 q12 q13 q14 q15 q16 q17 q18 q19 q20 q21 q22 : Sl}{kl : List (Key × D) → Prop} : duQ (q0 :: q1 :: q2 :: q3 :: q4 :: q5 :: q6 :: q7 :: q8 :: q9 :: q10 :: q11 :: q12 :: q13 :: q14 :: q15 :: q16 :: q17 :: q18 :: q19 :: q20 :: q21 :: q22 :: .ow (.dK kvs) :: S) 23 kl = kl kvs := by simp [duQ]
@[simp] theorem vg23 {q0 q1 q2 q3 q4 q5 q6 q7 q8 q9 q10 q11 q12 q13 q14 q15 q16 q17 q18 q19 q20 q21 q22 : Sl}{gg : Int → Int → Int} {me : ME} {Z : MEnds} : sAug gg 23 me Z (q0 :: q1 :: q2 :: q3 :: q4 :: q5 :: q6 :: q7 :: q8 :: q9 :: q10 :: q11 :: q12 :: q13 :: q14 :: q15 :: q16 :: q17 :: q18 :: q19 :: q20 :: q21 :: q22 :: .fz (.int x) :: S) = me Z.ex (kAu gg 23 x Z) (q0 :: q1 :: q2 :: q3 :: q4 :: q5 :: q6 :: q7 :: q8 :: q9 :: q10 :: q11 :: q12 :: q13 :: q14 :: q15 :: q16 :: q17 :: q18 :: q19 :: q20 :: q21 :: q22 :: .fz (.int x) :: S) := propext ⟨fun ⟨_, e, q⟩ => by simp at e; subst e; exact q, fun q => ⟨_, by simp, q⟩⟩
@[simp] theorem vt23 {q0 q1 q2 q3 q4 q5 q6 q7 q8 q9 q10 q11 q12 q13 q14 q15 q16 q17 q18 q19 q20 q21 q22 : Sl}: setQ (q0 :: q1 :: q2 :: q3 :: q4 :: q5 :: q6 :: q7 :: q8 :: q9 :: q10 :: q11 :: q12 :: q13 :: q14 :: q15 :: q16 :: q17 :: q18 :: q19 :: q20 :: q21 :: q22 :: p :: S) 23 q kf = kf (q0 :: q1 :: q2 :: q3 :: q4 :: q5 :: q6 :: q7 :: q8 :: q9 :: q10 :: q11 :: q12 :: q13 :: q14 :: q15 :: q16 :: q17 :: q18 :: q19 :: q20 :: q21 :: q22 :: q :: S) := id rfl
@[simp] theorem va24 {q0 q1 q2 q3 q4 q5 q6 q7 q8 q9 q10 q11 q12 q13 q14 q15 q16 q17 q18 q19 q20 q21 q22 q23 : Sl}: mVar 24 E Q (q0 :: q1 :: q2 :: q3 :: q4 :: q5 :: q6 :: q7 :: q8 :: q9 :: q10 :: q11 :: q12 :: q13 :: q14 :: q15 :: q16 :: q17 :: q18 :: q19 :: q20 :: q21 :: q22 :: q23 :: .fz d :: S) = Q (.val d) (q0 :: q1 :: q2 :: q3 :: q4 :: q5 :: q6 :: q7 :: q8 :: q9 :: q10 :: q11 :: q12 :: q13 :: q14 :: q15 :: q16 :: q17 :: q18 :: q19 :: q20 :: q21 :: q22 :: q23 :: .fz d :: S) := by simp [mVar]
@[simp] theorem vo24 {q0 q1 q2 q3 q4 q5 q6 q7 q8 q9 q10 q11 q12 q13 q14 q15 q16 q17 q18 q19 q20 q21 q22 q23 : Sl}: mOwn 24 E Q (q0 :: q1 :: q2 :: q3 :: q4 :: q5 :: q6 :: q7 :: q8 :: q9 :: q10 :: q11 :: q12 :: q13 :: q14 :: q15 :: q16 :: q17 :: q18 :: q19 :: q20 :: q21 :: q22 :: q23 :: .ow o :: S) = Q (.slot 24) (q0 :: q1 :: q2 :: q3 :: q4 :: q5 :: q6 :: q7 :: q8 :: q9 :: q10 :: q11 :: q12 :: q13 :: q14 :: q15 :: q16 :: q17 :: q18 :: q19 :: q20 :: q21 :: q22 :: q23 :: .ow o :: S) := by simp [mOwn]
@[simp] theorem vw24 {q0 q1 q2 q3 q4 q5 q6 q7 q8 q9 q10 q11 q12 q13 q14 q15 q16 q17 q18 q19 q20 q21 q22 q23 : Sl}: mOwn 24 E Q (q0 :: q1 :: q2 :: q3 :: q4 :: q5 :: q6 :: q7 :: q8 :: q9 :: q10 :: q11 :: q12 :: q13 :: q14 :: q15 :: q16 :: q17 :: q18 :: q19 :: q20 :: q21 :: q22 :: q23 :: .fz d :: S) = Q (.val d) (q0 :: q1 :: q2 :: q3 :: q4 :: q5 :: q6 :: q7 :: q8 :: q9 :: q10 :: q11 :: q12 :: q13 :: q14 :: q15 :: q16 :: q17 :: q18 :: q19 :: q20 :: q21 :: q22 :: q23 :: .fz d :: S) := by simp [mOwn]
@[simp] theorem vs24 {q0 q1 q2 q3 q4 q5 q6 q7 q8 q9 q10 q11 q12 q13 q14 q15 q16 q17 q18 q19 q20 q21 q22 q23 : Sl}: slQ (q0 :: q1 :: q2 :: q3 :: q4 :: q5 :: q6 :: q7 :: q8 :: q9 :: q10 :: q11 :: q12 :: q13 :: q14 :: q15 :: q16 :: q17 :: q18 :: q19 :: q20 :: q21 :: q22 :: q23 :: .ow o :: S) 24 ko = ko o := by simp [slQ]
@[simp] theorem vl24 {q0 q1 q2 q3 q4 q5 q6 q7 q8 q9 q10 q11 q12 q13 q14 q15 q16 q17 q18 q19 q20 q21 q22 q23 : Sl}{kl : List D → Prop} : luQ (q0 :: q1 :: q2 :: q3 :: q4 :: q5 :: q6 :: q7 :: q8 :: q9 :: q10 :: q11 :: q12 :: q13 :: q14 :: q15 :: q16 :: q17 :: q18 :: q19 :: q20 :: q21 :: q22 :: q23 :: .ow (.lst xs) :: S) 24 kl = kl xs := by simp [luQ]
@[simp] theorem vd24 {q0 q1 q2 q3 q4 q5 q6 q7 q8 q9 q10 q11 q12 q13 q14 q15 q16 q17 q18 q19 q20 q21 q22 q23 : Sl}{kl : List (Key × D) → Prop} : duQ (q0 :: q1 :: q2 :: q3 :: q4 :: q5 :: q6 :: q7 :: q8 :: q9 :: q10 :: q11 :: q12 :: q13 :: q14 :: q15 :: q16 :: q17 :: q18 :: q19 :: q20 :: q21 :: q22 :: q23 :: .ow (.dK kvs) :: S) 24 kl = kl kvs := by simp [duQ]
@[simp] theorem vg24 {q0 q1 q2 q3 q4 q5 q6 q7 q8 q9 q10 q11 q12 q13 q14 q15 q16 q17 q18 q19 q20 q21 q22 q23 : Sl}{gg : Int → Int → Int} {me : ME} {Z : MEnds} : sAug gg 24 me Z (q0 :: q1 :: q2 :: q3 :: q4 :: q5 :: q6 :: q7 :: q8 :: q9 :: q10 :: q11 :: q12 :: q13 :: q14 :: q15 :: q16 :: q17 :: q18 :: q19 :: q20 :: q21 :: q22 :: q23 :: .fz (.int x) :: S) = me Z.ex (kAu gg 24 x Z) (q0 :: q1 :: q2 :: q3 :: q4 :: q5 :: q6 :: q7 :: q8 :: q9 :: q10 :: q11 :: q12 :: q13 :: q14 :: q15 :: q16 :: q17 :: q18 :: q19 :: q20 :: q21 :: q22 :: q23 :: .fz (.int x) :: S) := propext ⟨fun ⟨_, e, q⟩ => by simp at e; subst e; exact q, fun q => ⟨_, by simp, q⟩⟩
@[simp] theorem vt24 {q0 q1 q2 q3 q4 q5 q6 q7 q8 q9 q10 q11 q12 q13 q14 q15 q16 q17 q18 q19 q20 q21 q22 q23 : Sl}: setQ (q0 :: q1 :: q2 :: q3 :: q4 :: q5 :: q6 :: q7 :: q8 :: q9 :: q10 :: q11 :: q12 :: q13 :: q14 :: q15 :: q16 :: q17 :: q18 :: q19 :: q20 :: q21 :: q22 :: q23 :: p :: S) 24 q kf = kf (q0 :: q1 :: q2 :: q3 :: q4 :: q5 :: q6 :: q7 :: q8 :: q9 :: q10 :: q11 :: q12 :: q13 :: q14 :: q15 :: q16 :: q17 :: q18 :: q19 :: q20 :: q21 :: q22 :: q23 :: q :: S) := id rfl
@[simp] theorem va25 {q0 q1 q2 q3 q4 q5 q6 q7 q8 q9 q10 q11 q12 q13 q14 q15 q16 q17 q18 q19 q20 q21 q22 q23 q24 : Sl}: mVar 25 E Q (q0 :: q1 :: q2 :: q3 :: q4 :: q5 :: q6 :: q7 :: q8 :: q9 :: q10 :: q11 :: q12 :: q13 :: q14 :: q15 :: q16 :: q17 :: q18 :: q19 :: q20 :: q21 :: q22 :: q23 :: q24 :: .fz d :: S) = Q (.val d) (q0 :: q1 :: q2 :: q3 :: q4 :: q5 :: q6 :: q7 :: q8 :: q9 :: q10 :: q11 :: q12 :: q13 :: q14 :: q15 :: q16 :: q17 :: q18 :: q19 :: q20 :: q21 :: q22 :: q23 :: q24 :: .fz d :: S) := by simp [mVar]
@[simp] theorem vo25 {q0 q1 q2 q3 q4 q5 q6 q7 q8 q9 q10 q11 q12 q13 q14 q15 q16 q17 q18 q19 q20 q21 q22 q23 q24 : Sl}: mOwn 25 E Q (q0 :: q1 :: q2 :: q3 :: q4 :: q5 :: q6 :: q7 :: q8 :: q9 :: q10 :: q11 :: q12 :: q13 :: q14 :: q15 :: q16 :: q17 :: q18 :: q19 :: q20 :: q21 :: q22 :: q23 :: q24 :: .ow o :: S) = Q (.slot 25) (q0 :: q1 :: q2 :: q3 :: q4 :: q5 :: q6 :: q7 :: q8 :: q9 :: q10 :: q11 :: q12 :: q13 :: q14 :: q15 :: q16 :: q17 :: q18 :: q19 :: q20 :: q21 :: q22 :: q23 :: q24 :: .ow o :: S) := by simp [mOwn]
@[simp] theorem vw25 {q0 q1 q2 q3 q4 q5 q6 q7 q8 q9 q10 q11 q12 q13 q14 q15 q16 q17 q18 q19 q20 q21 q22 q23 q24 : Sl}: mOwn 25 E Q (q0 :: q1 :: q2 :: q3 :: q4 :: q5 :: q6 :: q7 :: q8 :: q9 :: q10 :: q11 :: q12 :: q13 :: q14 :: q15 :: q16 :: q17 :: q18 :: q19 :: q20 :: q21 :: q22 :: q23 :: q24 :: .fz d :: S) = Q (.val d) (q0 :: q1 :: q2 :: q3 :: q4 :: q5 :: q6 :: q7 :: q8 :: q9 :: q10 :: q11 :: q12 :: q13 :: q14 :: q15 :: q16 :: q17 :: q18 :: q19 :: q20 :: q21 :: q22 :: q23 :: q24 :: .fz d :: S) := by simp [mOwn]
@[simp] theorem vs25 {q0 q1 q2 q3 q4 q5 q6 q7 q8 q9 q10 q11 q12 q13 q14 q15 q16 q17 q18 q19 q20 q21 q22 q23 q24 : Sl}: slQ (q0 :: q1 :: q2 :: q3 :: q4 :: q5 :: q6 :: q7 :: q8 :: q9 :: q10 :: q11 :: q12 :: q13 :: q14 :: q15 :: q16 :: q17 :: q18 :: q19 :: q20 :: q21 :: q22 :: q23 :: q24 :: .ow o :: S) 25 ko = ko o := by simp [slQ]
@[simp] theorem vl25 {q0 q1 q2 q3 q4 q5 q6 q7 q8 q9 q10 q11 q12 q13 q14 q15 q16 q17 q18 q19 q20 q21 q22 q23 q24 : Sl}{kl : List D → Prop} : luQ (q0 :: q1 :: q2 :: q3 :: q4 :: q5 :: q6 :: q7 :: q8 :: q9 :: q10 :: q11 :: q12 :: q13 :: q14 :: q15 :: q16 :: q17 :: q18 :: q19 :: q20 :: q21 :: q22 :: q23 :: q24 :: .ow (.lst xs) :: S) 25 kl = kl xs := by simp [luQ]
@[simp] theorem vd25 {q0 q1 q2 q3 q4 q5 q6 q7 q8 q9 q10 q11 q12 q13 q14 q15 q16 q17 q18 q19 q20 q21 q22 q23 q24 : Sl}{kl : List (Key × D) → Prop} : duQ (q0 :: q1 :: q2 :: q3 :: q4 :: q5 :: q6 :: q7 :: q8 :: q9 :: q10 :: q11 :: q12 :: q13 :: q14 :: q15 :: q16 :: q17 :: q18 :: q19 :: q20 :: q21 :: q22 :: q23 :: q24 :: .ow (.dK kvs) :: S) 25 kl = kl kvs := by simp [duQ]
@[simp] theorem vg25 {q0 q1 q2 q3 q4 q5 q6 q7 q8 q9 q10 q11 q12 q13 q14 q15 q16 q17 q18 q19 q20 q21 q22 q23 q24 : Sl}{gg : Int → Int → Int} {me : ME} {Z : MEnds} : sAug gg 25 me Z (q0 :: q1 :: q2 :: q3 :: q4 :: q5 :: q6 :: q7 :: q8 :: q9 :: q10 :: q11 :: q12 :: q13 :: q14 :: q15 :: q16 :: q17 :: q18 :: q19 :: q20 :: q21 :: q22 :: q23 :: q24 :: .fz (.int x) :: S) = me Z.ex (kAu gg 25 x Z) (q0 :: q1 :: q2 :: q3 :: q4 :: q5 :: q6 :: q7 :: q8 :: q9 :: q10 :: q11 :: q12 :: q13 :: q14 :: q15 :: q16 :: q17 :: q18 :: q19 :: q20 :: q21 :: q22 :: q23 :: q24 :: .fz (.int x) :: S) := propext ⟨fun ⟨_, e, q⟩ => by simp at e; subst e; exact q, fun q => ⟨_, by simp, q⟩⟩
@[simp] theorem vt25 {q0 q1 q2 q3 q4 q5 q6 q7 q8 q9 q10 q11 q12 q13 q14 q15 q16 q17 q18 q19 q20 q21 q22 q23 q24 : Sl}: setQ (q0 :: q1 :: q2 :: q3 :: q4 :: q5 :: q6 :: q7 :: q8 :: q9 :: q10 :: q11 :: q12 :: q13 :: q14 :: q15 :: q16 :: q17 :: q18 :: q19 :: q20 :: q21 :: q22 :: q23 :: q24 :: p :: S) 25 q kf = kf (q0 :: q1 :: q2 :: q3 :: q4 :: q5 :: q6 :: q7 :: q8 :: q9 :: q10 :: q11 :: q12 :: q13 :: q14 :: q15 :: q16 :: q17 :: q18 :: q19 :: q20 :: q21 :: q22 :: q23 :: q24 :: q :: S) := id rfl
@[simp] theorem va26 {q0 q1 q2 q3 q4 q5 q6 q7 q8 q9 q10 q11 q12 q13 q14 q15 q16 q17 q18 q19 q20 q21 q22 q23 q24 q25 : Sl}: mVar 26 E Q (q0 :: q1 :: q2 :: q3 :: q4 :: q5 :: q6 :: q7 :: q8 :: q9 :: q10 :: q11 :: q12 :: q13 :: q14 :: q15 :: q16 :: q17 :: q18 :: q19 :: q20 :: q21 :: q22 :: q23 :: q24 :: q25 :: .fz d :: S) = Q (.val d) (q0 :: q1 :: q2 :: q3 :: q4 :: q5 :: q6 :: q7 :: q8 :: q9 :: q10 :: q11 :: q12 :: q13 :: q14 :: q15 :: q16 :: q17 :: q18 :: q19 :: q20 :: q21 :: q22 :: q23 :: q24 :: q25 :: .fz d :: S) := by simp [mVar]
@[simp] theorem vo26 {q0 q1 q2 q3 q4 q5 q6 q7 q8 q9 q10 q11 q12 q13 q14 q15 q16 q17 q18 q19 q20 q21 q22 q23 q24 q25 : Sl}: mOwn 26 E Q (q0 :: q1 :: q2 :: q3 :: q4 :: q5 :: q6 :: q7 :: q8 :: q9 :: q10 :: q11 :: q12 :: q13 :: q14 :: q15 :: q16 :: q17 :: q18 :: q19 :: q20 :: q21 :: q22 :: q23 :: q24 :: q25 :: .ow o :: S) = Q (.slot 26) (q0 :: q1 :: q2 :: q3 :: q4 :: q5 :: q6 :: q7 :: q8 :: q9 :: q10 :: q11 :: q12 :: q13 :: q14 :: q15 :: q16 :: q17 :: q18 :: q19 :: q20 :: q21 :: q22 :: q23 :: q24 :: q25 :: .ow o :: S) := by simp [mOwn]
@[simp] theorem vw26 {q0 q1 q2 q3 q4 q5 q6 q7 q8 q9 q10 q11 q12 q13 q14 q15 q16 q17 q18 q19 q20 q21 q22 q23 q24 q25 : Sl}: mOwn 26 E Q (q0 :: q1 :: q2 :: q3 :: q4 :: q5 :: q6 :: q7 :: q8 :: q9 :: q10 :: q11 :: q12 :: q13 :: q14 :: q15 :: q16 :: q17 :: q18 :: q19 :: q20 :: q21 :: q22 :: q23 :: q24 :: q25 :: .fz d :: S) = Q (.val d) (q0 :: q1 :: q2 :: q3 :: q4 :: q5 :: q6 :: q7 :: q8 :: q9 :: q10 :: q11 :: q12 :: q13 :: q14 :: q15 :: q16 :: q17 :: q18 :: q19 :: q20 :: q21 :: q22 :: q23 :: q24 :: q25 :: .fz d :: S) := by simp [mOwn]
@[simp] theorem vs26 {q0 q1 q2 q3 q4 q5 q6 q7 q8 q9 q10 q11 q12 q13 q14 q15 q16 q17 q18 q19 q20 q21 q22 q23 q24 q25 : Sl}: slQ (q0 :: q1 :: q2 :: q3 :: q4 :: q5 :: q6 :: q7 :: q8 :: q9 :: q10 :: q11 :: q12 :: q13 :: q14 :: q15 :: q16 :: q17 :: q18 :: q19 :: q20 :: q21 :: q22 :: q23 :: q24 :: q25 :: .ow o :: S) 26 ko = ko o := by simp [slQ]
@[simp] theorem vl26 {q0 q1 q2 q3 q4 q5 q6 q7 q8 q9 q10 q11 q12 q13 q14 q15 q16 q17 q18 q19 q20 q21 q22 q23 q24 q25 : Sl}{kl : List D → Prop} : luQ (q0 :: q1 :: q2 :: q3 :: q4 :: q5 :: q6 :: q7 :: q8 :: q9 :: q10 :: q11 :: q12 :: q13 :: q14 :: q15 :: q16 :: q17 :: q18 :: q19 :: q20 :: q21 :: q22 :: q23 :: q24 :: q25 :: .ow (.lst xs) :: S) 26 kl = kl xs := by simp [luQ]
@[simp] theorem vd26 {q0 q1 q2 q3 q4 q5 q6 q7 q8 q9 q10 q11 q12 q13 q14 q15 q16 q17 q18 q19 q20 q21 q22 q23 q24 q25 : Sl}{kl : List (Key × D) → Prop} : duQ (q0 :: q1 :: q2 :: q3 :: q4 :: q5 :: q6 :: q7 :: q8 :: q9 :: q10 :: q11 :: q12 :: q13 :: q14 :: q15 :: q16 :: q17 :: q18 :: q19 :: q20 :: q21 :: q22 :: q23 :: q24 :: q25 :: .ow (.dK kvs) :: S) 26 kl = kl kvs := by simp [duQ]
@[simp] theorem vg26 {q0 q1 q2 q3 q4 q5 q6 q7 q8 q9 q10 q11 q12 q13 q14 q15 q16 q17 q18 q19 q20 q21 q22 q23 q24 q25 : Sl}{gg : Int → Int → Int} {me : ME} {Z : MEnds} : sAug gg 26 me Z (q0 :: q1 :: q2 :: q3 :: q4 :: q5 :: q6 :: q7 :: q8 :: q9 :: q10 :: q11 :: q12 :: q13 :: q14 :: q15 :: q16 :: q17 :: q18 :: q19 :: q20 :: q21 :: q22 :: q23 :: q24 :: q25 :: .fz (.int x) :: S) = me Z.ex (kAu gg 26 x Z) (q0 :: q1 :: q2 :: q3 :: q4 :: q5 :: q6 :: q7 :: q8 :: q9 :: q10 :: q11 :: q12 :: q13 :: q14 :: q15 :: q16 :: q17 :: q18 :: q19 :: q20 :: q21 :: q22 :: q23 :: q24 :: q25 :: .fz (.int x) :: S) := propext ⟨fun ⟨_, e, q⟩ => by simp at e; subst e; exact q, fun q => ⟨_, by simp, q⟩⟩
@[simp] theorem vt26 {q0 q1 q2 q3 q4 q5 q6 q7 q8 q9 q10 q11 q12 q13 q14 q15 q16 q17 q18 q19 q20 q21 q22 q23 q24 q25 : Sl}: setQ (q0 :: q1 :: q2 :: q3 :: q4 :: q5 :: q6 :: q7 :: q8 :: q9 :: q10 :: q11 :: q12 :: q13 :: q14 :: q15 :: q16 :: q17 :: q18 :: q19 :: q20 :: q21 :: q22 :: q23 :: q24 :: q25 :: p :: S) 26 q kf = kf (q0 :: q1 :: q2 :: q3 :: q4 :: q5 :: q6 :: q7 :: q8 :: q9 :: q10 :: q11 :: q12 :: q13 :: q14 :: q15 :: q16 :: q17 :: q18 :: q19 :: q20 :: q21 :: q22 :: q23 :: q24 :: q25 :: q :: S) := id rfl
@[simp] theorem va27 {q0 q1 q2 q3 q4 q5 q6 q7 q8 q9 q10 q11 q12 q13 q14 q15 q16 q17 q18 q19 q20 q21 q22 q23 q24 q25 q26 : Sl}: mVar 27 E Q (q0 :: q1 :: q2 :: q3 :: q4 :: q5 :: q6 :: q7 :: q8 :: q9 :: q10 :: q11 :: q12 :: q13 :: q14 :: q15 :: q16 :: q17 :: q18 :: q19 :: q20 :: q21 :: q22 :: q23 :: q24 :: q25 :: q26 :: .fz d :: S) = Q (.val d) (q0 :: q1 :: q2 :: q3 :: q4 :: q5 :: q6 :: q7 :: q8 :: q9 :: q10 :: q11 :: q12 :: q13 :: q14 :: q15 :: q16 :: q17 :: q18 :: q19 :: q20 :: q21 :: q22 :: q23 :: q24 :: q25 :: q26 :: .fz d :: S) := by simp [mVar]
@[simp] theorem vo27 {q0 q1 q2 q3 q4 q5 q6 q7 q8 q9 q10 q11 q12 q13 q14 q15 q16 q17 q18 q19 q20 q21 q22 q23 q24 q25 q26 : Sl}: mOwn 27 E Q (q0 :: q1 :: q2 :: q3 :: q4 :: q5 :: q6 :: q7 :: q8 :: q9 :: q10 :: q11 :: q12 :: q13 :: q14 :: q15 :: q16 :: q17 :: q18 :: q19 :: q20 :: q21 :: q22 :: q23 :: q24 :: q25 :: q26 :: .ow o :: S) = Q (.slot 27) (q0 :: q1 :: q2 :: q3 :: q4 :: q5 :: q6 :: q7 :: q8 :: q9 :: q10 :: q11 :: q12 :: q13 :: q14 :: q15 :: q16 :: q17 :: q18 :: q19 :: q20 :: q21 :: q22 :: q23 :: q24 :: q25 :: q26 :: .ow o :: S) := by simp [mOwn]
@[simp] theorem vw27 {q0 q1 q2 q3 q4 q5 q6 q7 q8 q9 q10 q11 q12 q13 q14 q15 q16 q17 q18 q19 q20 q21 q22 q23 q24 q25 q26 : Sl}: mOwn 27 E Q (q0 :: q1 :: q2 :: q3 :: q4 :: q5 :: q6 :: q7 :: q8 :: q9 :: q10 :: q11 :: q12 :: q13 :: q14 :: q15 :: q16 :: q17 :: q18 :: q19 :: q20 :: q21 :: q22 :: q23 :: q24 :: q25 :: q26 :: .fz d :: S) = Q (.val d) (q0 :: q1 :: q2 :: q3 :: q4 :: q5 :: q6 :: q7 :: q8 :: q9 :: q10 :: q11 :: q12 :: q13 :: q14 :: q15 :: q16 :: q17 :: q18 :: q19 :: q20 :: q21 :: q22 :: q23 :: q24 :: q25 :: q26 :: .fz d :: S) := by simp [mOwn]
@[simp] theorem vs27 {q0 q1 q2 q3 q4 q5 q6 q7 q8 q9 q10 q11 q12 q13 q14 q15 q16 q17 q18 q19 q20 q21 q22 q23 q24 q25 q26 : Sl}: slQ (q0 :: q1 :: q2 :: q3 :: q4 :: q5 :: q6 :: q7 :: q8 :: q9 :: q10 :: q11 :: q12 :: q13 :: q14 :: q15 :: q16 :: q17 :: q18 :: q19 :: q20 :: q21 :: q22 :: q23 :: q24 :: q25 :: q26 :: .ow o :: S) 27 ko = ko o := by simp [slQ]
@[simp] theorem vl27 {q0 q1 q2 q3 q4 q5 q6 q7 q8 q9 q10 q11 q12 q13 q14 q15 q16 q17 q18 q19 q20 q21 q22 q23 q24 q25 q26 : Sl}{kl : List D → Prop} : luQ (q0 :: q1 :: q2 :: q3 :: q4 :: q5 :: q6 :: q7 :: q8 :: q9 :: q10 :: q11 :: q12 :: q13 :: q14 :: q15 :: q16 :: q17 :: q18 :: q19 :: q20 :: q21 :: q22 :: q23 :: q24 :: q25 :: q26 :: .ow (.lst xs) :: S) 27 kl = kl xs := by simp [luQ]
@[simp] theorem vd27 {q0 q1 q2 q3 q4 q5 q6 q7 q8 q9 q10 q11 q12 q13 q14 q15 q16 q17 q18 q19 q20 q21 q22 q23 q24 q25 q26 : Sl}{kl : List (Key × D) → Prop} : duQ (q0 :: q1 :: q2 :: q3 :: q4 :: q5 :: q6 :: q7 :: q8 :: q9 :: q10 :: q11 :: q12 :: q13 :: q14 :: q15 :: q16 :: q17 :: q18 :: q19 :: q20 :: q21 :: q22 :: q23 :: q24 :: q25 :: q26 :: .ow (.dK kvs) :: S) 27 kl = kl kvs := by simp [duQ]
@[simp] theorem vg27 {q0 q1 q2 q3 q4 q5 q6 q7 q8 q9 q10 q11 q12 q13 q14 q15 q16 q17 q18 q19 q20 q21 q22 q23 q24 q25 q26 : Sl}{gg : Int → Int → Int} {me : ME} {Z : MEnds} : sAug gg 27 me Z (q0 :: q1 :: q2 :: q3 :: q4 :: q5 :: q6 :: q7 :: q8 :: q9 :: q10 :: q11 :: q12 :: q13 :: q14 :: q15 :: q16 :: q17 :: q18 :: q19 :: q20 :: q21 :: q22 :: q23 :: q24 :: q25 :: q26 :: .fz (.int x) :: S) = me Z.ex (kAu gg 27 x Z) (q0 :: q1 :: q2 :: q3 :: q4 :: q5 :: q6 :: q7 :: q8 :: q9 :: q10 :: q11 :: q12 :: q13 :: q14 :: q15 :: q16 :: q17 :: q18 :: q19 :: q20 :: q21 :: q22 :: q23 :: q24 :: q25 :: q26 :: .fz (.int x) :: S) := propext ⟨fun ⟨_, e, q⟩ => by simp at e; subst e; exact q, fun q => ⟨_, by simp, q⟩⟩
@[simp] theorem vt27 {q0 q1 q2 q3 q4 q5 q6 q7 q8 q9 q10 q11 q12 q13 q14 q15 q16 q17 q18 q19 q20 q21 q22 q23 q24 q25 q26 : Sl}: setQ (q0 :: q1 :: q2 :: q3 :: q4 :: q5 :: q6 :: q7 :: q8 :: q9 :: q10 :: q11 :: q12 :: q13 :: q14 :: q15 :: q16 :: q17 :: q18 :: q19 :: q20 :: q21 :: q22 :: q23 :: q24 :: q25 :: q26 :: p :: S) 27 q kf = kf (q0 :: q1 :: q2 :: q3 :: q4 :: q5 :: q6 :: q7 :: q8 :: q9 :: q10 :: q11 :: q12 :: q13 :: q14 :: q15 :: q16 :: q17 :: q18 :: q19 :: q20 :: q21 :: q22 :: q23 :: q24 :: q25 :: q26 :: q :: S) := id rfl
end
def bodyQ (b : MS) (Z : MEnds) (N : Fm → Prop) (S : Fm) : Prop := b ⟨N, Z.rt, Z.nx, N, Z.ex⟩ S
@[simp] theorem ap_bodyQ {b : MS} {nx bk ct N : Fm → Prop} {rt : QE} {ex : EX} {S : Fm} : bodyQ b ⟨nx, rt, bk, ct, ex⟩ N S = b ⟨N, rt, nx, N, ex⟩ S := id rfl
def whN (I : Nat → Fm → Prop) (m : Nat) (S : Fm) : Prop := ∃ m', m' < m ∧ I m' S
def kWl (b : MS) (Z : MEnds) (I : Nat → Fm → Prop) (m : Nat) (k : Bool) (S : Fm) : Prop := if k = true then b ⟨whN I m, Z.rt, Z.nx, whN I m, Z.ex⟩ S else Z.nx S
@[simp] theorem ap_kWl {b : MS} {I : Nat → Fm → Prop} {m : Nat} {k : Bool} {nx bk ct : Fm → Prop} {rt : QE} {ex : EX} {S : Fm} : kWl b ⟨nx, rt, bk, ct, ex⟩ I m k S = if k = true then b ⟨whN I m, rt, nx, whN I m, ex⟩ S else nx S := id rfl
theorem while_by {c : MT} {b : MS} {Z : MEnds} {S : Fm} (I : Nat → Fm → Prop) (m : Nat) (h : I m S) (s : ∀ m S, I m S → c Z.ex (kWl b Z I m) S) : sWhile c b Z S := ⟨I, ⟨m, h⟩, fun m S h => s m S h⟩
theorem forW_inv {g : MG} {b : MS} {Z : MEnds} (I : Nat → Fm → Prop) : ∀ (ds : List D) (S : Fm) (n : Nat), I n S →
    (∀ i d S (N : Fm → Prop), ds[i]? = some d → I (n + i) S → (∀ S', I (n + i + 1) S' → N S') → g d S (bodyQ b Z N)) →
    (∀ S, I (n + ds.length) S → Z.nx S) → forW g b Z ds S
  | [], S, n, h, _, e => e S h
  | d :: ds, S, n, h, s, e => by
    rw [forW]
    refine s 0 d S _ rfl h fun S' h' => forW_inv I ds S' (n + 1) h' (fun i d' S2 N hd hi hn => ?_) fun S2 h2 => e S2 (by rw [List.length_cons, show n + (ds.length + 1) = n + 1 + ds.length by omega]; exact h2)
    have e1 : n + 1 + i = n + (i + 1) := by omega
    exact s (i + 1) d' S2 N (by simpa using hd) (by rw [← e1]; exact hi) fun S' q => hn S' (by rw [← e1] at q; exact q)
theorem forW_rng {g : MG} {b : MS} {Z : MEnds} (I : Nat → Fm → Prop) (n : Nat) (S : Fm) (h : I 0 S)
    (s : ∀ i S (N : Fm → Prop), i < n → I i S → (∀ S', I (i + 1) S' → N S') → g (.int (i : Nat)) S (bodyQ b Z N))
    (e : ∀ S, I n S → Z.nx S) : forW g b Z (rngD 0 n) S :=
  forW_inv I _ S 0 h (fun i d S N hd hi hn => by
    have hl : i < n := by
      by_cases c : i < n
      · exact c
      · rw [List.getElem?_eq_none (by simp [rngD]; omega)] at hd; cases hd
    have e1 : d = .int (i : Nat) := by
      simp [rngD, hl] at hd
      exact hd.symm
    subst e1
    rw [Nat.zero_add] at hi hn
    exact s i S N hl hi hn) fun S h => e S (by simpa [rngD] using h)
theorem lcW_inv {n : Nat} {vs : List Nat} {g : MG} {mt : MT} {me : ME} {kk : List D → Fm → Prop} (I : Nat → List D → Fm → Prop) : ∀ (ds acc : List D) (S : Fm) (b : Nat), I b acc S →
    (∀ i d acc S (N : List D → Fm → Prop), ds[i]? = some d → I (b + i) acc S → (∀ acc' S', I (b + i + 1) acc' S' → N acc' S') → g d S (lcK1 n vs mt me acc N)) →
    (∀ acc S, I (b + ds.length) acc S → kk acc S) → lcW n vs g mt me ds acc S kk
  | [], acc, S, b, h, _, e => e acc S h
  | d :: ds, acc, S, b, h, s, e => by
    rw [lcW_cons]
    refine s 0 d acc S _ rfl h fun acc' S' h' => lcW_inv I ds acc' S' (b + 1) h' (fun i d' acc2 S2 N hd hi hn => ?_) fun acc2 S2 h2 => e acc2 S2 (by rw [List.length_cons, show b + (ds.length + 1) = b + 1 + ds.length by omega]; exact h2)
    have e1 : b + 1 + i = b + (i + 1) := by omega
    exact s (i + 1) d' acc2 S2 N (by simpa using hd) (by rw [← e1]; exact hi) fun acc3 S' q => hn acc3 S' (by rw [← e1] at q; exact q)
theorem lcW_map {n : Nat} {vs : List Nat} {g : MG} {mt : MT} {me : ME} {kk : List D → Fm → Prop} (f : D → D) : ∀ (ds acc : List D) (S : Fm),
    (∀ d acc (N : List D → Fm → Prop), d ∈ ds → acc.length < 16777216 → N (acc ++ [f d]) S → g d S (lcK1 n vs mt me acc N)) →
    acc.length + ds.length ≤ 16777216 → kk (acc ++ ds.map f) S → lcW n vs g mt me ds acc S kk
  | [], acc, S, _, _, e => by simpa [lcW] using e
  | d :: ds, acc, S, s, hl, e => by
    rw [lcW_cons]
    rw [List.length_cons] at hl
    refine s d acc _ (by simp) (by omega) (lcW_map f ds _ S (fun d' acc' N hd => s d' acc' N (by simp [hd])) (by simp; omega) (by simpa using e))
theorem forW_any {g : MG} {b : MS} {Z : MEnds} (I : Nat → Fm → Prop) (ds : List D) (S : Fm) (h : I 0 S)
    (s : ∀ i d S (N : Fm → Prop), ds[i]? = some d → I i S → (∀ S', I (i + 1) S' → N S') → g d S (bodyQ b Z N))
    (e : ∀ S, I ds.length S → Z.nx S) : forW g b Z ds S :=
  forW_inv I ds S 0 h (fun i d S N hd hi hn => by rw [Nat.zero_add] at hi hn; exact s i d S N hd hi hn) fun S h => e S (by rw [Nat.zero_add] at h; exact h)
theorem ixN_nat {n i : Nat} (h : i < n) : L2.ixN n (i : Int) = some i := by simp [L2.ixN, h]
@[simp] theorem cut_to {α : Type} (xs : List α) (n : Nat) : cutD xs none (some (n : Int)) = xs.take n := by
  rw [cutD, HT.sIx_nat, HT.sIx_none, Nat.sub_zero, List.drop_zero]
  by_cases h : n ≤ xs.length
  · rw [show min n xs.length = n by omega]
  · rw [show min n xs.length = xs.length by omega, List.take_of_length_le (Nat.le_refl _), List.take_of_length_le (by omega)]
@[simp] theorem cut_from {α : Type} (xs : List α) (n : Nat) : cutD xs (some (n : Int)) none = xs.drop n := by
  rw [cutD, HT.sIx_nat, HT.sIx_none]
  by_cases h : n ≤ xs.length
  · rw [show min n xs.length = n by omega, List.take_of_length_le (by simp)]
  · rw [show min n xs.length = xs.length by omega, List.drop_of_length_le (Nat.le_refl _), List.drop_of_length_le (by omega), List.take_nil]
theorem cut_mid {α : Type} (xs : List α) (a b : Nat) (h : b ≤ xs.length) : cutD xs (some (a : Int)) (some (b : Int)) = (xs.drop a).take (b - a) := by
  rw [cutD, HT.sIx_nat, HT.sIx_nat, show min b xs.length = b by omega]
  by_cases h2 : a ≤ xs.length
  · rw [show min a xs.length = a by omega]
  · rw [show min a xs.length = xs.length by omega, List.drop_of_length_le (Nat.le_refl _), List.drop_of_length_le (by omega)]; simp
@[simp] theorem cut_all {α : Type} (xs : List α) : cutD xs none none = xs := by
  simp [cutD, HT.sIx]
@[simp] theorem outP_nil (k : Nat) (S : Fm) : outP [] k S = List.replicate k .un := by
  rw [List.eq_replicate_iff]
  simp [outP]
@[simp] theorem atI_nat {α : Type} (xs : List α) (i : Nat) : L2.atI xs (i : Int) = xs[i]? := by
  have e : ¬ ((i : Int) < 0) := by omega
  by_cases c : i < xs.length
  · simp [L2.atI, L2.ixN, c]
  · have z : xs[i]? = none := List.getElem?_eq_none (by omega)
    simp [L2.atI, L2.ixN, c]
@[simp] theorem bx_nat (a b : Nat) : Builtin.bitXor (a : Int) (b : Int) = ((a ^^^ b : Nat) : Int) := by
  rw [Bits.bitXor_pp (Int.natCast_nonneg a) (Int.natCast_nonneg b), Int.toNat_natCast, Int.toNat_natCast]
@[simp] theorem ba_nat (a b : Nat) : Builtin.bitAnd (a : Int) (b : Int) = ((a &&& b : Nat) : Int) := by
  rw [PyProof.Rows.bitAnd_pp (Int.natCast_nonneg a) (Int.natCast_nonneg b), Int.toNat_natCast, Int.toNat_natCast]
@[simp] theorem atI_lit {α : Type} (xs : List α) (n : Nat) : L2.atI xs (no_index (OfNat.ofNat n : Int)) = xs[n]? := Mv.atI_nat xs n
@[simp] theorem ixN_lit (m n : Nat) : L2.ixN m (no_index (OfNat.ofNat n : Int)) = if n < m then some n else none := by
  show L2.ixN m ((n : Nat) : Int) = _
  simp [L2.ixN]
@[simp] theorem atI_zero {α : Type} (xs : List α) : L2.atI xs 0 = xs[0]? := Mv.atI_nat xs 0
@[simp] theorem atI_one {α : Type} (xs : List α) : L2.atI xs 1 = xs[1]? := Mv.atI_nat xs 1
end Mv

/-! Mv: more readings walked by simp. -/
namespace Mv
open PySem L2
def kFk (g : MG) (b : MS) (Z : MEnds) (r : R) (S : Fm) : Prop := match fzR r with
  | .val (.dK kvs) => forW g b { Z with ex := noE } (keysD kvs) S
  | _ => False
def kLk (n : Nat) (vs : List Nat) (g : MG) (mt : MT) (me : ME) (Q : QE) (r : R) (S : Fm) : Prop := match fzR r with
  | .val (.dK kvs) => kLc n vs g mt me Q (keysD kvs) S
  | _ => False
def kPo2 (i : Nat) (Q : QE) (kd : D) (S : Fm) (kvs : List (Key × D)) : Prop := ∃ key d, keyD kd = some key ∧ valD kvs key = some d ∧ setQ S i (.ow (.dK (dropKD kvs key))) (Q (.val d))
def kPo1 (i : Nat) (Q : QE) (r : R) (S : Fm) : Prop := match r with
  | .val kd => duQ S i (kPo2 i Q kd S)
  | _ => False
def kPo0 (me : ME) (E : EX) (i : Nat) (Q : QE) (S : Fm) (_ : List (Key × D)) : Prop := me E (kPo1 i Q) S
def kDi2 (ks : List Str) (Q : QE) (S : Fm) (ds : List D) : Prop := ds.length = ks.length ∧ Q (.own (.dK (mergeKD [] ((ks.map Sum.inr).zip ds)))) S
def kDi1 (ks : List Str) (Q : QE) (rs : List R) (S : Fm) : Prop := valsOf rs (kDi2 ks Q S)
section
variable {E : EX} {Q : QE} {S : Fm} {nx bk ct : Fm → Prop} {rt : QE} {ex : EX} {n i : Nat} {vs : List Nat} {m me : ME} {ta : MT} {g : MG} {b : MS} {kvs : List (Key × D)} {d kd : D} {Z : MEnds} {ma : MA} {rs : List R} {ds : List D} {ks : List Str}
@[simp] theorem ap_sForK : sForK m g b ⟨nx, rt, bk, ct, ex⟩ S = m ex (kFk g b ⟨nx, rt, bk, ct, ex⟩) S := id rfl
@[simp] theorem ap_kFk : kFk g b ⟨nx, rt, bk, ct, ex⟩ (.val (.dK kvs)) S = forW g b ⟨nx, rt, bk, ct, noE⟩ (keysD kvs) S := id rfl
@[simp] theorem ap_kFko : kFk g b ⟨nx, rt, bk, ct, ex⟩ (.own (.dK kvs)) S = forW g b ⟨nx, rt, bk, ct, noE⟩ (keysD kvs) S := id rfl
@[simp] theorem ap_mLcK : mLcK n vs m g ta me E Q S = m E (kLk n vs g ta me Q) S := id rfl
@[simp] theorem ap_kLk : kLk n vs g ta me Q (.val (.dK kvs)) S = kLc n vs g ta me Q (keysD kvs) S := id rfl
@[simp] theorem ap_kLko : kLk n vs g ta me Q (.own (.dK kvs)) S = kLc n vs g ta me Q (keysD kvs) S := id rfl
@[simp] theorem ap_mPopK : mPopK i me E Q S = duQ S i (kPo0 me E i Q S) := id rfl
@[simp] theorem ap_kPo0 {x : List (Key × D)} : kPo0 me E i Q S x = me E (kPo1 i Q) S := id rfl
@[simp] theorem ap_kPo1 : kPo1 i Q (.val kd) S = duQ S i (kPo2 i Q kd S) := id rfl
@[simp] theorem ap_kPo2 : kPo2 i Q kd S kvs = ∃ key d, keyD kd = some key ∧ valD kvs key = some d ∧ setQ S i (.ow (.dK (dropKD kvs key))) (Q (.val d)) := id rfl
@[simp] theorem ap_mDisp : mDisp ks ma E Q S = ma E (kDi1 ks Q) S := id rfl
@[simp] theorem ap_kDi1 : kDi1 ks Q rs S = valsOf rs (kDi2 ks Q S) := id rfl
@[simp] theorem ap_kDi2 : kDi2 ks Q S ds = (ds.length = ks.length ∧ Q (.own (.dK (mergeKD [] ((ks.map Sum.inr).zip ds)))) S) := id rfl
@[simp] theorem ap_mData0 : mData [] = mNil := id rfl
@[simp] theorem ap_mData1 : mData (d :: ds) = mCons (mC d) (mData ds) := id rfl
@[simp] theorem dSl_str {t : Str} {lo hi : Option Int} {kr : R → Prop} : dSl (.str t) lo hi kr = (t.length ≤ 16777216 ∧ kr (.val (.str (cutS t lo hi)))) := id rfl
@[simp] theorem dLen_dK {kr : R → Prop} : dLen [.dK kvs] kr = kr (.val (.int kvs.length)) := id rfl
@[simp] theorem dStr_str {t : Str} {kr : R → Prop} : dStr [.str t] kr = kr (.val (.str t)) := id rfl
end
end Mv

/-! Mv: still more readings walked by simp. -/
namespace Mv
open PySem L2
section
@[simp] theorem ap_notB {b1 b2 : Bool} {kr : R → Prop} : dNotB (.bl b1) (.bl b2) kr = kr (.val (.bl (!(b1 == b2)))) := id rfl
variable {E : EX} {Q : QE} {S : Fm} {nx bk ct : Fm → Prop} {rt : QE} {ex : EX} {i c0 k c1 : Nat} {sa : MS} {mt0 : Nat → Bool} {su0 : Addr → Addr → Nat → MS} {cs0 : List ((Nat → Bool) × (Addr → Addr → Nat → MS))} {xd0 : XD} {fs0 : List (Str × D)} {a dx a' dx' : Addr} {b : Bool} {kr : R → Prop} {c' : Nat}
@[simp] theorem ap_tryMA : sTryMA i cs0 sa ⟨nx, rt, bk, ct, ex⟩ S = sa ⟨nx, rt, bk, ct, trySuA i ⟨nx, rt, bk, ct, ex⟩ cs0⟩ S := id rfl
@[simp] theorem ap_trySuA0 : trySuA i ⟨nx, rt, bk, ct, ex⟩ [] xd0 S = ex xd0 S := id rfl
@[simp] theorem ap_trySuA1 : trySuA i ⟨nx, rt, bk, ct, ex⟩ ((mt0, su0) :: cs0) ⟨c0, fs0⟩ S = if mt0 c0 = true then suQ i su0 c0 fs0 ⟨kUn i nx, rt, kUn i bk, kUn i ct, exNo⟩ S else trySuA i ⟨nx, rt, bk, ct, ex⟩ cs0 ⟨c0, fs0⟩ S := id rfl
@[simp] theorem ap_isX : dIsX a dx k c1 c0 b [.exo a' dx' fs0, .cls c'] kr = (a' = a ∧ dx' = dx ∧ k = c1 ∧ c' = c0 ∧ kr (.val (.bl b))) := id rfl
def kLr (Q : QE) (r : R) (S : Fm) : Prop := match r with
  | .val (.int j) => 0 ≤ j ∧ j ≤ 16777216 ∧ Q (.own (.lst (rngD 0 j.toNat))) S
  | _ => False
@[simp] theorem ap_lstRg {me : ME} : mLstRg me E Q S = me E (kLr Q) S := id rfl
@[simp] theorem ap_kLr {j : Int} : kLr Q (.val (.int j)) S = (0 ≤ j ∧ j ≤ 16777216 ∧ Q (.own (.lst (rngD 0 j.toNat))) S) := id rfl
def kLe (Q : QE) (r : R) (S : Fm) : Prop := match fzR r with
  | .val (.lst xs) => Q (.own (.lst (enD xs))) S
  | .val (.rol xs) => Q (.own (.lst (enD xs))) S
  | .val (.tup xs) => Q (.own (.lst (enD xs))) S
  | .val (.rot xs) => Q (.own (.lst (enD xs))) S
  | _ => False
variable {me : ME} {xs : List D}
@[simp] theorem ap_lstEn : mLstEn me E Q S = me E (kLe Q) S := id rfl
@[simp] theorem ap_kLe1 : kLe Q (.val (.lst xs)) S = Q (.own (.lst (enD xs))) S := id rfl
@[simp] theorem ap_kLe2 : kLe Q (.val (.rol xs)) S = Q (.own (.lst (enD xs))) S := id rfl
@[simp] theorem ap_kLe3 : kLe Q (.val (.tup xs)) S = Q (.own (.lst (enD xs))) S := id rfl
@[simp] theorem ap_kLe4 : kLe Q (.val (.rot xs)) S = Q (.own (.lst (enD xs))) S := id rfl
@[simp] theorem ap_kLe5 : kLe Q (.own (.lst xs)) S = Q (.own (.lst (enD xs))) S := id rfl
variable {fs : FS} {ma : MA} {rs : List R} {o : O} {d : D}
def kCL (fs : FS) (Q : QE) (rs : List R) (S1 : Fm) : Prop := kK1 fs eLn (qLn S1 Q) (rs.map (lnR S1)) (S1.map frzS)
@[simp] theorem ap_callL : mCallL fs ma E Q S = ma E (kCL fs Q) S := id rfl
@[simp] theorem ap_kCL : kCL fs Q rs S = kK1 fs eLn (qLn S Q) (rs.map (lnR S)) (S.map frzS) := id rfl
@[simp] theorem ap_lnR1 : lnR S (.val d) = .val d := id rfl
@[simp] theorem ap_lnR2 : lnR S (.slot i) = lnS i S[i]? := id rfl
@[simp] theorem ap_lnS1 : lnS i (some (.ow o)) = .val (frzO o) := id rfl
@[simp] theorem ap_lnS2 : lnS i (some (.fz d)) = .val d := id rfl
def kPr1 (i j : Nat) (nx : Fm → Prop) (rs : List R) (S : Fm) : Prop := valsOf rs fun ds => ∃ d e, ds = [d, e] ∧ nx ((S.set i (.fz d)).set j (.fz e))
def kPr2 (j : Nat) (e : D) (nx : Fm → Prop) (S : Fm) : Prop := setQ S j (.fz e) nx
@[simp] theorem ap_kPr2 {j : Nat} {e : D} : kPr2 j e nx S = setQ S j (.fz e) nx := id rfl
@[simp] theorem ap_par {j : Nat} : sPar i j ma ⟨nx, rt, bk, ct, ex⟩ S = ma ex (kPr1 i j nx) S := id rfl
@[simp] theorem ap_kPr1 {j : Nat} {e : D} : kPr1 i j nx [.val d, .val e] S = setQ S i (.fz d) (kPr2 j e nx) := by
  refine propext ⟨?_, fun h => ⟨_, _, rfl, h⟩⟩
  rintro ⟨d', e', he, h⟩
  cases he
  exact h
def kDg1 (i : Nat) (mf : ME) (E : EX) (Q : QE) (r : R) (S1 : Fm) : Prop := match r with
  | .val kd => mf E (fun r2 S2 => match r2 with
    | .val dd => duQ S2 i fun kvs => ∃ key, keyD kd = some key ∧ Q (.val ((valD kvs key).getD dd)) S2
    | _ => False) S1
  | _ => False
def kDg2 (i : Nat) (kd : D) (Q : QE) (r2 : R) (S2 : Fm) : Prop := match r2 with
  | .val dd => duQ S2 i fun kvs => ∃ key, keyD kd = some key ∧ Q (.val ((valD kvs key).getD dd)) S2
  | _ => False
variable {mf : ME} {kd dd : D}
@[simp] theorem ap_dget2 : mDGet2 i me mf E Q S = duQ S i fun _ => me E (kDg1 i mf E Q) S := id rfl
@[simp] theorem ap_kDg1 : kDg1 i mf E Q (.val kd) S = mf E (kDg2 i kd Q) S := id rfl
@[simp] theorem ap_kDg2 : kDg2 i kd Q (.val dd) S = duQ S i fun kvs => ∃ key, keyD kd = some key ∧ Q (.val ((valD kvs key).getD dd)) S := id rfl
@[simp] theorem frz_box {es : List El} : frzO (.box .lst es) = .lst (frzEs es) := by rw [frzO, frzE]
@[simp] theorem frzEs_0 : frzEs [] = [] := by rw [frzEs]
@[simp] theorem frzEs_1 {e : El} {es : List El} : frzEs (e :: es) = frzE e :: frzEs es := by rw [frzEs]
@[simp] theorem frzE_d {d : D} : frzE (.d d) = d := by rw [frzE]
@[simp] theorem frzE_l {ys : List D} : frzE (eL ys) = .lst ys := frz_eL
@[simp] theorem eL_inj {xs ys : List D} : (eL xs = eL ys) = (xs = ys) := by
  refine propext ⟨fun h => ?_, fun h => by rw [h]⟩
  have := congrArg frzE h
  rw [frz_eL, frz_eL] at this
  exact D.lst.inj this
variable {lop : DMu} {ds : List D} {kb : List El → Fm → Prop} {kl : List El → Prop} {j : Nat}
@[simp] theorem buQ_d : buQ S i kl = ∃ es, S[i]? = some (Sl.ow (.box .lst es)) ∧ kl es := id rfl
@[simp] theorem ap_mutB : mMutB i j lop E Q S = buQ S i fun es => ∃ ys, es[j]? = some (eL ys) ∧ lop ys [] fun ys' d => Q (.val d) (S.set i (.ow (.box .lst (es.set j (eL ys'))))) := id rfl
def kPB (i j : Nat) (nx : Fm → Prop) (r : R) (S1 : Fm) : Prop := match fzR r with
  | .val d => buQ S1 i fun es => ∃ x, es[j]? = some (.d x) ∧ nx (S1.set i (.ow (.box .lst (es.set j (.d d)))))
  | _ => False
@[simp] theorem ap_putB : sPutB i j me ⟨nx, rt, bk, ct, ex⟩ S = me ex (kPB i j nx) S := id rfl
@[simp] theorem ap_kPB1 {d : D} : kPB i j nx (.val d) S = buQ S i fun es => ∃ x, es[j]? = some (.d x) ∧ nx (S.set i (.ow (.box .lst (es.set j (.d d))))) := id rfl
@[simp] theorem ap_kPB2 {o : O} : kPB i j nx (.own o) S = buQ S i fun es => ∃ x, es[j]? = some (.d x) ∧ nx (S.set i (.ow (.box .lst (es.set j (.d (frzO o)))))) := id rfl
def kBx (Q : QE) (rs : List R) (S : Fm) : Prop := boxQ rs S fun es S2 => es.length ≤ 16777216 ∧ Q (.own (.box .lst es)) S2
@[simp] theorem ap_boxL : mBoxL ma E Q S = ma E (kBx Q) S := id rfl
@[simp] theorem ap_kBx : kBx Q rs S = boxQ rs S fun es S2 => es.length ≤ 16777216 ∧ Q (.own (.box .lst es)) S2 := id rfl
@[simp] theorem boxQ_0 : boxQ [] S kb = kb [] S := id rfl
@[simp] theorem boxQ_1 {d : D} : boxQ (.val d :: rs) S kb = boxQ rs S fun es S2 => kb (.d d :: es) S2 := id rfl
@[simp] theorem boxQ_2 : boxQ (.slot i :: rs) S kb = luQ S i fun xs => boxQ rs (S.set i .un) fun es S2 => kb (eL xs :: es) S2 := id rfl
end
end Mv

/-! Mv: repr, in the law's own frame: there no repr is under way (the guards are none). -/
namespace Mv
open PySem PySem.Spec PyProof.Rows L2
/-! ### repr -/
def seqR : D → Bool
  | .lst _ => true | .rol _ => true | .tup _ => true | .rot _ => true
  | _ => false
/-- what repr can be asked of, and the bound of its text -/
def Rp (n B : Nat) (d : D) : Prop := eqOk n d = true ∧ (toP d).showable = true ∧ (toP d).shown.length ≤ B
def dRepr : DOpL := d1 fun d k => (seqR d = true ∧ Rp 64 16777216 d) ∧ k (.val (.str (toP d).shown))
section
variable {X : Cx} {cl : Nat → Addr}
theorem b_repr (hg : X.A.guards = some []) (hu : X.A.units + 200 < cLine) : CallR X (.builtin "repr") (rL X.K cl dRepr) := c1 fun pins s σ H v u Q F d Q0 I r sm p q P => by
  obtain ⟨⟨hs, h1, h2, h3⟩, q⟩ := q
  have dp := p.dp sm h1
  obtain ⟨lay, dep⟩ := eqOk_lay 64 d h1
  have rv : RelV v u := by cases r with | cons a b => exact a
  obtain ⟨as, rd⟩ := Dp.reads I (toP d) v u dp rv
  have hu' : ∃ a, u = .ref a := by
    cases d with
    | lst xs => rw [toP] at rd; cases rd; exact ⟨_, rfl⟩
    | rol xs => rw [toP] at rd; cases rd; exact ⟨_, rfl⟩
    | tup xs => rw [toP] at rd; cases rd; exact ⟨_, rfl⟩
    | rot xs => rw [toP] at rd; cases rd; exact ⟨_, rfl⟩
    | _ => cases hs
  obtain ⟨a, rfl⟩ := hu'
  exact repr_of_reads' rd h2 (PyData.noDict_hsm (PyData.hasDict_of_canLay _ lay)) hg (by omega) (fun _ _ e => e) (fun h' u tk hk => ⟨.str _, H, I.kept hk, ⟨_, rfl⟩, P.str sm q⟩) (by rw [sizeLine_eq]; exact h3)
end
/-! bounds -/
theorem Rp.mono {n B C : Nat} {d : D} (h : Rp n B d) (hb : B ≤ C) : Rp n C d := ⟨h.1, h.2.1, Nat.le_trans h.2.2 hb⟩
theorem Rp.all {n B : Nat} : ∀ {xs : List D}, (∀ x ∈ xs, Rp n B x) → eqOkL n xs = true ∧ PyData.showableAll (toPL xs) = true ∧ ((PyData.shownAll (toPL xs)).map (·.length)).sum ≤ xs.length * B ∧ (PyData.shownAll (toPL xs)).length = xs.length
  | [], _ => by simp [eqOkL, toPL, PyData.showableAll, PyData.shownAll]
  | x :: xs, h => by
    obtain ⟨a1, a2, a3, a4⟩ := Rp.all (xs := xs) fun y hy => h y (List.mem_cons_of_mem _ hy)
    obtain ⟨b1, b2, b3⟩ := h x List.mem_cons_self
    refine ⟨by simp [eqOkL, a1, b1], by simp [toPL, PyData.showableAll, a2, b2], ?_, by simp [toPL, PyData.shownAll, a4]⟩
    simp only [toPL, PyData.shownAll, List.map_cons, List.sum_cons, List.length_cons, Nat.succ_mul]
    omega
theorem Rp.lst {n B : Nat} {xs : List D} (h : ∀ x ∈ xs, Rp n B x) : Rp (n + 1) (xs.length * B + 2 * xs.length + 3) (.lst xs) := by
  obtain ⟨a1, a2, a3, a4⟩ := Rp.all h
  refine ⟨by rw [eqOk]; exact a1, by rw [toP]; exact a2, ?_⟩
  rw [toP]
  show (listText (PyData.shownAll (toPL xs))).length ≤ _
  have := listText_len_le (PyData.shownAll (toPL xs))
  omega
theorem Rp.tup {n B : Nat} {xs : List D} (h : ∀ x ∈ xs, Rp n B x) : Rp (n + 1) (xs.length * B + 2 * xs.length + 3) (.tup xs) := by
  obtain ⟨a1, a2, a3, a4⟩ := Rp.all h
  refine ⟨by rw [eqOk]; exact a1, by rw [toP]; exact a2, ?_⟩
  rw [toP]
  show (tupleText (PyData.shownAll (toPL xs))).length ≤ _
  have := tupleText_len_le (PyData.shownAll (toPL xs))
  omega
/-! ### the law's def, called where no repr is under way -/
structure FnG (P : Program) (w : World) (K : PySem.W.Frag) (mg : Str → Option Value) (base : Heap) (CX : CXT) (k : Nat) (f : Addr) (fd : FuncData) (ps : List Str) (sp : Sp) : Prop where
  len : ∀ vs H Q E, sp vs H Q E → vs.length = ps.length
  run : ∀ (A : Around) (outer : List Env) (s : Shared) (H : Hp) (args : PySem.Args) (us : List Value) (vs : List V) (Q : VK) (E : XK), Room k A → A.guards = some [] → Env0 P w K mg base A outer s H → BindsTo s fd args (ps.zip us) → Vals vs us → sp vs H Q E →
    codeAny (model P w) A (.call (.ref f) args) (CR CX outer P w H s Q E) s
theorem fn_ofG {CX : CXT} {P : Program} {w : World} {K : PySem.W.Frag} {mg : Str → Option Value} {base : Heap} {k : Nat} {f : Addr} {name qual : Str} {params : Arguments} {body : List Stmt} {scope : Scope} {dV kV doc pm cdv ct oc : Value} {an od : Option Addr}
    {osl : Array (Option Value)} {N ps : List Str} {sp : Sp} (lk : K.lookup f = some ⟨oc, od, .func (PySem.W.fnOf name qual params body scope dV kV doc pm an cdv ct), osl⟩) (hcd : PySem.W.codeIn K cdv qual = true) (S : FnScope N ps scope)
    (len : ∀ vs H Q E, sp vs H Q E → vs.length = ps.length)
    (hbody : ∀ (A : Around) (outer : List Env) (s : Shared) (H : Hp) (vs : List V) (Q : VK) (E : XK), Room k (A.deeper (envOfC qual scope s.heap.objs.size f cdv)) → A.guards = some [] → sp vs H Q E →
      ∃ t, PSs (cxOf CX P w K mg base N qual scope f cdv A outer s H E) body t ∧ t { nx := fun _ H' => Q .non H', rt := Q } (L2.start N vs) H) :
    FnG P w K mg base CX (k + 1) f (PySem.W.fnOf name qual params body scope dV kV doc pm an cdv ct) ps sp := by
  refine ⟨len, fun A outer s H args us vs Q E hr hgd e0 hb r hsp => ?_⟩
  have hl := len _ _ _ _ hsp
  have KX : K.In s.heap := e0.mod.kin.keeps fun b o e => (e0.bs b o e).1
  have lim : s.heap.NoLimit := e0.mod.nolimit.keeps fun b o e => (e0.bs b o e).1
  refine codeAny_call_function hr.depth (KX _ _ lk) rfl S.co S.gen rfl (PySem.W.codeRec_of KX hcd) (hb _ _ _ _ ?_)
  refine wpAny_newFunctionEnv_cells S.kind (fun ⟨n, v⟩ hy => (S.par n (List.of_mem_zip hy).1).imp_right fun q => ⟨q, PySem.W.cellsFrom_some _ _ _ (.inl q)⟩) fun env he s1 x => ?_
  subst he
  refine ⟨lim.keeps x.toInCall.keep, codeAny_func ?_⟩
  obtain ⟨t, ht, hq⟩ := hbody A outer s H vs Q E (hr.deeper _) hgd hsp
  refine wpAny_mono (ht.run [] s1 (L2.start N vs) H _ (inv_start S hr.hd e0 hl r x) hq) (fun fl s' hs => ?_) fun e s' hs => hs
  cases fl with
  | ret u => obtain ⟨v, σ', H', J, rv, q⟩ := hs; exact ⟨v, H', J.os, J.bare, J.base, J.hok, rv, q⟩
  | next => obtain ⟨σ', H', J, q⟩ := hs; exact ⟨.non, H', J.os, J.bare, J.base, J.hok, rfl, q⟩
  | brk => obtain ⟨_, _, _, q⟩ := hs; exact False.elim q
  | cont => obtain ⟨_, _, _, q⟩ := hs; exact False.elim q
section
variable {P : Program} {w : World} {K : PySem.W.Frag} {mg : Str → Option Value} {base : Heap} {cl : Nat → Addr}
theorem fn_okG {x qual : Str} {params : Arguments} {body : List Stmt} {scope : Scope} {dvs : List V} {kws : List (Str × V)} {f : Addr} {fd : FuncData} {N ps : List Str} {k : Nat} {pin : List Nat} {ms : MS}
    (F : FunD K x qual params body scope dvs kws f fd) (S : FnScope N ps scope)
    (h : ∀ (cdv : Value) (A : Around) (outer : List Env) (s : Shared) (H : Hp) (E : XK), (cxOf (L2.CX P w) P w K mg base N qual scope f cdv A outer s H E).A.guards = some [] → Good (cxOf (L2.CX P w) P w K mg base N qual scope f cdv A outer s H E) (fun c d _ H' => E c d H') k →
      PMSs (cxOf (L2.CX P w) P w K mg base N qual scope f cdv A outer s H E) cl (fun c d _ H' => E c d H') pin body ms) :
    FnG P w K mg base (L2.CX P w) (k + 1) f fd ps (spF K cl (fnSem N.length ps.length pin ms)) := by
  obtain ⟨oc, od, dV, kV, doc, pm, an, cdv, ct, osl, rfl, lk, hcd, _, _⟩ := F.ex
  refine fn_ofG lk hcd S (spF_len rfl) fun A outer s H vs Q E hr hgd ⟨as, F0, fp, E0, Q0, e, hb, hQ, hE⟩ => ?_
  obtain ⟨hl, hio, hm⟩ := hb
  have hlv : as.length = vs.length := by have := e.len; simpa using this
  have hN : ps.length ≤ N.length := by have := congrArg List.length S.pre; rw [List.length_take] at this; omega
  refine ⟨LS K cl (fun c d _ H => E c d H) pin ms, h cdv A outer s H E hgd ⟨rfl, hr, takes_of rfl rfl rfl rfl, S.nd, passes_of rfl⟩, ?_⟩
  rw [← hl] at hm
  have E1 := e.start (N := N) (by omega)
  have fin : ∀ {S' : Fm} {σ' : L2.St} {F' H' : Hp} {fp' : Nat → List Addr}, (∀ i ∈ pin, σ'[i]? = (L2.start N vs)[i]?) → Stp F0 H (as ++ List.replicate (N.length - as.length) .un) fp F' H' S' fp' → EnvR K cl F' H' σ' S' fp' →
      Stp F0 H as fp F' H' (outP pin as.length S') fp' ∧ EnvR K cl F' H' (vs.map some) (outP pin as.length S') fp' := fun {S' σ' F' H' fp'} p st e' =>
    ⟨⟨st.ff, fun a o q nt n => st.hh a o q nt fun z => n z.unstart, fun a o q nx z n => st.nn a o q nx z fun z => n z.unstart, fun a z => (st.oo a z.outP).imp_left Ow.unstart, st.th⟩, by rw [hlv]; exact e'.outP p⟩
  refine LS.iff.mpr ⟨_, F0, fp, _, E1, hm, ⟨fun xd S' q c d σ' F' H' fp' p st e' xr => ?_, fun S' q σ' F' H' fp' p st e' => ?_, fun S' q => q.elim, fun S' q => q.elim, fun r S' q v σ' F' H' fp' p st e' rr => ?_⟩⟩
  · obtain ⟨s1, e1⟩ := fin p st e'
    exact hE _ _ q c d F' H' fp' s1 e1 xr
  · obtain ⟨s1, e1⟩ := fin p st e'
    exact hQ _ _ q _ F' H' fp' s1 e1 (by show Rep _ _ _ _ _; rw [Rep]) (fun i z => by cases z)
  · obtain ⟨s1, e1⟩ := fin p st e'
    cases r with
    | val d => exact hQ _ _ q v F' H' fp' s1 e1 rr (fun i z => by cases z)
    | own o =>
      obtain ⟨p', fq, ev, c, hq⟩ := rr
      exact hQ _ _ q v F' H' fp' s1 e1 ⟨p', fq, ev, c, fun a ha => ⟨(hq a ha).1, fun z => (hq a ha).2.1 z.outP, (hq a ha).2.2.imp_right Ow.unstart⟩⟩ (fun i z => by cases z)
    | slot i =>
      obtain ⟨o, h1, h2⟩ := q
      obtain ⟨p', e2, c⟩ := e'.ow i o h1
      have e3 : σ'[i]? = some (some v) := rr
      rw [e2] at e3; cases e3
      have s2 : Stp F0 H (as ++ List.replicate (N.length - as.length) .un) fp F' H' (S'.set i .un) fp' := ⟨st.ff, st.hh, st.nn, fun a z => st.oo a z.setUn.1, st.th⟩
      obtain ⟨s3, e4⟩ := fin p s2 e'.setUn
      refine hQ _ _ h2 _ F' H' fp' s3 e4 ⟨p', fp' i, rfl, c, fun a ha => ⟨e'.nf i o h1 a ha, fun z => ?_, ?_⟩⟩ (fun i z => by cases z)
      · obtain ⟨_, j, u, ne, h5, h6⟩ := z.outP.setUn
        exact e'.dj j i u o ne h5 h1 a h6 ha
      · rcases st.oo a ⟨i, o, h1, ha⟩ with z | z
        · exact .inr z.unstart
        · exact .inl z
structure FncG (P : Program) (w : World) (K : PySem.W.Frag) (mg : Str → Option Value) (base : Heap) (cl : Nat → Addr) (k : Nat) (x : Str) (st : Stmt) (ps : List Str) (fs : FS) : Prop where
  ex : ∃ f fd, FnG P w K mg base (L2.CX P w) k f fd ps (spF K cl fs) ∧ mg x = some (.ref f) ∧ FunD K x x (defArgs st) (defBody st) (defScope st) [] [] f fd ∧ Binds K fd ps []
theorem law_okG {k : Nat} {f : Addr} {fd : FuncData} {ps : List Str} {fs : FS} (F : FnG P w K mg base (L2.CX P w) k f fd ps (spF K cl fs)) :
    FnG P w K mg base L2.CX0 k f fd ps (fun vs H Q _ => spF K cl fs vs H Q fun _ _ _ => False) :=
  ⟨fun vs H Q E h => F.len _ _ _ _ h, fun A outer s H args us vs Q E hr hg he hb hv hs => codeAny_mono (F.run A outer s H args us vs Q (fun _ _ _ => False) hr hg he hb hv hs) fun r s' hq => by
    cases r with
    | ok fl => cases fl <;> exact hq
    | error e =>
      obtain ⟨_, _, _, _, _, _, _, _, _, _, _, _, z⟩ := hq
      exact z.elim⟩
end
/-- the law is called: over one heap of thought the script alone, or nothing where the script is the module's own -/
theorem law_callG {P : Program} {w : World} {K : PySem.W.Frag} {mg mb : Str → Option Value} {CX : CXT} {k : Nat} {fa a : Addr} {fd : FuncData} {x : Str} {sp : Sp} {s : Shared} {us : List Value} {ns : List Int}
    (KX : K.In s.heap) (hns : s.heap.Ns mainGlobals mg) (hb : s.heap.Ns builtinsNs mb) (hbb : ∀ x : Str, x ≠ "__name__" → mb x = bootBuiltins x) (hlim : s.heap.NoLimit) (hg : s.gens = #[])
    (ha : s.heap.get? a = some { cls := .type "list", data := .seq us.toArray }) (hi : IntsAre us ns) (hl : ns.length ≤ sizeLine) (hr : Room k callerA)
    (F : ∀ base : Heap, K.In base → base.Ns mainGlobals mg → FnG P w K mg base CX k fa fd [x] sp) (hbind : ∀ (s : Shared) (u : Value), BindsTo s fd ⟨[u], []⟩ [(x, u)])
    (hsp : ∀ H : Hp, Only H → SqL K H a (ns.map V.int) → sp [.ref a] H (fun v _ => v = .bl true) fun _ _ _ => False)
    (hCX : ∀ H e s', CX [] H s (fun _ _ _ => False) e s' → False) :
    codeAny (model P w) callerA (.call (.ref fa) ⟨[.ref a], []⟩) (fun r s' => r = .ok (.ret (.bool true)) ∧ OldK s.heap s'.heap ∧ s'.os = s.os ∧ AllBare s'.gens) s := by
  have rv := vals_ints hi
  have go : ∀ H : Hp, (∀ b, H b = none ∨ b = a ∧ K.lookup a = none ∧ H b = some (.frz { cls := .type "list", data := .seq us.toArray } (.lst (ns.map V.int)))) → SqL K H a (ns.map V.int) →
      codeAny (model P w) callerA (.call (.ref fa) ⟨[.ref a], []⟩) (fun r s' => r = .ok (.ret (.bool true)) ∧ OldK s.heap s'.heap ∧ s'.os = s.os ∧ AllBare s'.gens) s := by
    intro H hH hS
    have ne : ∀ {b : Addr} {o : Obj}, s.heap.get? b = some o → (∀ vs n, o.data ≠ .seq vs n) → H b = none := fun {b o} e n => by
      rcases hH b with z | ⟨rfl, _, z⟩
      · exact z
      · rw [ha] at e; cases e; exact absurd rfl (n _ _)
    have ns' : ∀ {b : Addr} {m : Str → Option Value}, s.heap.Ns b m → (hidT s.heap H).Ns b m := fun {b m} ⟨o, es, ep, e, d, r⟩ => ⟨o, es, ep, hidT_get e (ne e fun vs n z => by rw [d] at z; cases z), d, r⟩
    have hK : K.In (hidT s.heap H) := fun b o e => hidT_get (KX b o e) (by
      rcases hH b with z | ⟨rfl, z, _⟩
      · exact z
      · rw [z] at e; cases e)
    have hok : HOk P w H s.heap := fun b u e => by
      rcases hH b with z | ⟨rfl, _, z⟩
      · rw [z] at e; cases e
      · rw [z] at e; cases e
        exact ⟨ha, by rw [List.length_map]; exact hl, us, _, rv, ha⟩
    have e0 : Env0 P w K mg (hidT s.heap H) callerA [] s H :=
      ⟨rfl, ⟨hK, ns' hns, ⟨mb, ns' hb, hbb⟩, let ⟨mc, h1, h2⟩ := hlim; ⟨mc, ns' h1, h2⟩⟩, fun b o e => of_hidT e, Nat.le_of_eq (hidT_size _ _), trivial, fun b hb => absurd (show b ∈ ([] : List Addr) from hb) (by simp), hok, .of_eq hg⟩
    have hO : Only H := fun b => (hH b).imp_right fun ⟨_, _, z⟩ => ⟨_, _, z⟩
    refine codeAny_mono ((F _ hK (ns' hns)).run callerA [] s H ⟨[.ref a], []⟩ [.ref a] [.ref a] _ _ hr rfl e0 (hbind s (.ref a)) (.cons rfl .nil) (hsp H hO hS)) fun r s' h => ?_
    match r, h with
    | .error e, h => exact (hCX H e s' h).elim
    | .ok .next, h => exact h.elim
    | .ok .brk, h => exact h.elim
    | .ok .cont, h => exact h.elim
    | .ok (.ret u), ⟨v, H', os, bare, un, hok', r', q⟩ =>
      have q' : v = .bl true := q
      subst q'
      obtain rfl : u = Value.bool true := r'
      refine ⟨rfl, OldK.of_keep fun b o e => ?_, os, bare⟩
      rcases hH b with z | ⟨rfl, _, z⟩
      · exact un.keep b o e z (fun y => absurd (show b ∈ ([] : List Addr) from y) (by simp)) (by simp)
      · obtain ⟨e2, _⟩ := hok' b _ (un.frzs b _ _ z)
        rw [ha] at e; cases e
        exact e2
  cases hk : K.lookup a with
  | some o =>
    have e := KX a o hk
    rw [ha] at e
    cases e
    exact go (fun _ => none) (fun _ => .inl rfl) (.inr ⟨_, us.toArray, _, hk, rfl, rfl, rfl, by rw [List.size_toArray, hi.length]; exact hl, by simpa using rv⟩)
  | none =>
    refine go (fun b => if b = a then some (.frz { cls := .type "list", data := .seq us.toArray } (.lst (ns.map V.int))) else none) (fun b => ?_) (.inl (.inr ⟨{ cls := .type "list", data := .seq us.toArray }, if_pos rfl⟩))
    by_cases e : b = a
    · exact .inr ⟨e, hk, if_pos e⟩
    · exact .inl (if_neg e)
theorem walk_ofG {l : PySem.W.OpenLaw} {n k : Nat} {q : Program} {loose : List Str} {XP : (Str → Option Value) → Heap → Prop} {YP : World → Heap → Prop} {d : DefRec} {CX : CXT} {x : Str}
    (hn : l.most = some n) (hn2 : n ≤ sizeLine) (hdf : d.params.defaults = []) (hr : Room k callerA)
    (F : ∀ (w : World) (mg : Str → Option Value) (fa : Addr) (h : Heap), YP w h → h.Ns mainGlobals mg → mg d.name = some (.ref fa) →
      ∃ (K : PySem.W.Frag) (fd : FuncData) (sp : Sp), K.In h ∧ (∀ (s : Shared) (u : Value), BindsTo s fd ⟨[u], []⟩ [(x, u)]) ∧
        (∀ (H : Hp) (a : Addr) (ns : List Int), ns.length ≤ n → Only H → SqL K H a (ns.map V.int) → sp [.ref a] H (fun v _ => v = .bl true) fun _ _ _ => False) ∧
        ∀ base : Heap, K.In base → base.Ns mainGlobals mg → FnG l.prog w K mg base CX k fa fd [x] sp)
    (hCX : ∀ (H : Hp) (s : Shared) (e : Value) (s' : Shared), CX [] H s (fun _ _ _ => False) e s' → False) :
    PySem.W.WalkO q loose XP YP l.row.toRowW d [] (fun f vs => PySem.call f vs) := by
  refine Att.attach_call hn hdf fun w s₀ s₁ mg mb fa o pm cd doc a vs ns G Y ho hd hcd hmg hobj hints hlen hg => ?_
  obtain ⟨K, fd, sp, KX, hb, hsp, hF⟩ := F w mg fa _ Y G.T.g hmg
  exact law_callG KX G.T.g G.T.b G.T.builtins G.T.nolimit hg hobj hints (Nat.le_trans hlen hn2) hr hF hb (fun H hO hS => hsp H a ns hlen hO hS) fun H e s' => hCX H s₁ e s'
end Mv

namespace Tl
open PySem L2 Mv
@[simp] theorem out_0_1 {p0 : Sl} {S : Fm} : outP [0] 1 (p0 :: S) = [p0] := id rfl
@[simp] theorem out_0_2 {p0 p1 : Sl} {S : Fm} : outP [0] 2 (p0 :: p1 :: S) = [p0, .un] := id rfl
@[simp] theorem out_0_3 {p0 p1 p2 : Sl} {S : Fm} : outP [0] 3 (p0 :: p1 :: p2 :: S) = [p0, .un, .un] := id rfl
def row_VaultError : List Bool := [true, true, true, true, true, true, true, true, true]
def mt_VaultError : Nat → Bool := Mh.mtR row_VaultError
@[simp] theorem mt_VaultError_0 : mt_VaultError 0 = true := by decide
@[simp] theorem mt_VaultError_1 : mt_VaultError 1 = true := by decide
@[simp] theorem mt_VaultError_2 : mt_VaultError 2 = true := by decide
@[simp] theorem mt_VaultError_3 : mt_VaultError 3 = true := by decide
@[simp] theorem mt_VaultError_4 : mt_VaultError 4 = true := by decide
@[simp] theorem mt_VaultError_5 : mt_VaultError 5 = true := by decide
@[simp] theorem mt_VaultError_6 : mt_VaultError 6 = true := by decide
@[simp] theorem mt_VaultError_7 : mt_VaultError 7 = true := by decide
@[simp] theorem mt_VaultError_8 : mt_VaultError 8 = true := by decide
def row_BadValue : List Bool := [false, true, false, false, false, false, false, false, false]
def mt_BadValue : Nat → Bool := Mh.mtR row_BadValue
@[simp] theorem mt_BadValue_0 : mt_BadValue 0 = false := by decide
@[simp] theorem mt_BadValue_1 : mt_BadValue 1 = true := by decide
@[simp] theorem mt_BadValue_2 : mt_BadValue 2 = false := by decide
@[simp] theorem mt_BadValue_3 : mt_BadValue 3 = false := by decide
@[simp] theorem mt_BadValue_4 : mt_BadValue 4 = false := by decide
@[simp] theorem mt_BadValue_5 : mt_BadValue 5 = false := by decide
@[simp] theorem mt_BadValue_6 : mt_BadValue 6 = false := by decide
@[simp] theorem mt_BadValue_7 : mt_BadValue 7 = false := by decide
@[simp] theorem mt_BadValue_8 : mt_BadValue 8 = false := by decide
/-- is_integer(value) -/
def b_is_integer : MS := sRet (mAndV (mBi dIsi (mCons (mVar 0) (mCons (mC (.ty "int")) (mNil)))) (mNotV (mBi dIsi (mCons (mVar 0) (mCons (mC (.ty "bool")) (mNil))))))
def f_is_integer : FS := fnSem 1 1 [] b_is_integer

/-- is_from_to(value, least, most) -/
def b_is_from_to : MS := sRet (mAndV (mCall (f_is_integer) (mCons (mVar 0) (mNil))) (mChain dLe dLe (mVar 1) (mVar 0) (mVar 2)))
def f_is_from_to : FS := fnSem 3 3 [] b_is_from_to

/-- is_place(value) -/
def b_is_place : MS := sRet (mAndV (mCall (f_is_integer) (mCons (mVar 0) (mNil))) (mBin dGe (mVar 0) (mC (.int 0))))
def f_is_place : FS := fnSem 1 1 [] b_is_place

/-- is_change(place, integers | one) -/
def b_is_change : MS := sSeq (sIf (mOr (mNot (mTr (mCall (f_is_place) (mCons (mVar 0) (mNil))))) (mOr (mNot (mTr (mBi dIsi (mCons (mVar 1) (mCons (mTup (mCons (mC (.ty "list")) (mCons (mC (.ty "tuple")) (mNil)))) (mNil)))))) (mNot (mTe (mChain dLe dLe (mC (.int 1)) (mBi dLen (mCons (mVar 1) (mNil))) (mC (.int 4))))))) (sRet (mC (.bl false))) (sNext))
    (sRet (mBi dAll (mCons (mLc 3 [2] (mSeq (mVar 1)) (gN 2) (mYes) (mCall (f_is_from_to) (mCons (mVar 2) (mCons (mC (.int 0)) (mCons (mC (.int 128)) (mNil)))))) (mNil))))
def f_is_change : FS := fnSem 3 2 [] b_is_change

/-- is_let(harm, many) -/
def b_is_let : MS := sSeq (sIf (mNot (mTr (mCall (f_is_from_to) (mCons (mBin dIxK (mVar 0) (mC (.int 1))) (mCons (mC (.int 0)) (mCons (mBin dSub (mVar 1) (mC (.int 1))) (mNil))))))) (sRet (mC (.bl false))) (sNext))
    (sSeq (sIf (mTe (mBin dEq (mBin dIxK (mVar 0) (mC (.int 0))) (mC (.str "change")))) (sRet (mCall (f_is_change) (mCons (mBin dIxK (mVar 0) (mC (.int 2))) (mCons (mBin dIxK (mVar 0) (mC (.int 3))) (mNil))))) (sNext))
    (sSeq (sIf (mTe (mBin dEq (mBin dIxK (mVar 0) (mC (.int 0))) (mC (.str "cut")))) (sRet (mAndV (mCall (f_is_place) (mCons (mBin dIxK (mVar 0) (mC (.int 2))) (mNil))) (mAndV (mCall (f_is_integer) (mCons (mBin dIxK (mVar 0) (mC (.int 3))) (mNil))) (mBin dLe (mBin dIxK (mVar 0) (mC (.int 2))) (mBin dIxK (mVar 0) (mC (.int 3))))))) (sNext))
    (sRet (mOrV (mBin dNe (mBin dIxK (mVar 0) (mC (.int 0))) (mC (.str "turn"))) (mCall (f_is_from_to) (mCons (mBin dIxK (mVar 0) (mC (.int 2))) (mCons (mC (.int 0)) (mCons (mBin dSub (mVar 1) (mC (.int 1))) (mNil)))))))))
def f_is_let : FS := fnSem 2 2 [] b_is_let

/-- changed(volume, place, integers | fitting) -/
def b_changed : MS := sSeq (sSet 3 (mFz (mSl (mBi dTuple (mCons (mVar 2) (mNil))) (moN) (moS (mBi dMax2 (mCons (mC (.int 0)) (mCons (mBin dSub (mBi dLen (mCons (mVar 0) (mNil))) (mVar 1)) (mNil))))))))
    (sRet (mBin dAdd (mBin dAdd (mSl (mVar 0) (moN) (moS (mVar 1))) (mVar 3)) (mSl (mVar 0) (moS (mBin dAdd (mVar 1) (mBi dLen (mCons (mVar 3) (mNil))))) (moN))))
def f_changed : FS := fnSem 4 3 [] b_changed

/-- harm_done(volumes, harm | left, word, at) -/
def b_harm_done : MS := sSeq (sAsg (mSl (mVar 1) (moN) (moS (mC (.int 2)))) (gT 2 (gsC (gN 3) (gsC (gN 4) (gsN)))))
    (sSeq (sSet 2 (mBi dList (mCons (mVar 0) (mNil))))
    (sSeq (sIf (mTe (mBin dEq (mVar 3) (mC (.str "lose")))) (sPut 2 (mVar 4) (mTup (mNil))) (sIf (mTe (mBin dEq (mVar 3) (mC (.str "change")))) (sPut 2 (mVar 4) (mCall (f_changed) (mCons (mBin dIxK (mOwn 2) (mVar 4)) (mCons (mBin dIxK (mVar 1) (mC (.int 2))) (mCons (mBin dIxK (mVar 1) (mC (.int 3))) (mNil)))))) (sIf (mTe (mBin dEq (mVar 3) (mC (.str "cut")))) (sPut 2 (mVar 4) (mBin dAdd (mSl (mBin dIxK (mOwn 2) (mVar 4)) (moN) (moS (mBin dIxK (mVar 1) (mC (.int 2))))) (mSl (mBin dIxK (mOwn 2) (mVar 4)) (moS (mBin dIxK (mVar 1) (mC (.int 3)))) (moN)))) (sIf (mTe (mBin dEq (mVar 3) (mC (.str "turn")))) (sSeq (sPut 2 (mVar 4) (mBin dIxK (mVar 0) (mBin dIxK (mVar 1) (mC (.int 2)))))
    (sPut 2 (mBin dIxK (mVar 1) (mC (.int 2))) (mBin dIxK (mVar 0) (mVar 4)))) (sExpr (mMut 2 lAppend (mCons (mBin dIxK (mOwn 2) (mVar 4)) (mNil))))))))
    (sRet (mOwn 2))))
def f_harm_done : FS := fnSem 5 2 [] b_harm_done

/-- harmed(volumes, harms | left, number, harm, volume) -/
def b_harmed : MS := sSeq (sSet 2 (mFz (mLc 6 [5] (mSeq (mVar 0)) (gN 5) (mYes) (mBi dTuple (mCons (mVar 5) (mNil))))))
    (sSeq (sFor (mEnumT (mVar 1)) (gT 2 (gsC (gN 3) (gsC (gN 4) (gsN)))) (sSeq (sIf (mNot (mTr (mCall (f_is_let) (mCons (mVar 4) (mCons (mBi dLen (mCons (mVar 2) (mNil))) (mNil)))))) (sRaise 1 "at" (mVar 3)) (sNext))
    (sSet 2 (mFz (mCall (f_harm_done) (mCons (mVar 2) (mCons (mVar 4) (mNil))))))))
    (sRet (mBi dTuple (mCons (mVar 2) (mNil)))))
def f_harmed : FS := fnSem 6 2 [] b_harmed

/-- _law_mixed(_law_a, _law_b | _law_one, _law_two) -/
def b__law_mixed : MS := sSeq (sSet 2 (mFz (mBin dMod (mBin dAdd (mBin dAdd (mBin dMul (mBin dMod (mBi dInt (mCons (mVar 0) (mNil))) (mC (.int 1000003))) (mC (.int 48271))) (mBin dMul (mBin dMod (mBi dInt (mCons (mVar 1) (mNil))) (mC (.int 999983))) (mC (.int 69621)))) (mC (.int 12345))) (mC (.int 2147483647)))))
    (sSeq (sSet 3 (mFz (mBin dMod (mBin dAdd (mBin dAdd (mBin dAdd (mBin dMul (mVar 2) (mVar 2)) (mBin dMul (mVar 2) (mC (.int 40692)))) (mBin dMul (mBin dMod (mBi dInt (mCons (mVar 1) (mNil))) (mC (.int 65537))) (mC (.int 16807)))) (mC (.int 7))) (mC (.int 2147483629)))))
    (sRet (mBin dMod (mBin dAdd (mBin dMul (mVar 3) (mC (.int 48271))) (mBin dFdiv (mVar 2) (mC (.int 127)))) (mC (.int 2147483647)))))
def f__law_mixed : FS := fnSem 4 2 [] b__law_mixed

/-- _law_pool(_law_script) -/
def b__law_pool : MS := sRet (mLst (mCons (mBi dList (mCons (mVar 0) (mNil))) (mCons (mC (.int 0)) (mCons (mC (.int 0)) (mCons (mC (.int 0)) (mCons (mC (.int 0)) (mCons (mC .non) (mNil))))))))
def f__law_pool : FS := fnSem 1 1 [] b__law_pool

/-- _law_draw(_law_pool_here, _law_many | _law_rest, _law_cells, _law_cell) -/
def b__law_draw : MS := sSeq (sSet 2 (mBin dIxK (mOwn 0) (mC (.int 2))))
    (sSeq (sIf (mAnd (mTe (mBin dLt (mVar 2) (mC (.int 2)))) (mTe (mBin dLt (mBin dIxK (mOwn 0) (mC (.int 1))) (mBi dLen (mCons (mBin dIxK (mOwn 0) (mC (.int 0))) (mNil)))))) (sSeq (sSet 3 (mBin dIxK (mOwn 0) (mC (.int 0))))
    (sSeq (sSet 4 (mBin dIxK (mVar 3) (mBin dIxK (mOwn 0) (mC (.int 1)))))
    (sSeq (sPut 0 (mC (.int 1)) (mBin dAdd (mBin dIxK (mOwn 0) (mC (.int 1))) (mC (.int 1))))
    (sSeq (sIf (mTe (mBin dGe (mVar 4) (mBin dPow (mC (.int 10)) (mC (.int 18))))) (sSeq (sSet 2 (mFz (mBin dSub (mVar 4) (mBin dPow (mC (.int 10)) (mC (.int 18))))))
    (sSeq (sPut 0 (mC (.int 2)) (mBin dFdiv (mVar 2) (mVar 1)))
    (sSeq (sPut 0 (mC (.int 4)) (mC (.int 60)))
    (sRet (mBin dMod (mBi dInt (mCons (mVar 2) (mNil))) (mVar 1)))))) (sNext))
    (sPut 0 (mC (.int 3)) (mCall (f__law_mixed) (mCons (mBin dAdd (mBin dIxK (mOwn 0) (mC (.int 3))) (mVar 4)) (mCons (mBin dIxK (mOwn 0) (mC (.int 1))) (mNil))))))))) (sIf (mTe (mBin dLt (mVar 2) (mC (.int 2)))) (sSeq (sPut 0 (mC (.int 1)) (mBin dAdd (mBin dIxK (mOwn 0) (mC (.int 1))) (mC (.int 1))))
    (sPut 0 (mC (.int 3)) (mCall (f__law_mixed) (mCons (mBin dIxK (mOwn 0) (mC (.int 3))) (mCons (mBin dAdd (mC (.int 77)) (mBin dIxK (mOwn 0) (mC (.int 1)))) (mNil)))))) (sSeq (sPut 0 (mC (.int 4)) (mBin dSub (mBin dIxK (mOwn 0) (mC (.int 4))) (mC (.int 1))))
    (sSeq (sPut 0 (mC (.int 2)) (mBin dMul (mBin dFdiv (mVar 2) (mVar 1)) (mBi dInt (mCons (mBin dGt (mBin dIxK (mOwn 0) (mC (.int 4))) (mC (.int 0))) (mNil)))))
    (sRet (mBin dMod (mBi dInt (mCons (mVar 2) (mNil))) (mVar 1)))))))
    (sSeq (sPut 0 (mC (.int 2)) (mC (.int 0)))
    (sRet (mBin dMod (mBi dInt (mCons (mBin dIxK (mOwn 0) (mC (.int 3))) (mNil))) (mVar 1)))))
def f__law_draw : FS := fnSem 5 2 [0] b__law_draw

/-- _law_same(_law_actual, _law_due_here | _law_k) -/
def b__law_same (r : FS) : MS := sSeq (sIf (mTe (mBin dIsN (mVar 1) (mC .non))) (sRet (mBin dIsN (mVar 0) (mC .non))) (sNext))
    (sSeq (sIf (mTr (mBi dIsi (mCons (mVar 1) (mCons (mC (.ty "tuple")) (mNil))))) (sSeq (sIf (mOr (mNot (mTr (mBi dIsi (mCons (mVar 0) (mCons (mC (.ty "tuple")) (mNil)))))) (mTe (mBin dNe (mBi dLen (mCons (mVar 0) (mNil))) (mBi dLen (mCons (mVar 1) (mNil)))))) (sRet (mC (.bl false))) (sNext))
    (sSeq (sFor (mRng1 (mCons (mBi dLen (mCons (mVar 1) (mNil))) (mNil))) (gN 2) (sIf (mNot (mTr (mCall (r) (mCons (mBin dIxK (mVar 0) (mVar 2)) (mCons (mBin dIxK (mVar 1) (mVar 2)) (mNil)))))) (sRet (mC (.bl false))) (sNext)))
    (sRet (mC (.bl true))))) (sNext))
    (sSeq (sIf (mTr (mBi dIsi (mCons (mVar 1) (mCons (mC (.ty "bool")) (mNil))))) (sRet (mAndV (mBi dIsi (mCons (mVar 0) (mCons (mC (.ty "bool")) (mNil)))) (mBin dEq (mVar 0) (mVar 1)))) (sNext))
    (sSeq (sIf (mTr (mBi dIsi (mCons (mVar 1) (mCons (mC (.ty "int")) (mNil))))) (sRet (mAndV (mBi dIsi (mCons (mVar 0) (mCons (mC (.ty "int")) (mNil)))) (mAndV (mNotV (mBi dIsi (mCons (mVar 0) (mCons (mC (.ty "bool")) (mNil))))) (mBin dEq (mVar 0) (mVar 1))))) (sNext))
    (sSeq (sIf (mTr (mBi dIsi (mCons (mVar 1) (mCons (mC (.ty "list")) (mNil))))) (sRet (mAndV (mBi dIsi (mCons (mVar 0) (mCons (mC (.ty "list")) (mNil)))) (mCall (r) (mCons (mBi dTuple (mCons (mVar 0) (mNil))) (mCons (mBi dTuple (mCons (mVar 1) (mNil))) (mNil)))))) (sNext))
    (sRet (mAndV (mBi dIsi (mCons (mVar 0) (mCons (mC (.ty "str")) (mNil)))) (mBin dEq (mVar 0) (mVar 1))))))))
def f__law_same : Nat → FS
  | 0 => fsNo
  | n + 1 => fnSem 3 2 [] (b__law_same (f__law_same n))

/-- _law_wrong_volume(_law_pool_here, _law_many) -/
def b__law_wrong_volume : MS := sRet (mBin dIxK (mLst (mCons (mUn dNeg (mC (.int 1))) (mCons (mVar 1) (mCons (mBin dAdd (mBin dAdd (mVar 1) (mC (.int 1))) (mCall (f__law_draw) (mCons (mOwn 0) (mCons (mC (.int 1000)) (mNil))))) (mCons (mBin dSub (mUn dNeg (mC (.int 2))) (mCall (f__law_draw) (mCons (mOwn 0) (mCons (mC (.int 1000)) (mNil))))) (mNil)))))) (mCall (f__law_draw) (mCons (mOwn 0) (mCons (mC (.int 4)) (mNil)))))
def f__law_wrong_volume : FS := fnSem 2 2 [0] b__law_wrong_volume

/-- _law_integers(_law_pool_here | _law_integers_here, _law_k) -/
def b__law_integers : MS := sSeq (sSet 1 (mFz (mLc 3 [2] (mRng1 (mCons (mBin dAdd (mC (.int 1)) (mCall (f__law_draw) (mCons (mOwn 0) (mCons (mC (.int 4)) (mNil))))) (mNil))) (gN 2) (mYes) (mBin dIxK (mLst (mCons (mCall (f__law_draw) (mCons (mOwn 0) (mCons (mC (.int 129)) (mNil)))) (mCons (mC (.int 128)) (mCons (mC (.int 0)) (mNil))))) (mCall (f__law_draw) (mCons (mOwn 0) (mCons (mC (.int 3)) (mNil))))))))
    (sSeq (sIf (mTe (mBin dEq (mCall (f__law_draw) (mCons (mOwn 0) (mCons (mC (.int 2)) (mNil)))) (mC (.int 0)))) (sRet (mBi dTuple (mCons (mVar 1) (mNil)))) (sNext))
    (sRet (mVar 1)))
def f__law_integers : FS := fnSem 3 1 [0] b__law_integers

/-- _law_harm(_law_pool_here, _law_many | _law_v, _law_kind, _law_place) -/
def b__law_harm : MS := sSeq (sSet 2 (mFz (mCall (f__law_draw) (mCons (mOwn 0) (mCons (mBi dMax2 (mCons (mC (.int 1)) (mCons (mVar 1) (mNil)))) (mNil))))))
    (sSeq (sSet 3 (mFz (mCall (f__law_draw) (mCons (mOwn 0) (mCons (mC (.int 6)) (mNil))))))
    (sSeq (sIf (mTe (mBin dEq (mVar 3) (mC (.int 0)))) (sRet (mTup (mCons (mC (.str "lose")) (mCons (mVar 2) (mNil))))) (sNext))
    (sSeq (sIf (mTe (mBin dEq (mVar 3) (mC (.int 1)))) (sRet (mTup (mCons (mC (.str "turn")) (mCons (mVar 2) (mCons (mCall (f__law_draw) (mCons (mOwn 0) (mCons (mBi dMax2 (mCons (mC (.int 1)) (mCons (mVar 1) (mNil)))) (mNil)))) (mNil)))))) (sNext))
    (sSeq (sIf (mTe (mBin dEq (mVar 3) (mC (.int 2)))) (sRet (mTup (mCons (mC (.str "double")) (mCons (mVar 2) (mNil))))) (sNext))
    (sSeq (sSet 4 (mBin dIxK (mLst (mCons (mCall (f__law_draw) (mCons (mOwn 0) (mCons (mC (.int 13)) (mNil)))) (mCons (mCall (f__law_draw) (mCons (mOwn 0) (mCons (mC (.int 13)) (mNil)))) (mCons (mC (.int 0)) (mCons (mCall (f__law_draw) (mCons (mOwn 0) (mCons (mC (.int 100000)) (mNil)))) (mNil)))))) (mCall (f__law_draw) (mCons (mOwn 0) (mCons (mC (.int 4)) (mNil))))))
    (sSeq (sIf (mTe (mBin dEq (mVar 3) (mC (.int 3)))) (sRet (mTup (mCons (mC (.str "cut")) (mCons (mVar 2) (mCons (mVar 4) (mCons (mBin dAdd (mVar 4) (mBin dIxK (mLst (mCons (mC (.int 0)) (mCons (mCall (f__law_draw) (mCons (mOwn 0) (mCons (mC (.int 13)) (mNil)))) (mCons (mC (.int 12)) (mCons (mCall (f__law_draw) (mCons (mOwn 0) (mCons (mC (.int 100000)) (mNil)))) (mNil)))))) (mCall (f__law_draw) (mCons (mOwn 0) (mCons (mC (.int 4)) (mNil)))))) (mNil))))))) (sNext))
    (sRet (mTup (mCons (mC (.str "change")) (mCons (mVar 2) (mCons (mVar 4) (mCons (mCall (f__law_integers) (mCons (mOwn 0) (mNil))) (mNil)))))))))))))
def f__law_harm : FS := fnSem 5 2 [0] b__law_harm

/-- _law_spoilt(_law_pool_here, _law_harm_here, _law_many | _law_wrong, _law_way, _law_begin, _law_four, _law_odd) -/
def b__law_spoilt : MS := sSeq (sSet 3 (mFz (mCall (f__law_wrong_volume) (mCons (mOwn 0) (mCons (mVar 2) (mNil))))))
    (sSeq (sIf (mTe (mBin dEq (mBin dIxK (mVar 1) (mC (.int 0))) (mC (.str "turn")))) (sRet (mBin dIxK (mLst (mCons (mTup (mCons (mC (.str "turn")) (mCons (mVar 3) (mCons (mBin dIxK (mVar 1) (mC (.int 2))) (mNil))))) (mCons (mTup (mCons (mC (.str "turn")) (mCons (mBin dIxK (mVar 1) (mC (.int 1))) (mCons (mVar 3) (mNil))))) (mNil)))) (mCall (f__law_draw) (mCons (mOwn 0) (mCons (mC (.int 2)) (mNil)))))) (sNext))
    (sSeq (sSet 4 (mFz (mCall (f__law_draw) (mCons (mOwn 0) (mCons (mC (.int 4)) (mNil))))))
    (sSeq (sIf (mAnd (mTe (mBin dEq (mBin dIxK (mVar 1) (mC (.int 0))) (mC (.str "cut")))) (mTe (mBin dGt (mVar 4) (mC (.int 0))))) (sSeq (sSet 5 (mFz (mBin dAdd (mC (.int 1)) (mCall (f__law_draw) (mCons (mOwn 0) (mCons (mC (.int 20)) (mNil)))))))
    (sRet (mBin dIxK (mLst (mCons (mTup (mCons (mC (.str "cut")) (mCons (mBin dIxK (mVar 1) (mC (.int 1))) (mCons (mVar 5) (mCons (mBin dSub (mVar 5) (mC (.int 1))) (mNil)))))) (mCons (mTup (mCons (mC (.str "cut")) (mCons (mBin dIxK (mVar 1) (mC (.int 1))) (mCons (mBin dSub (mC (.int 0)) (mVar 5)) (mCons (mC (.int 5)) (mNil)))))) (mCons (mTup (mCons (mC (.str "cut")) (mCons (mBin dIxK (mVar 1) (mC (.int 1))) (mCons (mUn dNeg (mC (.int 1))) (mCons (mUn dNeg (mC (.int 1))) (mNil)))))) (mNil))))) (mBin dSub (mVar 4) (mC (.int 1)))))) (sNext))
    (sSeq (sIf (mAnd (mTe (mBin dEq (mBin dIxK (mVar 1) (mC (.int 0))) (mC (.str "change")))) (mTe (mBin dEq (mVar 4) (mC (.int 1))))) (sRet (mTup (mCons (mC (.str "change")) (mCons (mBin dIxK (mVar 1) (mC (.int 1))) (mCons (mBin dSub (mUn dNeg (mC (.int 1))) (mCall (f__law_draw) (mCons (mOwn 0) (mCons (mC (.int 50)) (mNil))))) (mCons (mBin dIxK (mVar 1) (mC (.int 3))) (mNil))))))) (sNext))
    (sSeq (sIf (mAnd (mTe (mBin dEq (mBin dIxK (mVar 1) (mC (.int 0))) (mC (.str "change")))) (mTe (mBin dGt (mVar 4) (mC (.int 1))))) (sSeq (sSet 6 (mTup (mCons (mC (.int 1)) (mCons (mC (.int 2)) (mCons (mC (.int 3)) (mCons (mC (.int 4)) (mNil)))))))
    (sSeq (sSet 7 (mBin dIxK (mLst (mCons (mTup (mNil)) (mCons (mBin dAdd (mVar 6) (mTup (mCons (mC (.int 5)) (mNil)))) (mCons (mTup (mCons (mC (.int 129)) (mNil))) (mCons (mTup (mCons (mC (.int 0)) (mCons (mUn dNeg (mC (.int 1))) (mNil)))) (mCons (mLst (mCons (mC (.int 5)) (mCons (mC (.int 1000)) (mNil)))) (mCons (mBin dAdd (mSl (mVar 6) (moN) (moS (mC (.int 3)))) (mTup (mCons (mC (.int 129)) (mNil)))) (mCons (mLst (mNil)) (mNil))))))))) (mCall (f__law_draw) (mCons (mOwn 0) (mCons (mC (.int 7)) (mNil))))))
    (sRet (mTup (mCons (mC (.str "change")) (mCons (mBin dIxK (mVar 1) (mC (.int 1))) (mCons (mBin dIxK (mVar 1) (mC (.int 2))) (mCons (mVar 7) (mNil))))))))) (sNext))
    (sRet (mBin dAdd (mTup (mCons (mBin dIxK (mVar 1) (mC (.int 0))) (mCons (mVar 3) (mNil)))) (mSl (mVar 1) (moS (mC (.int 2))) (moN)))))))))
def f__law_spoilt : FS := fnSem 8 3 [0] b__law_spoilt

/-- _law_is_wrong(_law_harm_here, _law_many | _law_volumes, _law_v, _law_bad, _law_integer) -/
def b__law_is_wrong : MS := sSeq (sSet 2 (mLst (mCons (mBin dIxK (mVar 0) (mC (.int 1))) (mNil))))
    (sSeq (sIf (mTe (mBin dEq (mBin dIxK (mVar 0) (mC (.int 0))) (mC (.str "turn")))) (sExpr (mMut 2 lAppend (mCons (mBin dIxK (mVar 0) (mC (.int 2))) (mNil)))) (sNext))
    (sSeq (sFor (mSeq (mFz (mOwn 2))) (gN 3) (sIf (mOr (mTe (mBin dLt (mVar 3) (mC (.int 0)))) (mTe (mBin dGe (mVar 3) (mVar 1)))) (sRet (mC (.bl true))) (sNext)))
    (sSeq (sIf (mTe (mBin dEq (mBin dIxK (mVar 0) (mC (.int 0))) (mC (.str "cut")))) (sRet (mOrV (mBin dGt (mBin dIxK (mVar 0) (mC (.int 2))) (mBin dIxK (mVar 0) (mC (.int 3)))) (mBin dLt (mBin dIxK (mVar 0) (mC (.int 2))) (mC (.int 0))))) (sNext))
    (sSeq (sIf (mTe (mBin dEq (mBin dIxK (mVar 0) (mC (.int 0))) (mC (.str "change")))) (sSeq (sSet 4 (mFz (mLc 6 [5] (mSeq (mBin dIxK (mVar 0) (mC (.int 3)))) (gN 5) (mOr (mTe (mBin dLt (mVar 5) (mC (.int 0)))) (mTe (mBin dGt (mVar 5) (mC (.int 128))))) (mVar 5))))
    (sRet (mOrV (mBin dLt (mBin dIxK (mVar 0) (mC (.int 2))) (mC (.int 0))) (mOrV (mBin dLt (mBi dLen (mCons (mBin dIxK (mVar 0) (mC (.int 3))) (mNil))) (mC (.int 1))) (mOrV (mBin dGt (mBi dLen (mCons (mBin dIxK (mVar 0) (mC (.int 3))) (mNil))) (mC (.int 4))) (mBin dGt (mBi dLen (mCons (mVar 4) (mNil))) (mC (.int 0)))))))) (sNext))
    (sRet (mC (.bl false)))))))
def f__law_is_wrong : FS := fnSem 6 2 [] b__law_is_wrong

/-- _law_done(_law_volumes, _law_harm_here | _law_v, _law_volume, _law_kept, _law_k) -/
def b__law_done : MS := sSeq (sSet 0 (mBi dList (mCons (mOwn 0) (mNil))))
    (sSeq (sSet 2 (mBin dIxK (mVar 1) (mC (.int 1))))
    (sSeq (sSet 3 (mBin dIxK (mOwn 0) (mVar 2)))
    (sSeq (sIf (mTe (mBin dEq (mBin dIxK (mVar 1) (mC (.int 0))) (mC (.str "lose")))) (sPut 0 (mVar 2) (mLst (mNil))) (sNext))
    (sSeq (sIf (mTe (mBin dEq (mBin dIxK (mVar 1) (mC (.int 0))) (mC (.str "turn")))) (sSeq (sPut 0 (mVar 2) (mBin dIxK (mOwn 0) (mBin dIxK (mVar 1) (mC (.int 2)))))
    (sPut 0 (mBin dIxK (mVar 1) (mC (.int 2))) (mVar 3))) (sNext))
    (sSeq (sIf (mTe (mBin dEq (mBin dIxK (mVar 1) (mC (.int 0))) (mC (.str "double")))) (sExpr (mMut 0 lAppend (mCons (mBi dList (mCons (mVar 3) (mNil))) (mNil)))) (sNext))
    (sSeq (sIf (mTe (mBin dEq (mBin dIxK (mVar 1) (mC (.int 0))) (mC (.str "cut")))) (sPut 0 (mVar 2) (mBin dAdd (mSl (mVar 3) (moN) (moS (mBin dIxK (mVar 1) (mC (.int 2))))) (mSl (mVar 3) (moS (mBin dIxK (mVar 1) (mC (.int 3)))) (moN)))) (sNext))
    (sSeq (sIf (mTe (mBin dEq (mBin dIxK (mVar 1) (mC (.int 0))) (mC (.str "change")))) (sSeq (sSet 4 (mBi dList (mCons (mVar 3) (mNil))))
    (sSeq (sFor (mRng1 (mCons (mBi dLen (mCons (mBin dIxK (mVar 1) (mC (.int 3))) (mNil))) (mNil))) (gN 5) (sIf (mTe (mBin dLt (mBin dAdd (mBin dIxK (mVar 1) (mC (.int 2))) (mVar 5)) (mBi dLen (mCons (mOwn 4) (mNil))))) (sPut 4 (mBin dAdd (mBin dIxK (mVar 1) (mC (.int 2))) (mVar 5)) (mBin dIxK (mBin dIxK (mVar 1) (mC (.int 3))) (mVar 5))) (sNext)))
    (sPut 0 (mVar 2) (mFz (mOwn 4))))) (sNext))
    (sRet (mOwn 0)))))))))
def f__law_done : FS := fnSem 6 2 [] b__law_done

/-- _law_due(_law_volumes, _law_harms | _law_at, _law_volume) -/
def b__law_due : MS := sSeq (sSet 0 (mFz (mLc 4 [3] (mSeq (mVar 0)) (gN 3) (mYes) (mBi dList (mCons (mVar 3) (mNil))))))
    (sSeq (sFor (mRng1 (mCons (mBi dLen (mCons (mVar 1) (mNil))) (mNil))) (gN 2) (sSeq (sIf (mTr (mCall (f__law_is_wrong) (mCons (mBin dIxK (mVar 1) (mVar 2)) (mCons (mBi dLen (mCons (mVar 0) (mNil))) (mNil))))) (sRet (mTup (mCons (mC (.str "value")) (mCons (mVar 2) (mNil))))) (sNext))
    (sSet 0 (mFz (mCall (f__law_done) (mCons (mVar 0) (mCons (mBin dIxK (mVar 1) (mVar 2)) (mNil))))))))
    (sRet (mTup (mCons (mC (.str "told")) (mCons (mBi dTuple (mCons (mLc 4 [3] (mSeq (mVar 0)) (gN 3) (mYes) (mBi dTuple (mCons (mVar 3) (mNil)))) (mNil))) (mNil))))))
def f__law_due : FS := fnSem 4 2 [] b__law_due

/-- _law_told(_law_volumes, _law_harms | e) -/
def b__law_told : MS := sSeq (sTryAs 2 mt_BadValue (sRet (mTup (mCons (mC (.str "told")) (mCons (mCall (f_harmed) (mCons (mVar 0) (mCons (mVar 1) (mNil)))) (mNil))))) (fun a dx c => sIf (mTr (mBi (dIsX a dx c 1 0 true) (mCons (mVar 2) (mCons (mC (.cls 0)) (mNil))))) (sRet (mTup (mCons (mC (.str "value")) (mCons (mXf a dx c 1 "at" (mVar 2)) (mNil))))) (sNext)))
    (sRet (mTup (mCons (mC (.str "other")) (mCons (mC (.int 0)) (mNil)))))
def f__law_told : FS := fnSem 3 2 [] b__law_told

/-- _law_handed(_law_pool_here, _law_row) -/
def b__law_handed : MS := sSeq (sIf (mTe (mBin dEq (mCall (f__law_draw) (mCons (mOwn 0) (mCons (mC (.int 2)) (mNil)))) (mC (.int 0)))) (sRet (mBi dTuple (mCons (mVar 1) (mNil)))) (sNext))
    (sRet (mBi dList (mCons (mVar 1) (mNil))))
def f__law_handed : FS := fnSem 2 2 [0] b__law_handed

/-- law(_law_script | _law_pool_here, _law_volumes, _law_v, _law_harms, _law_many, _law_odd, _law_turn, _law_handed_here, _law_given, _law_kept, _law_due_here, _law_size, _law_harm_here, _law_k) -/
def b_law : MS := sSeq (sSet 1 (mCall (f__law_pool) (mCons (mVar 0) (mNil))))
    (sSeq (sSet 2 (mLst (mNil)))
    (sSeq (sFor (mRng1 (mCons (mBin dIxK (mLst (mCons (mC (.int 0)) (mCons (mC (.int 1)) (mCons (mC (.int 2)) (mCons (mC (.int 3)) (mCons (mC (.int 4)) (mCons (mC (.int 5)) (mCons (mC (.int 2)) (mCons (mC (.int 3)) (mNil)))))))))) (mCall (f__law_draw) (mCons (mOwn 1) (mCons (mC (.int 8)) (mNil))))) (mNil))) (gN 3) (sSeq (sSet 12 (mBin dIxK (mLst (mCons (mC (.int 0)) (mCons (mCall (f__law_draw) (mCons (mOwn 1) (mCons (mC (.int 13)) (mNil)))) (mCons (mC (.int 12)) (mNil))))) (mCall (f__law_draw) (mCons (mOwn 1) (mCons (mC (.int 3)) (mNil))))))
    (sExpr (mMut 2 lAppend (mCons (mCall (f__law_handed) (mCons (mOwn 1) (mCons (mLc 15 [14] (mRng1 (mCons (mVar 12) (mNil))) (gN 14) (mYes) (mBin dIxK (mLst (mCons (mCall (f__law_draw) (mCons (mOwn 1) (mCons (mC (.int 129)) (mNil)))) (mCons (mC (.int 128)) (mNil)))) (mCall (f__law_draw) (mCons (mOwn 1) (mCons (mC (.int 2)) (mNil)))))) (mNil)))) (mNil))))))
    (sSeq (sSet 4 (mLst (mNil)))
    (sSeq (sSet 5 (mFz (mBi dLen (mCons (mOwn 2) (mNil)))))
    (sSeq (sSet 6 (mFz (mLst (mCons (mCall (f__law_draw) (mCons (mOwn 1) (mCons (mC (.int 7)) (mNil)))) (mCons (mCall (f__law_draw) (mCons (mOwn 1) (mCons (mC (.int 7)) (mNil)))) (mNil))))))
    (sSeq (sIf (mTe (mBin dEq (mCall (f__law_draw) (mCons (mOwn 1) (mCons (mC (.int 2)) (mNil)))) (mC (.int 0)))) (sSet 6 (mFz (mLst (mNil)))) (sNext))
    (sSeq (sFor (mRng1 (mCons (mCall (f__law_draw) (mCons (mOwn 1) (mCons (mC (.int 8)) (mNil)))) (mNil))) (gN 7) (sSeq (sSet 13 (mFz (mCall (f__law_harm) (mCons (mOwn 1) (mCons (mVar 5) (mNil))))))
    (sSeq (sIf (mTe (mBin dIn (mVar 7) (mVar 6))) (sSet 13 (mFz (mCall (f__law_spoilt) (mCons (mOwn 1) (mCons (mVar 13) (mCons (mVar 5) (mNil))))))) (sNext))
    (sSeq (sExpr (mMut 4 lAppend (mCons (mVar 13) (mNil))))
    (sSet 5 (mFz (mBin dAdd (mVar 5) (mBi dInt (mCons (mAndV (mBin dEq (mBin dIxK (mVar 13) (mC (.int 0))) (mC (.str "double"))) (mNotV (mCall (f__law_is_wrong) (mCons (mVar 13) (mCons (mVar 5) (mNil)))))) (mNil))))))))))
    (sSeq (sSet 8 (mFz (mCall (f__law_handed) (mCons (mOwn 1) (mCons (mFz (mOwn 2)) (mNil))))))
    (sSeq (sSet 9 (mFz (mCall (f__law_handed) (mCons (mOwn 1) (mCons (mFz (mOwn 4)) (mNil))))))
    (sSeq (sSet 10 (mFz (mBi dRepr (mCons (mTup (mCons (mVar 8) (mCons (mVar 9) (mNil)))) (mNil)))))
    (sSeq (sSet 11 (mFz (mCall (f__law_due) (mCons (mFz (mOwn 2)) (mCons (mFz (mOwn 4)) (mNil))))))
    (sSeq (sIf (mOr (mNot (mTr (mCall (f__law_same 12) (mCons (mCall (f__law_told) (mCons (mVar 8) (mCons (mVar 9) (mNil)))) (mCons (mVar 11) (mNil)))))) (mNot (mTr (mCall (f__law_same 12) (mCons (mCall (f__law_told) (mCons (mVar 8) (mCons (mVar 9) (mNil)))) (mCons (mVar 11) (mNil))))))) (sRet (mC (.bl false))) (sNext))
    (sRet (mBin dEq (mBi dRepr (mCons (mTup (mCons (mVar 8) (mCons (mVar 9) (mNil)))) (mNil))) (mVar 10)))))))))))))))
def f_law : FS := fnSem 15 1 [] b_law
end Tl

namespace Tl
open PySem L2 Mv
def top (i : Nat) : Stmt := PySem.Challenge.pw_mendvault_k50_harms_by_own_lists.main.body.getD i (.Pass ⟨0, 0, 0, 0⟩)
def d_is_integer : He.DefD := ⟨("is_integer", none), "is_integer", "is_integer", defArgs (top 4), defBody (top 4), defScope (top 4), [], []⟩
def d_is_from_to : He.DefD := ⟨("is_from_to", none), "is_from_to", "is_from_to", defArgs (top 5), defBody (top 5), defScope (top 5), [], []⟩
def d_is_place : He.DefD := ⟨("is_place", none), "is_place", "is_place", defArgs (top 9), defBody (top 9), defScope (top 9), [], []⟩
def d_is_change : He.DefD := ⟨("is_change", none), "is_change", "is_change", defArgs (top 10), defBody (top 10), defScope (top 10), [], []⟩
def d_is_let : He.DefD := ⟨("is_let", none), "is_let", "is_let", defArgs (top 11), defBody (top 11), defScope (top 11), [], []⟩
def d_changed : He.DefD := ⟨("changed", none), "changed", "changed", defArgs (top 12), defBody (top 12), defScope (top 12), [], []⟩
def d_harm_done : He.DefD := ⟨("harm_done", none), "harm_done", "harm_done", defArgs (top 13), defBody (top 13), defScope (top 13), [], []⟩
def d_harmed : He.DefD := ⟨("harmed", none), "harmed", "harmed", defArgs (top 14), defBody (top 14), defScope (top 14), [], []⟩
def d__law_mixed : He.DefD := ⟨("_law_mixed", none), "_law_mixed", "_law_mixed", defArgs (top 16), defBody (top 16), defScope (top 16), [], []⟩
def d__law_pool : He.DefD := ⟨("_law_pool", none), "_law_pool", "_law_pool", defArgs (top 17), defBody (top 17), defScope (top 17), [], []⟩
def d__law_draw : He.DefD := ⟨("_law_draw", none), "_law_draw", "_law_draw", defArgs (top 18), defBody (top 18), defScope (top 18), [], []⟩
def d__law_same : He.DefD := ⟨("_law_same", none), "_law_same", "_law_same", defArgs (top 19), defBody (top 19), defScope (top 19), [], []⟩
def d__law_wrong_volume : He.DefD := ⟨("_law_wrong_volume", none), "_law_wrong_volume", "_law_wrong_volume", defArgs (top 20), defBody (top 20), defScope (top 20), [], []⟩
def d__law_integers : He.DefD := ⟨("_law_integers", none), "_law_integers", "_law_integers", defArgs (top 21), defBody (top 21), defScope (top 21), [], []⟩
def d__law_harm : He.DefD := ⟨("_law_harm", none), "_law_harm", "_law_harm", defArgs (top 22), defBody (top 22), defScope (top 22), [], []⟩
def d__law_spoilt : He.DefD := ⟨("_law_spoilt", none), "_law_spoilt", "_law_spoilt", defArgs (top 23), defBody (top 23), defScope (top 23), [], []⟩
def d__law_is_wrong : He.DefD := ⟨("_law_is_wrong", none), "_law_is_wrong", "_law_is_wrong", defArgs (top 24), defBody (top 24), defScope (top 24), [], []⟩
def d__law_done : He.DefD := ⟨("_law_done", none), "_law_done", "_law_done", defArgs (top 25), defBody (top 25), defScope (top 25), [], []⟩
def d__law_due : He.DefD := ⟨("_law_due", none), "_law_due", "_law_due", defArgs (top 26), defBody (top 26), defScope (top 26), [], []⟩
def d__law_told : He.DefD := ⟨("_law_told", none), "_law_told", "_law_told", defArgs (top 27), defBody (top 27), defScope (top 27), [], []⟩
def d__law_handed : He.DefD := ⟨("_law_handed", none), "_law_handed", "_law_handed", defArgs (top 28), defBody (top 28), defScope (top 28), [], []⟩
def d_law : He.DefD := ⟨("law", none), "law", "law", defArgs (top 29), defBody (top 29), defScope (top 29), [], []⟩
def fn : List He.DefD := [d_is_integer, d_is_from_to, d_is_place, d_is_change, d_is_let, d_changed, d_harm_done, d_harmed, d__law_mixed, d__law_pool, d__law_draw, d__law_same, d__law_wrong_volume, d__law_integers, d__law_harm, d__law_spoilt, d__law_is_wrong, d__law_done, d__law_due, d__law_told, d__law_handed, d_law]
def fa : List He.Fa := [.free "int", .free "isinstance", .free "bool", .glo "is_integer", .glo "is_from_to", .glo "is_place", .free "tuple", .free "list", .free "len", .int "MOST_CHANGED" 4, .int "GREATEST" 128, .free "all", .glo "is_change", .glo "is_let", .free "max", .glo "changed", .glo "harm_done", .free "enumerate", .glo "BadValue", .glo "harmed", .glo "_law_mixed", .glo "_law_pool", .glo "_law_draw", .free "range", .free "str", .glo "_law_same", .glo "_law_wrong_volume", .glo "_law_integers", .glo "_law_harm", .glo "_law_spoilt", .glo "_law_is_wrong", .glo "_law_done", .glo "_law_due", .glo "VaultError", .glo "_law_told", .glo "_law_handed", .free "repr", .glo "law"]
def file : PySem.Str := "/claim/cut.py"
def clsN : List PySem.Str := [Str.ofString "VaultError", Str.ofString "BadValue", Str.ofString "VaultError", Str.ofString "VaultError", Str.ofString "VaultError", Str.ofString "VaultError", Str.ofString "VaultError", Str.ofString "VaultError", Str.ofString "VaultError"]
def x_BadValue : Mh.XSp := ⟨"BadValue", "BadValue.__init__", "at", "at", fun | 0 => ⟨7, 8, 7, 13⟩ | 1 => ⟨7, 8, 7, 15⟩ | 2 => ⟨7, 8, 7, 24⟩ | 3 => ⟨7, 25, 7, 27⟩ | 4 => ⟨7, 8, 7, 28⟩ | 5 => ⟨7, 8, 7, 28⟩ | 6 => ⟨8, 8, 8, 12⟩ | 7 => ⟨8, 8, 8, 15⟩ | 8 => ⟨8, 18, 8, 20⟩ | _ => ⟨8, 8, 8, 20⟩, ⟨6, 17, 6, 21⟩, ⟨6, 23, 6, 25⟩⟩
theorem xt_BadValue : Mh.XTx x_BadValue := ⟨by decide, by decide, by decide, by decide, fun _ _ _ _ _ _ _ _ _ _ _ => rfl, fun _ => ⟨_, rfl⟩⟩
def cls (K : PySem.W.Frag) : Nat → Addr := Mh.clsA clsN K
def xs : List Mh.XSp := [x_BadValue]
def cks : List (PySem.W.Frag → Bool) := [fun K => Mh.xB file K x_BadValue, fun K => Mh.rowB clsN K row_VaultError 0, fun K => Mh.rowB clsN K row_BadValue 1, fun K => exkB K (cls K 1), fun K => kiB (cls K) K 1 0 true]
abbrev TX : Program → PySem.W.Frag → (Str → Option Value) → Prop := Tx fa fn xs cks file
section
variable {P : Program} {w : World} {K : PySem.W.Frag} {mg : Str → Option Value} {base : Heap}
theorem xc_BadValue (T : TX P K mg) : (∃ fI cc cda, Mx.XcC P K (cls K 1) fI cc cda x_BadValue.x x_BadValue.f x_BadValue.p x_BadValue.q1 x_BadValue.q2) ∧ XfC K (cls K 1) ∧ PySem.W.findIn K (.ref (cls K 1)) "at" = some none := T.exc 0 0 rfl rfl xt_BadValue
theorem exk_1 (T : TX P K mg) : ExK K (cls K 1) := exkB_ok (T.ck 3 rfl)
theorem ki_1_0 (T : TX P K mg) : PySem.W.kitOne K (.ref (cls K 1)) (.ref (cls K 0)) = some true := kiB_ok (T.ck 4 rfl)
theorem mt_ok_VaultError (T : TX P K mg) : ∀ k, PySem.W.exmOne K (.ref (cls K k)) (.ref (He.ga K "VaultError")) = some (mt_VaultError k) := Mh.rowB_ok (i := 0) (by decide) (T.ck 1 rfl)
theorem mt_ok_BadValue (T : TX P K mg) : ∀ k, PySem.W.exmOne K (.ref (cls K k)) (.ref (He.ga K "BadValue")) = some (mt_BadValue k) := Mh.rowB_ok (i := 1) (by decide) (T.ck 2 rfl)
theorem sc_is_integer : FnScope [Str.ofString "value"] [Str.ofString "value"] (defScope (top 4)) := ⟨rfl, rfl, rfl, by decide +kernel, rfl, by decide +kernel, by decide +kernel⟩
theorem fnc_is_integer (T : TX P K mg) : Fnc P w K mg base (cls K) 1 "is_integer" (top 4) [Str.ofString "value"] f_is_integer := by
  obtain ⟨fd, F⟩ := T.def_ 0 (d := d_is_integer) rfl
  exact ⟨⟨_, fd, fn_ok F sc_is_integer fun cdv A outer s H E g =>
    (cOne (kRet (qAnd (qB b_isi rfl (T.free 1 rfl) (by decide +kernel) (aCons (qVar (pv 0)) (aCons (qTy rfl (T.free 0 rfl) (by decide +kernel)) aNil))) (qOne (qNot (qB b_isi rfl (T.free 1 rfl) (by decide +kernel) (aCons (qVar (pv 0)) (aCons (qTy rfl (T.free 2 rfl) (by decide +kernel)) aNil)))))))), T.glo 3 rfl, F, F.bindsN fun _ _ _ _ _ _ us hl => match us, hl with | [_], _ => rfl⟩⟩

theorem sc_is_from_to : FnScope [Str.ofString "value", Str.ofString "least", Str.ofString "most"] [Str.ofString "value", Str.ofString "least", Str.ofString "most"] (defScope (top 5)) := ⟨rfl, rfl, rfl, by decide +kernel, rfl, by decide +kernel, by decide +kernel⟩
theorem fnc_is_from_to (T : TX P K mg) : Fnc P w K mg base (cls K) 2 "is_from_to" (top 5) [Str.ofString "value", Str.ofString "least", Str.ofString "most"] f_is_from_to := by
  obtain ⟨fd, F⟩ := T.def_ 1 (d := d_is_from_to) rfl
  exact ⟨⟨_, fd, fn_ok F sc_is_from_to fun cdv A outer s H E g =>
    (cOne (kRet (qAnd (qCall (fnc_is_integer T) g (by decide) rfl (aCons (qVar (pv 0)) aNil)) (qOne (qChain o_le o_le (qVar (pv 1)) (qVar (pv 0)) (qVar (pv 2))))))), T.glo 4 rfl, F, F.bindsN fun _ _ _ _ _ _ us hl => match us, hl with | [_, _, _], _ => rfl⟩⟩

theorem sc_is_place : FnScope [Str.ofString "value"] [Str.ofString "value"] (defScope (top 9)) := ⟨rfl, rfl, rfl, by decide +kernel, rfl, by decide +kernel, by decide +kernel⟩
theorem fnc_is_place (T : TX P K mg) : Fnc P w K mg base (cls K) 2 "is_place" (top 9) [Str.ofString "value"] f_is_place := by
  obtain ⟨fd, F⟩ := T.def_ 2 (d := d_is_place) rfl
  exact ⟨⟨_, fd, fn_ok F sc_is_place fun cdv A outer s H E g =>
    (cOne (kRet (qAnd (qCall (fnc_is_integer T) g (by decide) rfl (aCons (qVar (pv 0)) aNil)) (qOne (qCmp o_ge (qVar (pv 0)) qInt (nomark _)))))), T.glo 5 rfl, F, F.bindsN fun _ _ _ _ _ _ us hl => match us, hl with | [_], _ => rfl⟩⟩

theorem sc_is_change : FnScope [Str.ofString "place", Str.ofString "integers", Str.ofString "one"] [Str.ofString "place", Str.ofString "integers"] (defScope (top 10)) := ⟨rfl, rfl, rfl, by decide +kernel, rfl, by decide +kernel, by decide +kernel⟩
theorem fnc_is_change (T : TX P K mg) : Fnc P w K mg base (cls K) 3 "is_change" (top 10) [Str.ofString "place", Str.ofString "integers"] f_is_change := by
  obtain ⟨fd, F⟩ := T.def_ 3 (d := d_is_change) rfl
  exact ⟨⟨_, fd, fn_ok F sc_is_change fun cdv A outer s H E g =>
    (cCons (kIf (tBo (wOr (tNot (tTru (qCall (fnc_is_place T) g (by decide) rfl (aCons (qVar (pv 0)) aNil)))) (wOr (tNot (tTru (qB b_isi rfl (T.free 1 rfl) (by decide +kernel) (aCons (qVar (pv 1)) (aCons (qTup (aCons (qTy rfl (T.free 7 rfl) (by decide +kernel)) (aCons (qTy rfl (T.free 6 rfl) (by decide +kernel)) aNil))) aNil))))) (wOr1 (tNot (tChain o_le o_le qInt (qB b_len rfl (T.free 8 rfl) (by decide +kernel) (aCons (qVar (pv 1)) aNil)) (qGI rfl (T.int 9 rfl)))))))) (cOne (kRet qBl)) cNil)
    (cOne (kRet (qB (b_all g.calm) rfl (T.free 11 rfl) (by decide +kernel) (aCons (qLc (own := [(Str.ofString "one", 2)]) (n := 3) g (iSeq (qVar (pv 1))) (blkOk_by (N := [Str.ofString "place", Str.ofString "integers", Str.ofString "one"]) (sc := defScope (top 10)) (own := [(Str.ofString "one", 2)]) (by decide +kernel)) (fun _ _ _ _ _ => (tgN (i := 2) g.nd rfl (by first | exact Or.inl rfl | exact Or.inr rfl) (by decide))) (fun _ _ _ _ _ => tNoIf) (fun _ _ _ _ _ g => (qCall (fnc_is_from_to T) g (by decide) rfl (aCons (qVar (pv 2)) (aCons qInt (aCons (qGI rfl (T.int 10 rfl)) aNil)))))) aNil))))), T.glo 12 rfl, F, F.bindsN fun _ _ _ _ _ _ us hl => match us, hl with | [_, _], _ => rfl⟩⟩

theorem sc_is_let : FnScope [Str.ofString "harm", Str.ofString "many"] [Str.ofString "harm", Str.ofString "many"] (defScope (top 11)) := ⟨rfl, rfl, rfl, by decide +kernel, rfl, by decide +kernel, by decide +kernel⟩
theorem fnc_is_let (T : TX P K mg) : Fnc P w K mg base (cls K) 4 "is_let" (top 11) [Str.ofString "harm", Str.ofString "many"] f_is_let := by
  obtain ⟨fd, F⟩ := T.def_ 4 (d := d_is_let) rfl
  exact ⟨⟨_, fd, fn_ok F sc_is_let fun cdv A outer s H E g =>
    (cCons (kIf (tNot (tTru (qCall (fnc_is_from_to T) g (by decide) rfl (aCons (qIxK g.room.units (qVar (pv 0)) qInt) (aCons qInt (aCons (qBin o_sub (qVar (pv 1)) qInt) aNil)))))) (cOne (kRet qBl)) cNil)
    (cCons (kIf (tCmp (o_eq g.room.units) (qIxK g.room.units (qVar (pv 0)) qInt) qStr (nomark _)) (cOne (kRet (qCall (fnc_is_change T) g (by decide) rfl (aCons (qIxK g.room.units (qVar (pv 0)) qInt) (aCons (qIxK g.room.units (qVar (pv 0)) qInt) aNil))))) cNil)
    (cCons (kIf (tCmp (o_eq g.room.units) (qIxK g.room.units (qVar (pv 0)) qInt) qStr (nomark _)) (cOne (kRet (qAnd (qCall (fnc_is_place T) g (by decide) rfl (aCons (qIxK g.room.units (qVar (pv 0)) qInt) aNil)) (qAnd (qCall (fnc_is_integer T) g (by decide) rfl (aCons (qIxK g.room.units (qVar (pv 0)) qInt) aNil)) (qOne (qCmp o_le (qIxK g.room.units (qVar (pv 0)) qInt) (qIxK g.room.units (qVar (pv 0)) qInt) (nomark _))))))) cNil)
    (cOne (kRet (qOr (qCmp (o_ne g.room.units) (qIxK g.room.units (qVar (pv 0)) qInt) qStr (nomark _)) (qOne (qCall (fnc_is_from_to T) g (by decide) rfl (aCons (qIxK g.room.units (qVar (pv 0)) qInt) (aCons qInt (aCons (qBin o_sub (qVar (pv 1)) qInt) aNil))))))))))), T.glo 13 rfl, F, F.bindsN fun _ _ _ _ _ _ us hl => match us, hl with | [_, _], _ => rfl⟩⟩

theorem sc_changed : FnScope [Str.ofString "volume", Str.ofString "place", Str.ofString "integers", Str.ofString "fitting"] [Str.ofString "volume", Str.ofString "place", Str.ofString "integers"] (defScope (top 12)) := ⟨rfl, rfl, rfl, by decide +kernel, rfl, by decide +kernel, by decide +kernel⟩
theorem fnc_changed (T : TX P K mg) : Fnc P w K mg base (cls K) 1 "changed" (top 12) [Str.ofString "volume", Str.ofString "place", Str.ofString "integers"] f_changed := by
  obtain ⟨fd, F⟩ := T.def_ 5 (d := d_changed) rfl
  exact ⟨⟨_, fd, fn_ok F sc_changed fun cdv A outer s H E g =>
    (cCons (kSet (i := 3) g.nd rfl (by first | exact Or.inl rfl | exact Or.inr rfl) (by decide) (qFz (qSl (qT b_tuple rfl (T.free 6 rfl) (by decide +kernel) (aCons (qVar (pv 2)) aNil)) oN (oS (qB (b_max2 g.calm) rfl (T.free 14 rfl) (by decide +kernel) (aCons qInt (aCons (qBin o_sub (qB b_len rfl (T.free 8 rfl) (by decide +kernel) (aCons (qVar (pv 0)) aNil)) (qVar (pv 1))) aNil)))))))
    (cOne (kRet (qBin o_add (qBin o_add (qSl (qVar (pv 0)) oN (oS (qVar (pv 1)))) (qVar (pv 3))) (qSl (qVar (pv 0)) (oS (qBin o_add (qVar (pv 1)) (qB b_len rfl (T.free 8 rfl) (by decide +kernel) (aCons (qVar (pv 3)) aNil)))) oN))))), T.glo 15 rfl, F, F.bindsN fun _ _ _ _ _ _ us hl => match us, hl with | [_, _, _], _ => rfl⟩⟩

theorem sc_harm_done : FnScope [Str.ofString "volumes", Str.ofString "harm", Str.ofString "left", Str.ofString "word", Str.ofString "at"] [Str.ofString "volumes", Str.ofString "harm"] (defScope (top 13)) := ⟨rfl, rfl, rfl, by decide +kernel, rfl, by decide +kernel, by decide +kernel⟩
theorem fnc_harm_done (T : TX P K mg) : Fnc P w K mg base (cls K) 2 "harm_done" (top 13) [Str.ofString "volumes", Str.ofString "harm"] f_harm_done := by
  obtain ⟨fd, F⟩ := T.def_ 6 (d := d_harm_done) rfl
  exact ⟨⟨_, fd, fn_ok F sc_harm_done fun cdv A outer s H E g =>
    (cCons (kAsg (qSl (qVar (pv 1)) oN (oS qInt)) (tgT g.calm (tgsC (tgN (i := 3) g.nd rfl (by first | exact Or.inl rfl | exact Or.inr rfl) (by decide)) (tgsC (tgN (i := 4) g.nd rfl (by first | exact Or.inl rfl | exact Or.inr rfl) (by decide)) tgsN))))
    (cCons (kSet (i := 2) g.nd rfl (by first | exact Or.inl rfl | exact Or.inr rfl) (by decide) (qT b_list rfl (T.free 7 rfl) (by decide +kernel) (aCons (qVar (pv 0)) aNil)))
    (cCons (kIf (tCmp (o_eq g.room.units) (qVar (pv 3)) qStr (nomark _)) (cOne (kPut (pv 2) (qVar (pv 4)) (qTup aNil) (pg_sub (pv 2) (qVar (pv 4)) set_list))) (cOne (kIf (tCmp (o_eq g.room.units) (qVar (pv 3)) qStr (nomark _)) (cOne (kPut (pv 2) (qVar (pv 4)) (qCall (fnc_changed T) g (by decide) rfl (aCons (qIxK g.room.units (qOwn (pv 2)) (qVar (pv 4))) (aCons (qIxK g.room.units (qVar (pv 1)) qInt) (aCons (qIxK g.room.units (qVar (pv 1)) qInt) aNil)))) (pg_sub (pv 2) (qVar (pv 4)) set_list))) (cOne (kIf (tCmp (o_eq g.room.units) (qVar (pv 3)) qStr (nomark _)) (cOne (kPut (pv 2) (qVar (pv 4)) (qBin o_add (qSl (qIxK g.room.units (qOwn (pv 2)) (qVar (pv 4))) oN (oS (qIxK g.room.units (qVar (pv 1)) qInt))) (qSl (qIxK g.room.units (qOwn (pv 2)) (qVar (pv 4))) (oS (qIxK g.room.units (qVar (pv 1)) qInt)) oN)) (pg_sub (pv 2) (qVar (pv 4)) set_list))) (cOne (kIf (tCmp (o_eq g.room.units) (qVar (pv 3)) qStr (nomark _)) (cCons (kPut (pv 2) (qVar (pv 4)) (qIxK g.room.units (qVar (pv 0)) (qIxK g.room.units (qVar (pv 1)) qInt)) (pg_sub (pv 2) (qVar (pv 4)) set_list))
    (cOne (kPut (pv 2) (qIxK g.room.units (qVar (pv 1)) qInt) (qIxK g.room.units (qVar (pv 0)) (qVar (pv 4))) (pg_sub (pv 2) (qIxK g.room.units (qVar (pv 1)) qInt) set_list)))) (cOne (kExpr (qMut PySem.F.slot_list_append PySem.F.type_list_append mt_append mu_append (pv 2) (aCons (qIxK g.room.units (qOwn (pv 2)) (qVar (pv 4))) aNil)))))))))))
    (cOne (kRet (qOwn (pv 2))))))), T.glo 16 rfl, F, F.bindsN fun _ _ _ _ _ _ us hl => match us, hl with | [_, _], _ => rfl⟩⟩

theorem sc_harmed : FnScope [Str.ofString "volumes", Str.ofString "harms", Str.ofString "left", Str.ofString "number", Str.ofString "harm", Str.ofString "volume"] [Str.ofString "volumes", Str.ofString "harms"] (defScope (top 14)) := ⟨rfl, rfl, rfl, by decide +kernel, rfl, by decide +kernel, by decide +kernel⟩
theorem fnc_harmed (T : TX P K mg) : Fnc P w K mg base (cls K) 5 "harmed" (top 14) [Str.ofString "volumes", Str.ofString "harms"] f_harmed := by
  obtain ⟨fd, F⟩ := T.def_ 7 (d := d_harmed) rfl
  exact ⟨⟨_, fd, fn_ok F sc_harmed fun cdv A outer s H E g =>
    (cCons (kSetLcF (i := 2) (own := [(Str.ofString "volume", 5)]) (n := 6) g (by rfl) (by rfl) (by decide) (sw_true rfl rfl rfl (by decide +kernel)) (iSeq (qVar (pv 0))) (blkOk_by (N := [Str.ofString "volumes", Str.ofString "harms", Str.ofString "left", Str.ofString "number", Str.ofString "harm", Str.ofString "volume"]) (sc := defScope (top 14)) (own := [(Str.ofString "volume", 5)]) (by decide +kernel)) (fun _ _ _ _ _ => (tgN (i := 5) g.nd rfl (by first | exact Or.inl rfl | exact Or.inr rfl) (by decide))) (fun _ _ _ _ _ => tNoIf) (fun _ _ _ _ _ g => (qT b_tuple rfl (T.free 6 rfl) (by decide +kernel) (aCons (qVar (pv 5)) aNil))))
    (cCons (kFor g (iEnumT' rfl (T.free 17 rfl) (qVar (pv 1))) (tgT g.calm (tgsC (tgN (i := 3) g.nd rfl (by first | exact Or.inl rfl | exact Or.inr rfl) (by decide)) (tgsC (tgN (i := 4) g.nd rfl (by first | exact Or.inl rfl | exact Or.inr rfl) (by decide)) tgsN))) (cCons (kIf (tNot (tTru (qCall (fnc_is_let T) g (by decide) rfl (aCons (qVar (pv 4)) (aCons (qB b_len rfl (T.free 8 rfl) (by decide +kernel) (aCons (qVar (pv 2)) aNil)) aNil))))) (cOne (kRaise (xc_BadValue T).1 g (by decide) rfl (T.glo 18 rfl) (qVar (pv 3)))) cNil)
    (cOne (kSet (i := 2) g.nd rfl (by first | exact Or.inl rfl | exact Or.inr rfl) (by decide) (qFz (qCall (fnc_harm_done T) g (by decide) rfl (aCons (qVar (pv 2)) (aCons (qVar (pv 4)) aNil))))))))
    (cOne (kRet (qT b_tuple rfl (T.free 6 rfl) (by decide +kernel) (aCons (qVar (pv 2)) aNil)))))), T.glo 19 rfl, F, F.bindsN fun _ _ _ _ _ _ us hl => match us, hl with | [_, _], _ => rfl⟩⟩

theorem sc__law_mixed : FnScope [Str.ofString "_law_a", Str.ofString "_law_b", Str.ofString "_law_one", Str.ofString "_law_two"] [Str.ofString "_law_a", Str.ofString "_law_b"] (defScope (top 16)) := ⟨rfl, rfl, rfl, by decide +kernel, rfl, by decide +kernel, by decide +kernel⟩
theorem fnc__law_mixed (T : TX P K mg) : Fnc P w K mg base (cls K) 1 "_law_mixed" (top 16) [Str.ofString "_law_a", Str.ofString "_law_b"] f__law_mixed := by
  obtain ⟨fd, F⟩ := T.def_ 8 (d := d__law_mixed) rfl
  exact ⟨⟨_, fd, fn_ok F sc__law_mixed fun cdv A outer s H E g =>
    (cCons (kSet (i := 2) g.nd rfl (by first | exact Or.inl rfl | exact Or.inr rfl) (by decide) (qFz (qBin o_mod (qBin o_add (qBin o_add (qBin o_mul (qBin o_mod (qT b_int rfl (T.free 0 rfl) (by decide +kernel) (aCons (qVar (pv 0)) aNil)) qInt) qInt) (qBin o_mul (qBin o_mod (qT b_int rfl (T.free 0 rfl) (by decide +kernel) (aCons (qVar (pv 1)) aNil)) qInt) qInt)) qInt) qInt)))
    (cCons (kSet (i := 3) g.nd rfl (by first | exact Or.inl rfl | exact Or.inr rfl) (by decide) (qFz (qBin o_mod (qBin o_add (qBin o_add (qBin o_add (qBin o_mul (qVar (pv 2)) (qVar (pv 2))) (qBin o_mul (qVar (pv 2)) qInt)) (qBin o_mul (qBin o_mod (qT b_int rfl (T.free 0 rfl) (by decide +kernel) (aCons (qVar (pv 1)) aNil)) qInt) qInt)) qInt) qInt)))
    (cOne (kRet (qBin o_mod (qBin o_add (qBin o_mul (qVar (pv 3)) qInt) (qBin o_fdiv (qVar (pv 2)) qInt)) qInt))))), T.glo 20 rfl, F, F.bindsN fun _ _ _ _ _ _ us hl => match us, hl with | [_, _], _ => rfl⟩⟩

theorem sc__law_pool : FnScope [Str.ofString "_law_script"] [Str.ofString "_law_script"] (defScope (top 17)) := ⟨rfl, rfl, rfl, by decide +kernel, rfl, by decide +kernel, by decide +kernel⟩
theorem fnc__law_pool (T : TX P K mg) : Fnc P w K mg base (cls K) 1 "_law_pool" (top 17) [Str.ofString "_law_script"] f__law_pool := by
  obtain ⟨fd, F⟩ := T.def_ 9 (d := d__law_pool) rfl
  exact ⟨⟨_, fd, fn_ok F sc__law_pool fun cdv A outer s H E g =>
    (cOne (kRet (qLst (aCons (qT b_list rfl (T.free 7 rfl) (by decide +kernel) (aCons (qVar (pv 0)) aNil)) (aCons qInt (aCons qInt (aCons qInt (aCons qInt (aCons qNon aNil))))))))), T.glo 21 rfl, F, F.bindsN fun _ _ _ _ _ _ us hl => match us, hl with | [_], _ => rfl⟩⟩

theorem sc__law_draw : FnScope [Str.ofString "_law_pool_here", Str.ofString "_law_many", Str.ofString "_law_rest", Str.ofString "_law_cells", Str.ofString "_law_cell"] [Str.ofString "_law_pool_here", Str.ofString "_law_many"] (defScope (top 18)) := ⟨rfl, rfl, rfl, by decide +kernel, rfl, by decide +kernel, by decide +kernel⟩
theorem fnc__law_draw (T : TX P K mg) : Fnc P w K mg base (cls K) 2 "_law_draw" (top 18) [Str.ofString "_law_pool_here", Str.ofString "_law_many"] f__law_draw := by
  obtain ⟨fd, F⟩ := T.def_ 10 (d := d__law_draw) rfl
  exact ⟨⟨_, fd, fn_ok F sc__law_draw fun cdv A outer s H E g =>
    (cCons (kSet (i := 2) g.nd rfl (by first | exact Or.inl rfl | exact Or.inr rfl) (by decide) (qIxK g.room.units (qOwn (pv 0)) qInt))
    (cCons (kIf (tBo (wAnd (tCmp o_lt (qVar (pv 2)) qInt (nomark _)) (wAnd1 (tCmp o_lt (qIxK g.room.units (qOwn (pv 0)) qInt) (qB b_len rfl (T.free 8 rfl) (by decide +kernel) (aCons (qIxK g.room.units (qOwn (pv 0)) qInt) aNil)) (nomark _))))) (cCons (kSet (i := 3) g.nd rfl (by first | exact Or.inl rfl | exact Or.inr rfl) (by decide) (qIxK g.room.units (qOwn (pv 0)) qInt))
    (cCons (kSet (i := 4) g.nd rfl (by first | exact Or.inl rfl | exact Or.inr rfl) (by decide) (qIxK g.room.units (qVar (pv 3)) (qIxK g.room.units (qOwn (pv 0)) qInt)))
    (cCons (kPut (pv 0) qInt (qBin o_add (qIxK g.room.units (qOwn (pv 0)) qInt) qInt) (pg_sub (pv 0) qInt set_list))
    (cCons (kIf (tCmp o_ge (qVar (pv 4)) (qBin o_pow qInt qInt) (nomark _)) (cCons (kSet (i := 2) g.nd rfl (by first | exact Or.inl rfl | exact Or.inr rfl) (by decide) (qFz (qBin o_sub (qVar (pv 4)) (qBin o_pow qInt qInt))))
    (cCons (kPut (pv 0) qInt (qBin o_fdiv (qVar (pv 2)) (qVar (pv 1))) (pg_sub (pv 0) qInt set_list))
    (cCons (kPut (pv 0) qInt qInt (pg_sub (pv 0) qInt set_list))
    (cOne (kRet (qBin o_mod (qT b_int rfl (T.free 0 rfl) (by decide +kernel) (aCons (qVar (pv 2)) aNil)) (qVar (pv 1)))))))) cNil)
    (cOne (kPut (pv 0) qInt (qCall (fnc__law_mixed T) g (by decide) rfl (aCons (qBin o_add (qIxK g.room.units (qOwn (pv 0)) qInt) (qVar (pv 4))) (aCons (qIxK g.room.units (qOwn (pv 0)) qInt) aNil))) (pg_sub (pv 0) qInt set_list))))))) (cOne (kIf (tCmp o_lt (qVar (pv 2)) qInt (nomark _)) (cCons (kPut (pv 0) qInt (qBin o_add (qIxK g.room.units (qOwn (pv 0)) qInt) qInt) (pg_sub (pv 0) qInt set_list))
    (cOne (kPut (pv 0) qInt (qCall (fnc__law_mixed T) g (by decide) rfl (aCons (qIxK g.room.units (qOwn (pv 0)) qInt) (aCons (qBin o_add qInt (qIxK g.room.units (qOwn (pv 0)) qInt)) aNil))) (pg_sub (pv 0) qInt set_list)))) (cCons (kPut (pv 0) qInt (qBin o_sub (qIxK g.room.units (qOwn (pv 0)) qInt) qInt) (pg_sub (pv 0) qInt set_list))
    (cCons (kPut (pv 0) qInt (qBin o_mul (qBin o_fdiv (qVar (pv 2)) (qVar (pv 1))) (qT b_int rfl (T.free 0 rfl) (by decide +kernel) (aCons (qCmp o_gt (qIxK g.room.units (qOwn (pv 0)) qInt) qInt (nomark _)) aNil))) (pg_sub (pv 0) qInt set_list))
    (cOne (kRet (qBin o_mod (qT b_int rfl (T.free 0 rfl) (by decide +kernel) (aCons (qVar (pv 2)) aNil)) (qVar (pv 1))))))))))
    (cCons (kPut (pv 0) qInt qInt (pg_sub (pv 0) qInt set_list))
    (cOne (kRet (qBin o_mod (qT b_int rfl (T.free 0 rfl) (by decide +kernel) (aCons (qIxK g.room.units (qOwn (pv 0)) qInt) aNil)) (qVar (pv 1)))))))), T.glo 22 rfl, F, F.bindsN fun _ _ _ _ _ _ us hl => match us, hl with | [_, _], _ => rfl⟩⟩

theorem sc__law_same : FnScope [Str.ofString "_law_actual", Str.ofString "_law_due_here", Str.ofString "_law_k"] [Str.ofString "_law_actual", Str.ofString "_law_due_here"] (defScope (top 19)) := ⟨rfl, rfl, rfl, by decide +kernel, rfl, by decide +kernel, by decide +kernel⟩
theorem fnc__law_same (T : TX P K mg) : ∀ n : Nat, Fnc P w K mg base (cls K) (0 + n) "_law_same" (top 19) [Str.ofString "_law_actual", Str.ofString "_law_due_here"] (f__law_same n)
  | 0 => by
    obtain ⟨fd, F⟩ := T.def_ 11 (d := d__law_same) rfl
    exact ⟨⟨_, fd, fnOk_no, T.glo 25 rfl, F, F.bindsN fun _ _ _ _ _ _ us hl => match us, hl with | [_, _], _ => rfl⟩⟩
  | n + 1 => by
    obtain ⟨fd, F⟩ := T.def_ 11 (d := d__law_same) rfl
    have R := fnc__law_same T n
    exact ⟨⟨_, fd, fn_ok F sc__law_same fun cdv A outer s H E g =>
    (cCons (kIf (tCmp o_isN (qVar (pv 1)) qNon (nomark _)) (cOne (kRet (qCmp o_isN (qVar (pv 0)) qNon (nomark _)))) cNil)
    (cCons (kIf (tTru (qB b_isi rfl (T.free 1 rfl) (by decide +kernel) (aCons (qVar (pv 1)) (aCons (qTy rfl (T.free 6 rfl) (by decide +kernel)) aNil)))) (cCons (kIf (tBo (wOr (tNot (tTru (qB b_isi rfl (T.free 1 rfl) (by decide +kernel) (aCons (qVar (pv 0)) (aCons (qTy rfl (T.free 6 rfl) (by decide +kernel)) aNil))))) (wOr1 (tCmp (o_ne g.room.units) (qB b_len rfl (T.free 8 rfl) (by decide +kernel) (aCons (qVar (pv 0)) aNil)) (qB b_len rfl (T.free 8 rfl) (by decide +kernel) (aCons (qVar (pv 1)) aNil)) (nomark _))))) (cOne (kRet qBl)) cNil)
    (cCons (kFor g (iR1 rfl (T.free 23 rfl) (aCons (qB b_len rfl (T.free 8 rfl) (by decide +kernel) (aCons (qVar (pv 1)) aNil)) aNil)) (tgN (i := 2) g.nd rfl (by first | exact Or.inl rfl | exact Or.inr rfl) (by decide)) (cOne (kIf (tNot (tTru (qCall R g (Nat.le_refl _) rfl (aCons (qIxK g.room.units (qVar (pv 0)) (qVar (pv 2))) (aCons (qIxK g.room.units (qVar (pv 1)) (qVar (pv 2))) aNil))))) (cOne (kRet qBl)) cNil)))
    (cOne (kRet qBl)))) cNil)
    (cCons (kIf (tTru (qB b_isi rfl (T.free 1 rfl) (by decide +kernel) (aCons (qVar (pv 1)) (aCons (qTy rfl (T.free 2 rfl) (by decide +kernel)) aNil)))) (cOne (kRet (qAnd (qB b_isi rfl (T.free 1 rfl) (by decide +kernel) (aCons (qVar (pv 0)) (aCons (qTy rfl (T.free 2 rfl) (by decide +kernel)) aNil))) (qOne (qCmp (o_eq g.room.units) (qVar (pv 0)) (qVar (pv 1)) (nomark _)))))) cNil)
    (cCons (kIf (tTru (qB b_isi rfl (T.free 1 rfl) (by decide +kernel) (aCons (qVar (pv 1)) (aCons (qTy rfl (T.free 0 rfl) (by decide +kernel)) aNil)))) (cOne (kRet (qAnd (qB b_isi rfl (T.free 1 rfl) (by decide +kernel) (aCons (qVar (pv 0)) (aCons (qTy rfl (T.free 0 rfl) (by decide +kernel)) aNil))) (qAnd (qNot (qB b_isi rfl (T.free 1 rfl) (by decide +kernel) (aCons (qVar (pv 0)) (aCons (qTy rfl (T.free 2 rfl) (by decide +kernel)) aNil)))) (qOne (qCmp (o_eq g.room.units) (qVar (pv 0)) (qVar (pv 1)) (nomark _))))))) cNil)
    (cCons (kIf (tTru (qB b_isi rfl (T.free 1 rfl) (by decide +kernel) (aCons (qVar (pv 1)) (aCons (qTy rfl (T.free 7 rfl) (by decide +kernel)) aNil)))) (cOne (kRet (qAnd (qB b_isi rfl (T.free 1 rfl) (by decide +kernel) (aCons (qVar (pv 0)) (aCons (qTy rfl (T.free 7 rfl) (by decide +kernel)) aNil))) (qOne (qCall R g (Nat.le_refl _) rfl (aCons (qT b_tuple rfl (T.free 6 rfl) (by decide +kernel) (aCons (qVar (pv 0)) aNil)) (aCons (qT b_tuple rfl (T.free 6 rfl) (by decide +kernel) (aCons (qVar (pv 1)) aNil)) aNil))))))) cNil)
    (cOne (kRet (qAnd (qB b_isi rfl (T.free 1 rfl) (by decide +kernel) (aCons (qVar (pv 0)) (aCons (qTy rfl (T.free 24 rfl) (by decide +kernel)) aNil))) (qOne (qCmp (o_eq g.room.units) (qVar (pv 0)) (qVar (pv 1)) (nomark _))))))))))), T.glo 25 rfl, F, F.bindsN fun _ _ _ _ _ _ us hl => match us, hl with | [_, _], _ => rfl⟩⟩

theorem sc__law_wrong_volume : FnScope [Str.ofString "_law_pool_here", Str.ofString "_law_many"] [Str.ofString "_law_pool_here", Str.ofString "_law_many"] (defScope (top 20)) := ⟨rfl, rfl, rfl, by decide +kernel, rfl, by decide +kernel, by decide +kernel⟩
theorem fnc__law_wrong_volume (T : TX P K mg) : Fnc P w K mg base (cls K) 3 "_law_wrong_volume" (top 20) [Str.ofString "_law_pool_here", Str.ofString "_law_many"] f__law_wrong_volume := by
  obtain ⟨fd, F⟩ := T.def_ 12 (d := d__law_wrong_volume) rfl
  exact ⟨⟨_, fd, fn_ok F sc__law_wrong_volume fun cdv A outer s H E g =>
    (cOne (kRet (qIxK g.room.units (qLst (aCons (qUn o_neg qInt) (aCons (qVar (pv 1)) (aCons (qBin o_add (qBin o_add (qVar (pv 1)) qInt) (qCall (fnc__law_draw T) g (by decide) rfl (aCons (qOwn (pv 0)) (aCons qInt aNil)))) (aCons (qBin o_sub (qUn o_neg qInt) (qCall (fnc__law_draw T) g (by decide) rfl (aCons (qOwn (pv 0)) (aCons qInt aNil)))) aNil))))) (qCall (fnc__law_draw T) g (by decide) rfl (aCons (qOwn (pv 0)) (aCons qInt aNil)))))), T.glo 26 rfl, F, F.bindsN fun _ _ _ _ _ _ us hl => match us, hl with | [_, _], _ => rfl⟩⟩

theorem sc__law_integers : FnScope [Str.ofString "_law_pool_here", Str.ofString "_law_integers_here", Str.ofString "_law_k"] [Str.ofString "_law_pool_here"] (defScope (top 21)) := ⟨rfl, rfl, rfl, by decide +kernel, rfl, by decide +kernel, by decide +kernel⟩
theorem fnc__law_integers (T : TX P K mg) : Fnc P w K mg base (cls K) 3 "_law_integers" (top 21) [Str.ofString "_law_pool_here"] f__law_integers := by
  obtain ⟨fd, F⟩ := T.def_ 13 (d := d__law_integers) rfl
  exact ⟨⟨_, fd, fn_ok F sc__law_integers fun cdv A outer s H E g =>
    (cCons (kSetLcF (i := 1) (own := [(Str.ofString "_law_k", 2)]) (n := 3) g (by rfl) (by rfl) (by decide) (sw_true rfl rfl rfl (by decide +kernel)) (iR1 rfl (T.free 23 rfl) (aCons (qBin o_add qInt (qCall (fnc__law_draw T) g (by decide) rfl (aCons (qOwn (pv 0)) (aCons qInt aNil)))) aNil)) (blkOk_by (N := [Str.ofString "_law_pool_here", Str.ofString "_law_integers_here", Str.ofString "_law_k"]) (sc := defScope (top 21)) (own := [(Str.ofString "_law_k", 2)]) (by decide +kernel)) (fun _ _ _ _ _ => (tgN (i := 2) g.nd rfl (by first | exact Or.inl rfl | exact Or.inr rfl) (by decide))) (fun _ _ _ _ _ => tNoIf) (fun _ _ _ _ _ g => (qIxK g.room.units (qLst (aCons (qCall (fnc__law_draw T) g (by decide) rfl (aCons (qOwn (pv 0)) (aCons qInt aNil))) (aCons qInt (aCons qInt aNil)))) (qCall (fnc__law_draw T) g (by decide) rfl (aCons (qOwn (pv 0)) (aCons qInt aNil))))))
    (cCons (kIf (tCmp (o_eq g.room.units) (qCall (fnc__law_draw T) g (by decide) rfl (aCons (qOwn (pv 0)) (aCons qInt aNil))) qInt (nomark _)) (cOne (kRet (qT b_tuple rfl (T.free 6 rfl) (by decide +kernel) (aCons (qVar (pv 1)) aNil)))) cNil)
    (cOne (kRet (qVar (pv 1)))))), T.glo 27 rfl, F, F.bindsN fun _ _ _ _ _ _ us hl => match us, hl with | [_], _ => rfl⟩⟩

theorem sc__law_harm : FnScope [Str.ofString "_law_pool_here", Str.ofString "_law_many", Str.ofString "_law_v", Str.ofString "_law_kind", Str.ofString "_law_place"] [Str.ofString "_law_pool_here", Str.ofString "_law_many"] (defScope (top 22)) := ⟨rfl, rfl, rfl, by decide +kernel, rfl, by decide +kernel, by decide +kernel⟩
theorem fnc__law_harm (T : TX P K mg) : Fnc P w K mg base (cls K) 4 "_law_harm" (top 22) [Str.ofString "_law_pool_here", Str.ofString "_law_many"] f__law_harm := by
  obtain ⟨fd, F⟩ := T.def_ 14 (d := d__law_harm) rfl
  exact ⟨⟨_, fd, fn_ok F sc__law_harm fun cdv A outer s H E g =>
    (cCons (kSet (i := 2) g.nd rfl (by first | exact Or.inl rfl | exact Or.inr rfl) (by decide) (qFz (qCall (fnc__law_draw T) g (by decide) rfl (aCons (qOwn (pv 0)) (aCons (qB (b_max2 g.calm) rfl (T.free 14 rfl) (by decide +kernel) (aCons qInt (aCons (qVar (pv 1)) aNil))) aNil)))))
    (cCons (kSet (i := 3) g.nd rfl (by first | exact Or.inl rfl | exact Or.inr rfl) (by decide) (qFz (qCall (fnc__law_draw T) g (by decide) rfl (aCons (qOwn (pv 0)) (aCons qInt aNil)))))
    (cCons (kIf (tCmp (o_eq g.room.units) (qVar (pv 3)) qInt (nomark _)) (cOne (kRet (qTup (aCons qStr (aCons (qVar (pv 2)) aNil))))) cNil)
    (cCons (kIf (tCmp (o_eq g.room.units) (qVar (pv 3)) qInt (nomark _)) (cOne (kRet (qTup (aCons qStr (aCons (qVar (pv 2)) (aCons (qCall (fnc__law_draw T) g (by decide) rfl (aCons (qOwn (pv 0)) (aCons (qB (b_max2 g.calm) rfl (T.free 14 rfl) (by decide +kernel) (aCons qInt (aCons (qVar (pv 1)) aNil))) aNil))) aNil)))))) cNil)
    (cCons (kIf (tCmp (o_eq g.room.units) (qVar (pv 3)) qInt (nomark _)) (cOne (kRet (qTup (aCons qStr (aCons (qVar (pv 2)) aNil))))) cNil)
    (cCons (kSet (i := 4) g.nd rfl (by first | exact Or.inl rfl | exact Or.inr rfl) (by decide) (qIxK g.room.units (qLst (aCons (qCall (fnc__law_draw T) g (by decide) rfl (aCons (qOwn (pv 0)) (aCons qInt aNil))) (aCons (qCall (fnc__law_draw T) g (by decide) rfl (aCons (qOwn (pv 0)) (aCons qInt aNil))) (aCons qInt (aCons (qCall (fnc__law_draw T) g (by decide) rfl (aCons (qOwn (pv 0)) (aCons qInt aNil))) aNil))))) (qCall (fnc__law_draw T) g (by decide) rfl (aCons (qOwn (pv 0)) (aCons qInt aNil)))))
    (cCons (kIf (tCmp (o_eq g.room.units) (qVar (pv 3)) qInt (nomark _)) (cOne (kRet (qTup (aCons qStr (aCons (qVar (pv 2)) (aCons (qVar (pv 4)) (aCons (qBin o_add (qVar (pv 4)) (qIxK g.room.units (qLst (aCons qInt (aCons (qCall (fnc__law_draw T) g (by decide) rfl (aCons (qOwn (pv 0)) (aCons qInt aNil))) (aCons qInt (aCons (qCall (fnc__law_draw T) g (by decide) rfl (aCons (qOwn (pv 0)) (aCons qInt aNil))) aNil))))) (qCall (fnc__law_draw T) g (by decide) rfl (aCons (qOwn (pv 0)) (aCons qInt aNil))))) aNil))))))) cNil)
    (cOne (kRet (qTup (aCons qStr (aCons (qVar (pv 2)) (aCons (qVar (pv 4)) (aCons (qCall (fnc__law_integers T) g (by decide) rfl (aCons (qOwn (pv 0)) aNil)) aNil)))))))))))))), T.glo 28 rfl, F, F.bindsN fun _ _ _ _ _ _ us hl => match us, hl with | [_, _], _ => rfl⟩⟩

theorem sc__law_spoilt : FnScope [Str.ofString "_law_pool_here", Str.ofString "_law_harm_here", Str.ofString "_law_many", Str.ofString "_law_wrong", Str.ofString "_law_way", Str.ofString "_law_begin", Str.ofString "_law_four", Str.ofString "_law_odd"] [Str.ofString "_law_pool_here", Str.ofString "_law_harm_here", Str.ofString "_law_many"] (defScope (top 23)) := ⟨rfl, rfl, rfl, by decide +kernel, rfl, by decide +kernel, by decide +kernel⟩
theorem fnc__law_spoilt (T : TX P K mg) : Fnc P w K mg base (cls K) 4 "_law_spoilt" (top 23) [Str.ofString "_law_pool_here", Str.ofString "_law_harm_here", Str.ofString "_law_many"] f__law_spoilt := by
  obtain ⟨fd, F⟩ := T.def_ 15 (d := d__law_spoilt) rfl
  exact ⟨⟨_, fd, fn_ok F sc__law_spoilt fun cdv A outer s H E g =>
    (cCons (kSet (i := 3) g.nd rfl (by first | exact Or.inl rfl | exact Or.inr rfl) (by decide) (qFz (qCall (fnc__law_wrong_volume T) g (by decide) rfl (aCons (qOwn (pv 0)) (aCons (qVar (pv 2)) aNil)))))
    (cCons (kIf (tCmp (o_eq g.room.units) (qIxK g.room.units (qVar (pv 1)) qInt) qStr (nomark _)) (cOne (kRet (qIxK g.room.units (qLst (aCons (qTup (aCons qStr (aCons (qVar (pv 3)) (aCons (qIxK g.room.units (qVar (pv 1)) qInt) aNil)))) (aCons (qTup (aCons qStr (aCons (qIxK g.room.units (qVar (pv 1)) qInt) (aCons (qVar (pv 3)) aNil)))) aNil))) (qCall (fnc__law_draw T) g (by decide) rfl (aCons (qOwn (pv 0)) (aCons qInt aNil)))))) cNil)
    (cCons (kSet (i := 4) g.nd rfl (by first | exact Or.inl rfl | exact Or.inr rfl) (by decide) (qFz (qCall (fnc__law_draw T) g (by decide) rfl (aCons (qOwn (pv 0)) (aCons qInt aNil)))))
    (cCons (kIf (tBo (wAnd (tCmp (o_eq g.room.units) (qIxK g.room.units (qVar (pv 1)) qInt) qStr (nomark _)) (wAnd1 (tCmp o_gt (qVar (pv 4)) qInt (nomark _))))) (cCons (kSet (i := 5) g.nd rfl (by first | exact Or.inl rfl | exact Or.inr rfl) (by decide) (qFz (qBin o_add qInt (qCall (fnc__law_draw T) g (by decide) rfl (aCons (qOwn (pv 0)) (aCons qInt aNil))))))
    (cOne (kRet (qIxK g.room.units (qLst (aCons (qTup (aCons qStr (aCons (qIxK g.room.units (qVar (pv 1)) qInt) (aCons (qVar (pv 5)) (aCons (qBin o_sub (qVar (pv 5)) qInt) aNil))))) (aCons (qTup (aCons qStr (aCons (qIxK g.room.units (qVar (pv 1)) qInt) (aCons (qBin o_sub qInt (qVar (pv 5))) (aCons qInt aNil))))) (aCons (qTup (aCons qStr (aCons (qIxK g.room.units (qVar (pv 1)) qInt) (aCons (qUn o_neg qInt) (aCons (qUn o_neg qInt) aNil))))) aNil)))) (qBin o_sub (qVar (pv 4)) qInt))))) cNil)
    (cCons (kIf (tBo (wAnd (tCmp (o_eq g.room.units) (qIxK g.room.units (qVar (pv 1)) qInt) qStr (nomark _)) (wAnd1 (tCmp (o_eq g.room.units) (qVar (pv 4)) qInt (nomark _))))) (cOne (kRet (qTup (aCons qStr (aCons (qIxK g.room.units (qVar (pv 1)) qInt) (aCons (qBin o_sub (qUn o_neg qInt) (qCall (fnc__law_draw T) g (by decide) rfl (aCons (qOwn (pv 0)) (aCons qInt aNil)))) (aCons (qIxK g.room.units (qVar (pv 1)) qInt) aNil))))))) cNil)
    (cCons (kIf (tBo (wAnd (tCmp (o_eq g.room.units) (qIxK g.room.units (qVar (pv 1)) qInt) qStr (nomark _)) (wAnd1 (tCmp o_gt (qVar (pv 4)) qInt (nomark _))))) (cCons (kSet (i := 6) g.nd rfl (by first | exact Or.inl rfl | exact Or.inr rfl) (by decide) (qTup (aCons qInt (aCons qInt (aCons qInt (aCons qInt aNil))))))
    (cCons (kSet (i := 7) g.nd rfl (by first | exact Or.inl rfl | exact Or.inr rfl) (by decide) (qIxK g.room.units (qLst (aCons (qTup aNil) (aCons (qBin o_add (qVar (pv 6)) (qTup (aCons qInt aNil))) (aCons (qTup (aCons qInt aNil)) (aCons (qTup (aCons qInt (aCons (qUn o_neg qInt) aNil))) (aCons (qLst (aCons qInt (aCons qInt aNil))) (aCons (qBin o_add (qSl (qVar (pv 6)) oN (oS qInt)) (qTup (aCons qInt aNil))) (aCons (qLst aNil) aNil)))))))) (qCall (fnc__law_draw T) g (by decide) rfl (aCons (qOwn (pv 0)) (aCons qInt aNil)))))
    (cOne (kRet (qTup (aCons qStr (aCons (qIxK g.room.units (qVar (pv 1)) qInt) (aCons (qIxK g.room.units (qVar (pv 1)) qInt) (aCons (qVar (pv 7)) aNil))))))))) cNil)
    (cOne (kRet (qBin o_add (qTup (aCons (qIxK g.room.units (qVar (pv 1)) qInt) (aCons (qVar (pv 3)) aNil))) (qSl (qVar (pv 1)) (oS qInt) oN)))))))))), T.glo 29 rfl, F, F.bindsN fun _ _ _ _ _ _ us hl => match us, hl with | [_, _, _], _ => rfl⟩⟩

theorem sc__law_is_wrong : FnScope [Str.ofString "_law_harm_here", Str.ofString "_law_many", Str.ofString "_law_volumes", Str.ofString "_law_v", Str.ofString "_law_bad", Str.ofString "_law_integer"] [Str.ofString "_law_harm_here", Str.ofString "_law_many"] (defScope (top 24)) := ⟨rfl, rfl, rfl, by decide +kernel, rfl, by decide +kernel, by decide +kernel⟩
theorem fnc__law_is_wrong (T : TX P K mg) : Fnc P w K mg base (cls K) 1 "_law_is_wrong" (top 24) [Str.ofString "_law_harm_here", Str.ofString "_law_many"] f__law_is_wrong := by
  obtain ⟨fd, F⟩ := T.def_ 16 (d := d__law_is_wrong) rfl
  exact ⟨⟨_, fd, fn_ok F sc__law_is_wrong fun cdv A outer s H E g =>
    (cCons (kSet (i := 2) g.nd rfl (by first | exact Or.inl rfl | exact Or.inr rfl) (by decide) (qLst (aCons (qIxK g.room.units (qVar (pv 0)) qInt) aNil)))
    (cCons (kIf (tCmp (o_eq g.room.units) (qIxK g.room.units (qVar (pv 0)) qInt) qStr (nomark _)) (cOne (kExpr (qMut PySem.F.slot_list_append PySem.F.type_list_append mt_append mu_append (pv 2) (aCons (qIxK g.room.units (qVar (pv 0)) qInt) aNil)))) cNil)
    (cCons (kFor g (iSeq (qFz (qOwn (pv 2)))) (tgN (i := 3) g.nd rfl (by first | exact Or.inl rfl | exact Or.inr rfl) (by decide)) (cOne (kIf (tBo (wOr (tCmp o_lt (qVar (pv 3)) qInt (nomark _)) (wOr1 (tCmp o_ge (qVar (pv 3)) (qVar (pv 1)) (nomark _))))) (cOne (kRet qBl)) cNil)))
    (cCons (kIf (tCmp (o_eq g.room.units) (qIxK g.room.units (qVar (pv 0)) qInt) qStr (nomark _)) (cOne (kRet (qOr (qCmp o_gt (qIxK g.room.units (qVar (pv 0)) qInt) (qIxK g.room.units (qVar (pv 0)) qInt) (nomark _)) (qOne (qCmp o_lt (qIxK g.room.units (qVar (pv 0)) qInt) qInt (nomark _)))))) cNil)
    (cCons (kIf (tCmp (o_eq g.room.units) (qIxK g.room.units (qVar (pv 0)) qInt) qStr (nomark _)) (cCons (kSetLcF (i := 4) (own := [(Str.ofString "_law_integer", 5)]) (n := 6) g (by rfl) (by rfl) (by decide) (sw_true rfl rfl rfl (by decide +kernel)) (iSeq (qIxK g.room.units (qVar (pv 0)) qInt)) (blkOk_by (N := [Str.ofString "_law_harm_here", Str.ofString "_law_many", Str.ofString "_law_volumes", Str.ofString "_law_v", Str.ofString "_law_bad", Str.ofString "_law_integer"]) (sc := defScope (top 24)) (own := [(Str.ofString "_law_integer", 5)]) (by decide +kernel)) (fun _ _ _ _ _ => (tgN (i := 5) g.nd rfl (by first | exact Or.inl rfl | exact Or.inr rfl) (by decide))) (fun _ _ _ _ _ => (tOneIf (tBo (wOr (tCmp o_lt (qVar (pv 5)) qInt (nomark _)) (wOr1 (tCmp o_gt (qVar (pv 5)) qInt (nomark _))))))) (fun _ _ _ _ _ g => (qVar (pv 5))))
    (cOne (kRet (qOr (qCmp o_lt (qIxK g.room.units (qVar (pv 0)) qInt) qInt (nomark _)) (qOr (qCmp o_lt (qB b_len rfl (T.free 8 rfl) (by decide +kernel) (aCons (qIxK g.room.units (qVar (pv 0)) qInt) aNil)) qInt (nomark _)) (qOr (qCmp o_gt (qB b_len rfl (T.free 8 rfl) (by decide +kernel) (aCons (qIxK g.room.units (qVar (pv 0)) qInt) aNil)) qInt (nomark _)) (qOne (qCmp o_gt (qB b_len rfl (T.free 8 rfl) (by decide +kernel) (aCons (qVar (pv 4)) aNil)) qInt (nomark _))))))))) cNil)
    (cOne (kRet qBl))))))), T.glo 30 rfl, F, F.bindsN fun _ _ _ _ _ _ us hl => match us, hl with | [_, _], _ => rfl⟩⟩

theorem sc__law_done : FnScope [Str.ofString "_law_volumes", Str.ofString "_law_harm_here", Str.ofString "_law_v", Str.ofString "_law_volume", Str.ofString "_law_kept", Str.ofString "_law_k"] [Str.ofString "_law_volumes", Str.ofString "_law_harm_here"] (defScope (top 25)) := ⟨rfl, rfl, rfl, by decide +kernel, rfl, by decide +kernel, by decide +kernel⟩
theorem fnc__law_done (T : TX P K mg) : Fnc P w K mg base (cls K) 1 "_law_done" (top 25) [Str.ofString "_law_volumes", Str.ofString "_law_harm_here"] f__law_done := by
  obtain ⟨fd, F⟩ := T.def_ 17 (d := d__law_done) rfl
  exact ⟨⟨_, fd, fn_ok F sc__law_done fun cdv A outer s H E g =>
    (cCons (kSet (i := 0) g.nd rfl (by first | exact Or.inl rfl | exact Or.inr rfl) (by decide) (qT b_list rfl (T.free 7 rfl) (by decide +kernel) (aCons (qOwn (pv 0)) aNil)))
    (cCons (kSet (i := 2) g.nd rfl (by first | exact Or.inl rfl | exact Or.inr rfl) (by decide) (qIxK g.room.units (qVar (pv 1)) qInt))
    (cCons (kSet (i := 3) g.nd rfl (by first | exact Or.inl rfl | exact Or.inr rfl) (by decide) (qIxK g.room.units (qOwn (pv 0)) (qVar (pv 2))))
    (cCons (kIf (tCmp (o_eq g.room.units) (qIxK g.room.units (qVar (pv 1)) qInt) qStr (nomark _)) (cOne (kPut (pv 0) (qVar (pv 2)) (qLst aNil) (pg_sub (pv 0) (qVar (pv 2)) set_list))) cNil)
    (cCons (kIf (tCmp (o_eq g.room.units) (qIxK g.room.units (qVar (pv 1)) qInt) qStr (nomark _)) (cCons (kPut (pv 0) (qVar (pv 2)) (qIxK g.room.units (qOwn (pv 0)) (qIxK g.room.units (qVar (pv 1)) qInt)) (pg_sub (pv 0) (qVar (pv 2)) set_list))
    (cOne (kPut (pv 0) (qIxK g.room.units (qVar (pv 1)) qInt) (qVar (pv 3)) (pg_sub (pv 0) (qIxK g.room.units (qVar (pv 1)) qInt) set_list)))) cNil)
    (cCons (kIf (tCmp (o_eq g.room.units) (qIxK g.room.units (qVar (pv 1)) qInt) qStr (nomark _)) (cOne (kExpr (qMut PySem.F.slot_list_append PySem.F.type_list_append mt_append mu_append (pv 0) (aCons (qT b_list rfl (T.free 7 rfl) (by decide +kernel) (aCons (qVar (pv 3)) aNil)) aNil)))) cNil)
    (cCons (kIf (tCmp (o_eq g.room.units) (qIxK g.room.units (qVar (pv 1)) qInt) qStr (nomark _)) (cOne (kPut (pv 0) (qVar (pv 2)) (qBin o_add (qSl (qVar (pv 3)) oN (oS (qIxK g.room.units (qVar (pv 1)) qInt))) (qSl (qVar (pv 3)) (oS (qIxK g.room.units (qVar (pv 1)) qInt)) oN)) (pg_sub (pv 0) (qVar (pv 2)) set_list))) cNil)
    (cCons (kIf (tCmp (o_eq g.room.units) (qIxK g.room.units (qVar (pv 1)) qInt) qStr (nomark _)) (cCons (kSet (i := 4) g.nd rfl (by first | exact Or.inl rfl | exact Or.inr rfl) (by decide) (qT b_list rfl (T.free 7 rfl) (by decide +kernel) (aCons (qVar (pv 3)) aNil)))
    (cCons (kFor g (iR1 rfl (T.free 23 rfl) (aCons (qB b_len rfl (T.free 8 rfl) (by decide +kernel) (aCons (qIxK g.room.units (qVar (pv 1)) qInt) aNil)) aNil)) (tgN (i := 5) g.nd rfl (by first | exact Or.inl rfl | exact Or.inr rfl) (by decide)) (cOne (kIf (tCmp o_lt (qBin o_add (qIxK g.room.units (qVar (pv 1)) qInt) (qVar (pv 5))) (qB b_len rfl (T.free 8 rfl) (by decide +kernel) (aCons (qOwn (pv 4)) aNil)) (nomark _)) (cOne (kPut (pv 4) (qBin o_add (qIxK g.room.units (qVar (pv 1)) qInt) (qVar (pv 5))) (qIxK g.room.units (qIxK g.room.units (qVar (pv 1)) qInt) (qVar (pv 5))) (pg_sub (pv 4) (qBin o_add (qIxK g.room.units (qVar (pv 1)) qInt) (qVar (pv 5))) set_list))) cNil)))
    (cOne (kPut (pv 0) (qVar (pv 2)) (qFz (qOwn (pv 4))) (pg_sub (pv 0) (qVar (pv 2)) set_list))))) cNil)
    (cOne (kRet (qOwn (pv 0)))))))))))), T.glo 31 rfl, F, F.bindsN fun _ _ _ _ _ _ us hl => match us, hl with | [_, _], _ => rfl⟩⟩

theorem sc__law_due : FnScope [Str.ofString "_law_volumes", Str.ofString "_law_harms", Str.ofString "_law_at", Str.ofString "_law_volume"] [Str.ofString "_law_volumes", Str.ofString "_law_harms"] (defScope (top 26)) := ⟨rfl, rfl, rfl, by decide +kernel, rfl, by decide +kernel, by decide +kernel⟩
theorem fnc__law_due (T : TX P K mg) : Fnc P w K mg base (cls K) 2 "_law_due" (top 26) [Str.ofString "_law_volumes", Str.ofString "_law_harms"] f__law_due := by
  obtain ⟨fd, F⟩ := T.def_ 18 (d := d__law_due) rfl
  exact ⟨⟨_, fd, fn_ok F sc__law_due fun cdv A outer s H E g =>
    (cCons (kSetLcF (i := 0) (own := [(Str.ofString "_law_volume", 3)]) (n := 4) g (by rfl) (by rfl) (by decide) (sw_true rfl rfl rfl (by decide +kernel)) (iSeq (qVar (pv 0))) (blkOk_by (N := [Str.ofString "_law_volumes", Str.ofString "_law_harms", Str.ofString "_law_at", Str.ofString "_law_volume"]) (sc := defScope (top 26)) (own := [(Str.ofString "_law_volume", 3)]) (by decide +kernel)) (fun _ _ _ _ _ => (tgN (i := 3) g.nd rfl (by first | exact Or.inl rfl | exact Or.inr rfl) (by decide))) (fun _ _ _ _ _ => tNoIf) (fun _ _ _ _ _ g => (qT b_list rfl (T.free 7 rfl) (by decide +kernel) (aCons (qVar (pv 3)) aNil))))
    (cCons (kFor g (iR1 rfl (T.free 23 rfl) (aCons (qB b_len rfl (T.free 8 rfl) (by decide +kernel) (aCons (qVar (pv 1)) aNil)) aNil)) (tgN (i := 2) g.nd rfl (by first | exact Or.inl rfl | exact Or.inr rfl) (by decide)) (cCons (kIf (tTru (qCall (fnc__law_is_wrong T) g (by decide) rfl (aCons (qIxK g.room.units (qVar (pv 1)) (qVar (pv 2))) (aCons (qB b_len rfl (T.free 8 rfl) (by decide +kernel) (aCons (qVar (pv 0)) aNil)) aNil)))) (cOne (kRet (qTup (aCons qStr (aCons (qVar (pv 2)) aNil))))) cNil)
    (cOne (kSet (i := 0) g.nd rfl (by first | exact Or.inl rfl | exact Or.inr rfl) (by decide) (qFz (qCall (fnc__law_done T) g (by decide) rfl (aCons (qVar (pv 0)) (aCons (qIxK g.room.units (qVar (pv 1)) (qVar (pv 2))) aNil))))))))
    (cOne (kRet (qTup (aCons qStr (aCons (qT b_tuple rfl (T.free 6 rfl) (by decide +kernel) (aCons (qLc (own := [(Str.ofString "_law_volume", 3)]) (n := 4) g (iSeq (qVar (pv 0))) (blkOk_by (N := [Str.ofString "_law_volumes", Str.ofString "_law_harms", Str.ofString "_law_at", Str.ofString "_law_volume"]) (sc := defScope (top 26)) (own := [(Str.ofString "_law_volume", 3)]) (by decide +kernel)) (fun _ _ _ _ _ => (tgN (i := 3) g.nd rfl (by first | exact Or.inl rfl | exact Or.inr rfl) (by decide))) (fun _ _ _ _ _ => tNoIf) (fun _ _ _ _ _ g => (qT b_tuple rfl (T.free 6 rfl) (by decide +kernel) (aCons (qVar (pv 3)) aNil)))) aNil)) aNil))))))), T.glo 32 rfl, F, F.bindsN fun _ _ _ _ _ _ us hl => match us, hl with | [_, _], _ => rfl⟩⟩

theorem sc__law_told : FnScope [Str.ofString "_law_volumes", Str.ofString "_law_harms", Str.ofString "e"] [Str.ofString "_law_volumes", Str.ofString "_law_harms"] (defScope (top 27)) := ⟨rfl, rfl, rfl, by decide +kernel, rfl, by decide +kernel, by decide +kernel⟩
theorem fnc__law_told (T : TX P K mg) : Fnc P w K mg base (cls K) 6 "_law_told" (top 27) [Str.ofString "_law_volumes", Str.ofString "_law_harms"] f__law_told := by
  obtain ⟨fd, F⟩ := T.def_ 19 (d := d__law_told) rfl
  exact ⟨⟨_, fd, fn_ok F sc__law_told fun cdv A outer s H E g =>
    (cCons (kTryAs (i := 2) g rfl rfl rfl rfl (by decide) ⟨rfl, by decide +kernel, .inl (T.glo 18 rfl)⟩ (mt_ok_BadValue T) (fun W pn xe g => (cOne (kRet (qTup (aCons qStr (aCons (qCall (fnc_harmed T) g (by decide) rfl (aCons (qVar (pv 0)) (aCons (qVar (pv 1)) aNil))) aNil)))))) (fun a dx c oe pn hz hf => have g := g.suite (a := a) (oe := oe) (pn := pn); (cOne (kIf (tTru (qB (b_isX List.mem_cons_self hz hf (exk_1 T) (ki_1_0 T)) rfl (T.free 1 rfl) (by decide +kernel) (aCons (qVar (pv 2)) (aCons (qCls rfl (T.glo 33 rfl)) aNil)))) (cOne (kRet (qTup (aCons qStr (aCons (qXf (xc_BadValue T).2.1 (xc_BadValue T).2.2 hz hf (qVar (pv 2))) aNil))))) cNil))))
    (cOne (kRet (qTup (aCons qStr (aCons qInt aNil)))))), T.glo 34 rfl, F, F.bindsN fun _ _ _ _ _ _ us hl => match us, hl with | [_, _], _ => rfl⟩⟩

theorem sc__law_handed : FnScope [Str.ofString "_law_pool_here", Str.ofString "_law_row"] [Str.ofString "_law_pool_here", Str.ofString "_law_row"] (defScope (top 28)) := ⟨rfl, rfl, rfl, by decide +kernel, rfl, by decide +kernel, by decide +kernel⟩
theorem fnc__law_handed (T : TX P K mg) : Fnc P w K mg base (cls K) 3 "_law_handed" (top 28) [Str.ofString "_law_pool_here", Str.ofString "_law_row"] f__law_handed := by
  obtain ⟨fd, F⟩ := T.def_ 20 (d := d__law_handed) rfl
  exact ⟨⟨_, fd, fn_ok F sc__law_handed fun cdv A outer s H E g =>
    (cCons (kIf (tCmp (o_eq g.room.units) (qCall (fnc__law_draw T) g (by decide) rfl (aCons (qOwn (pv 0)) (aCons qInt aNil))) qInt (nomark _)) (cOne (kRet (qT b_tuple rfl (T.free 6 rfl) (by decide +kernel) (aCons (qVar (pv 1)) aNil)))) cNil)
    (cOne (kRet (qT b_list rfl (T.free 7 rfl) (by decide +kernel) (aCons (qVar (pv 1)) aNil))))), T.glo 35 rfl, F, F.bindsN fun _ _ _ _ _ _ us hl => match us, hl with | [_, _], _ => rfl⟩⟩

theorem sc_law : FnScope [Str.ofString "_law_script", Str.ofString "_law_pool_here", Str.ofString "_law_volumes", Str.ofString "_law_v", Str.ofString "_law_harms", Str.ofString "_law_many", Str.ofString "_law_odd", Str.ofString "_law_turn", Str.ofString "_law_handed_here", Str.ofString "_law_given", Str.ofString "_law_kept", Str.ofString "_law_due_here", Str.ofString "_law_size", Str.ofString "_law_harm_here", Str.ofString "_law_k"] [Str.ofString "_law_script"] (defScope (top 29)) := ⟨rfl, rfl, rfl, by decide +kernel, rfl, by decide +kernel, by decide +kernel⟩
theorem fnc_law (T : TX P K mg) : FncG P w K mg base (cls K) 13 "law" (top 29) [Str.ofString "_law_script"] f_law := by
  obtain ⟨fd, F⟩ := T.def_ 21 (d := d_law) rfl
  exact ⟨⟨_, fd, fn_okG F sc_law fun cdv A outer s H E hgd g =>
    (cCons (kSet (i := 1) g.nd rfl (by first | exact Or.inl rfl | exact Or.inr rfl) (by decide) (qCall (fnc__law_pool T) g (by decide) rfl (aCons (qVar (pv 0)) aNil)))
    (cCons (kSet (i := 2) g.nd rfl (by first | exact Or.inl rfl | exact Or.inr rfl) (by decide) (qLst aNil))
    (cCons (kFor g (iR1 rfl (T.free 23 rfl) (aCons (qIxK g.room.units (qLst (aCons qInt (aCons qInt (aCons qInt (aCons qInt (aCons qInt (aCons qInt (aCons qInt (aCons qInt aNil))))))))) (qCall (fnc__law_draw T) g (by decide) rfl (aCons (qOwn (pv 1)) (aCons qInt aNil)))) aNil)) (tgN (i := 3) g.nd rfl (by first | exact Or.inl rfl | exact Or.inr rfl) (by decide)) (cCons (kSet (i := 12) g.nd rfl (by first | exact Or.inl rfl | exact Or.inr rfl) (by decide) (qIxK g.room.units (qLst (aCons qInt (aCons (qCall (fnc__law_draw T) g (by decide) rfl (aCons (qOwn (pv 1)) (aCons qInt aNil))) (aCons qInt aNil)))) (qCall (fnc__law_draw T) g (by decide) rfl (aCons (qOwn (pv 1)) (aCons qInt aNil)))))
    (cOne (kExpr (qMut PySem.F.slot_list_append PySem.F.type_list_append mt_append mu_append (pv 2) (aCons (qCall (fnc__law_handed T) g (by decide) rfl (aCons (qOwn (pv 1)) (aCons (qLc (own := [(Str.ofString "_law_k", 14)]) (n := 15) g (iR1 rfl (T.free 23 rfl) (aCons (qVar (pv 12)) aNil)) (blkOk_by (N := [Str.ofString "_law_script", Str.ofString "_law_pool_here", Str.ofString "_law_volumes", Str.ofString "_law_v", Str.ofString "_law_harms", Str.ofString "_law_many", Str.ofString "_law_odd", Str.ofString "_law_turn", Str.ofString "_law_handed_here", Str.ofString "_law_given", Str.ofString "_law_kept", Str.ofString "_law_due_here", Str.ofString "_law_size", Str.ofString "_law_harm_here", Str.ofString "_law_k"]) (sc := defScope (top 29)) (own := [(Str.ofString "_law_k", 14)]) (by decide +kernel)) (fun _ _ _ _ _ => (tgN (i := 14) g.nd rfl (by first | exact Or.inl rfl | exact Or.inr rfl) (by decide))) (fun _ _ _ _ _ => tNoIf) (fun _ _ _ _ _ g => (qIxK g.room.units (qLst (aCons (qCall (fnc__law_draw T) g (by decide) rfl (aCons (qOwn (pv 1)) (aCons qInt aNil))) (aCons qInt aNil))) (qCall (fnc__law_draw T) g (by decide) rfl (aCons (qOwn (pv 1)) (aCons qInt aNil)))))) aNil))) aNil))))))
    (cCons (kSet (i := 4) g.nd rfl (by first | exact Or.inl rfl | exact Or.inr rfl) (by decide) (qLst aNil))
    (cCons (kSet (i := 5) g.nd rfl (by first | exact Or.inl rfl | exact Or.inr rfl) (by decide) (qFz (qB b_len rfl (T.free 8 rfl) (by decide +kernel) (aCons (qOwn (pv 2)) aNil))))
    (cCons (kSet (i := 6) g.nd rfl (by first | exact Or.inl rfl | exact Or.inr rfl) (by decide) (qFz (qLst (aCons (qCall (fnc__law_draw T) g (by decide) rfl (aCons (qOwn (pv 1)) (aCons qInt aNil))) (aCons (qCall (fnc__law_draw T) g (by decide) rfl (aCons (qOwn (pv 1)) (aCons qInt aNil))) aNil)))))
    (cCons (kIf (tCmp (o_eq g.room.units) (qCall (fnc__law_draw T) g (by decide) rfl (aCons (qOwn (pv 1)) (aCons qInt aNil))) qInt (nomark _)) (cOne (kSet (i := 6) g.nd rfl (by first | exact Or.inl rfl | exact Or.inr rfl) (by decide) (qFz (qLst aNil)))) cNil)
    (cCons (kFor g (iR1 rfl (T.free 23 rfl) (aCons (qCall (fnc__law_draw T) g (by decide) rfl (aCons (qOwn (pv 1)) (aCons qInt aNil))) aNil)) (tgN (i := 7) g.nd rfl (by first | exact Or.inl rfl | exact Or.inr rfl) (by decide)) (cCons (kSet (i := 13) g.nd rfl (by first | exact Or.inl rfl | exact Or.inr rfl) (by decide) (qFz (qCall (fnc__law_harm T) g (by decide) rfl (aCons (qOwn (pv 1)) (aCons (qVar (pv 5)) aNil)))))
    (cCons (kIf (tCmp (o_in g.room.units) (qVar (pv 7)) (qVar (pv 6)) rfl) (cOne (kSet (i := 13) g.nd rfl (by first | exact Or.inl rfl | exact Or.inr rfl) (by decide) (qFz (qCall (fnc__law_spoilt T) g (by decide) rfl (aCons (qOwn (pv 1)) (aCons (qVar (pv 13)) (aCons (qVar (pv 5)) aNil))))))) cNil)
    (cCons (kExpr (qMut PySem.F.slot_list_append PySem.F.type_list_append mt_append mu_append (pv 4) (aCons (qVar (pv 13)) aNil)))
    (cOne (kSet (i := 5) g.nd rfl (by first | exact Or.inl rfl | exact Or.inr rfl) (by decide) (qFz (qBin o_add (qVar (pv 5)) (qT b_int rfl (T.free 0 rfl) (by decide +kernel) (aCons (qAnd (qCmp (o_eq g.room.units) (qIxK g.room.units (qVar (pv 13)) qInt) qStr (nomark _)) (qOne (qNot (qCall (fnc__law_is_wrong T) g (by decide) rfl (aCons (qVar (pv 13)) (aCons (qVar (pv 5)) aNil)))))) aNil))))))))))
    (cCons (kSet (i := 8) g.nd rfl (by first | exact Or.inl rfl | exact Or.inr rfl) (by decide) (qFz (qCall (fnc__law_handed T) g (by decide) rfl (aCons (qOwn (pv 1)) (aCons (qFz (qOwn (pv 2))) aNil)))))
    (cCons (kSet (i := 9) g.nd rfl (by first | exact Or.inl rfl | exact Or.inr rfl) (by decide) (qFz (qCall (fnc__law_handed T) g (by decide) rfl (aCons (qOwn (pv 1)) (aCons (qFz (qOwn (pv 4))) aNil)))))
    (cCons (kSet (i := 10) g.nd rfl (by first | exact Or.inl rfl | exact Or.inr rfl) (by decide) (qFz (qB (b_repr hgd (by have := g.room.un; omega)) rfl (T.free 36 rfl) (by decide +kernel) (aCons (qTup (aCons (qVar (pv 8)) (aCons (qVar (pv 9)) aNil))) aNil))))
    (cCons (kSet (i := 11) g.nd rfl (by first | exact Or.inl rfl | exact Or.inr rfl) (by decide) (qFz (qCall (fnc__law_due T) g (by decide) rfl (aCons (qFz (qOwn (pv 2))) (aCons (qFz (qOwn (pv 4))) aNil)))))
    (cCons (kIf (tBo (wOr (tNot (tTru (qCall (fnc__law_same T 12) g (by decide) rfl (aCons (qCall (fnc__law_told T) g (by decide) rfl (aCons (qVar (pv 8)) (aCons (qVar (pv 9)) aNil))) (aCons (qVar (pv 11)) aNil))))) (wOr1 (tNot (tTru (qCall (fnc__law_same T 12) g (by decide) rfl (aCons (qCall (fnc__law_told T) g (by decide) rfl (aCons (qVar (pv 8)) (aCons (qVar (pv 9)) aNil))) (aCons (qVar (pv 11)) aNil)))))))) (cOne (kRet qBl)) cNil)
    (cOne (kRet (qCmp (o_eq g.room.units) (qB (b_repr hgd (by have := g.room.un; omega)) rfl (T.free 36 rfl) (by decide +kernel) (aCons (qTup (aCons (qVar (pv 8)) (aCons (qVar (pv 9)) aNil))) aNil)) (qVar (pv 10)) (nomark _))))))))))))))))), T.glo 37 rfl, F, F.bindsN fun _ _ _ _ _ _ us hl => match us, hl with | [_], _ => rfl⟩⟩
end
end Tl

namespace Tl
open PySem L2 Mv
variable {E : EX} {Q : R → Fm → Prop}
def ii (xs : List Int) : List D := xs.map D.int
@[simp] theorem ii_len {xs : List Int} : (ii xs).length = xs.length := by simp [ii]
theorem ii_at {xs : List Int} {k : Nat} {d : D} (h : (ii xs)[k]? = some d) : ∃ x, xs[k]? = some x ∧ d = .int x := by
  unfold ii at h
  rw [List.getElem?_map] at h
  cases e : xs[k]? with
  | none => rw [e] at h; simp at h
  | some p => rw [e] at h; simp at h; exact ⟨p, rfl, h.symm⟩
theorem ii_get {xs : List Int} {k : Nat} {x : Int} (h : xs[k]? = some x) : (ii xs)[k]? = some (.int x) := by unfold ii; rw [List.getElem?_map, h]; rfl
theorem ii_take {xs : List Int} {k : Nat} : (ii xs).take k = ii (xs.take k) := by simp [ii]
theorem ii_drop {xs : List Int} {k : Nat} : (ii xs).drop k = ii (xs.drop k) := by simp [ii]
theorem ii_app {xs ys : List Int} : ii xs ++ ii ys = ii (xs ++ ys) := by simp [ii]
theorem ii_set {xs : List Int} {k : Nat} {v : Int} : (ii xs).set k (.int v) = ii (xs.set k v) := by simp [ii]
theorem sp_fromto {x a b : Int} (h : Q (.val (.bl (decide (a ≤ x ∧ x ≤ b)))) [.un, .un, .un]) : f_is_from_to [.fz (.int x), .fz (.int a), .fz (.int b)] E Q := by
  simp [f_is_from_to, b_is_from_to, f_is_integer, b_is_integer]
  by_cases c : a ≤ x <;> simp [c] at h ⊢ <;> exact h
theorem dAll_bl {xs : List Int} {p : Int → Bool} {kr : R → Prop} (h : kr (.val (.bl (xs.all p)))) : dAll [.lst (xs.map fun x => D.bl (p x))] kr := ⟨xs.map p, by simp, by
  have e : (xs.map p).all id = xs.all p := by simp [List.all_map]
  rw [e]; exact h⟩
def gI (xs : List Int) (i : Nat) : Int := xs.getD i 0
theorem gI_at {xs : List Int} {i : Nat} (h : i < xs.length) : xs[i]? = some (gI xs i) := by unfold gI; rw [List.getD_eq_getElem?_getD, List.getElem?_eq_getElem h]; rfl
structure Pl (s : List D) : Prop where
  ex : ∃ (b : Nat) (c e g : Int) (cs : List Int), s = [.lst (ii cs), .int (b : Nat), .int c, .int e, .int g, .non]
theorem sp_mixed {a b : Int} (h : ∀ c : Int, Q (.val (.int c)) [.un, .un]) : f__law_mixed [.fz (.int a), .fz (.int b)] E Q := by
  simp [f__law_mixed, b__law_mixed]
  exact ⟨mulOk_l (by omega) (by omega), h _⟩
theorem sp_draw {s : List D} {l : Int} (hs : Pl s) (h0 : 0 < l) (h1 : l < 2 ^ 63) (h : ∀ s' (v : Nat), Pl s' → (v : Int) < l → Q (.val (.int (v : Nat))) [.ow (.lst s'), .un]) : f__law_draw [.ow (.lst s), .fz (.int l)] E Q := by
  obtain ⟨b, c, e, g, cs, rfl⟩ := hs.ex
  have fin : ∀ (s' : List D) (x : Int), Pl s' → Q (.val (.int (x % l))) [.ow (.lst s'), .un] := fun s' x hs' => by
    have p1 := Int.emod_nonneg x (b := l) (by omega)
    have p2 := Int.emod_lt_of_pos x h0
    have e1 : x % l = ((x % l).toNat : Nat) := by omega
    rw [e1]; exact h _ _ hs' (by omega)
  have fd : fdOk l := fdOk_p h0 (by omega)
  have pl : ∀ (b : Nat) (c e g : Int), Pl [.lst (ii cs), .int (b : Nat), .int c, .int e, .int g, .non] := fun b c e g => ⟨b, c, e, g, cs, rfl⟩
  have pl1 : ∀ (b : Nat) (c e g : Int), Pl [.lst (ii cs), .int ((b : Int) + 1), .int c, .int e, .int g, .non] := fun b c e g => by
    have := pl (b + 1) c e g
    rwa [show ((b + 1 : Nat) : Int) = (b : Int) + 1 by omega] at this
  by_cases c2 : c < 2
  · by_cases cb : b < cs.length
    · have e1 := ii_get (gI_at cb)
      have e2 : (ii cs)[b]'(by simpa using cb) = .int (gI cs b) := by simp [ii, gI, cb]
      simp [f__law_draw, b__law_draw, c2, cb, e2]
      split
      · exact ⟨fd, h0, fin _ _ (pl1 _ _ _ _)⟩
      · refine sp_mixed fun x => ?_
        simp
        exact ⟨h0, fin _ _ (pl1 _ _ _ _)⟩
    · simp [f__law_draw, b__law_draw, c2, cb]
      refine sp_mixed fun x => ?_
      simp
      exact ⟨h0, fin _ _ (pl1 _ _ _ _)⟩
  · simp [f__law_draw, b__law_draw, c2]
    refine ⟨fd, ?_, h0, fin _ _ (pl _ _ _ _)⟩
    split
    · exact mulOk_r (by omega) (by omega)
    · exact mulOk_r (by omega) (by omega)
theorem sp_pool {ns : List Int} (h : ∀ s, Pl s → Q (.own (.lst s)) [.un]) : f__law_pool [.fz (.rol (ii ns))] E Q := by
  simp [f__law_pool, b__law_pool]
  exact h _ ⟨0, 0, 0, 0, ns, rfl⟩
inductive Hm where
  | lose (v : Int) | turn (v w : Int) | dbl (v : Int) | cut (v a b : Int) | chg (v p : Int) (t : Bool) (xs : List Int)
def sq (t : Bool) (xs : List D) : D := if t then .tup xs else .lst xs
def hD : Hm → D
  | .lose v => .tup [.str "lose", .int v]
  | .turn v w => .tup [.str "turn", .int v, .int w]
  | .dbl v => .tup [.str "double", .int v]
  | .cut v a b => .tup [.str "cut", .int v, .int a, .int b]
  | .chg v p t xs => .tup [.str "change", .int v, .int p, sq t (ii xs)]
def inn (v : Int) (n : Nat) : Bool := decide (0 ≤ v ∧ v ≤ (n : Int) - 1)
def okc (p : Int) (xs : List Int) : Bool := decide (0 ≤ p) && (decide (1 ≤ xs.length ∧ xs.length ≤ 4) && xs.all fun x => decide (0 ≤ x ∧ x ≤ 128))
def okH : Hm → Nat → Bool
  | .lose v, n => inn v n
  | .turn v w, n => inn v n && inn w n
  | .dbl v, n => inn v n
  | .cut v a b, n => inn v n && decide (0 ≤ a ∧ a ≤ b)
  | .chg v p _ xs, n => inn v n && okc p xs
theorem sp_place {x : Int} (h : Q (.val (.bl (decide (0 ≤ x)))) [.un]) : f_is_place [.fz (.int x)] E Q := by
  simp [f_is_place, b_is_place, f_is_integer, b_is_integer]
  exact h
theorem sp_change {p : Int} {t : Bool} {xs : List Int} (hl : xs.length < 1000) (h : Q (.val (.bl (okc p xs))) [.un, .un]) : f_is_change [.fz (.int p), .fz (sq t (ii xs))] E Q := by
  have lc : ∀ (d1 : D) (kk : List D → Fm → Prop), kk (xs.map fun x => D.bl (decide (0 ≤ x ∧ x ≤ 128))) [.fz (.int p), .fz d1, .un] → lcW 3 [2] (gN 2) mYes (mCall (f_is_from_to) (mCons (mVar 2) (mCons (mC (.int 0)) (mCons (mC (.int 128)) (mNil))))) (ii xs) [] [.fz (.int p), .fz d1, .un] kk := fun d1 kk hk => by
    refine lcW_map (fun d => match d with | .int x => .bl (decide (0 ≤ x ∧ x ≤ 128)) | d => d) _ _ _ ?_ (by simp; omega) ?_
    · intro d' acc N hd' ha hN
      obtain ⟨x, hx, rfl⟩ := List.mem_map.mp hd'
      simp
      refine sp_fromto ?_
      simp
      exact ⟨ha, by simpa using hN⟩
    · have e : (ii xs).map (fun d => match d with | .int x => D.bl (decide (0 ≤ x ∧ x ≤ 128)) | d => d) = xs.map fun x => D.bl (decide (0 ≤ x ∧ x ≤ 128)) := by simp [ii]
      rw [e]; exact hk
  unfold okc at h
  by_cases c1 : 0 ≤ p
  rotate_left
  · simp [c1] at h
    cases t <;> (
      simp [f_is_change, b_is_change, sq]
      refine sp_place ?_
      simp [c1]
      exact h)
  by_cases c2 : 1 ≤ xs.length
  rotate_left
  · have c2' : ¬ 1 ≤ (xs.length : Int) := by omega
    simp [c2] at h
    cases t <;> (
      simp [f_is_change, b_is_change, sq]
      refine sp_place ?_
      simp [c1, c2']
      exact h)
  have c2' : 1 ≤ (xs.length : Int) := by omega
  by_cases c3 : xs.length ≤ 4
  rotate_left
  · have c3' : 4 < (xs.length : Int) := by omega
    simp [c3] at h
    cases t <;> (
      simp [f_is_change, b_is_change, sq]
      refine sp_place ?_
      simp [c1, c2', c3']
      exact h)
  have c3' : ¬ 4 < (xs.length : Int) := by omega
  simp [c1, c2, c3] at h
  cases t <;> (
    simp [f_is_change, b_is_change, sq]
    refine sp_place ?_
    simp [c1, c2', c3']
    refine lc _ _ ?_
    simp
    refine dAll_bl ?_
    simp
    exact h)
theorem sp_let {x : Hm} {n : Nat} (hx : ∀ v p t xs, x = .chg v p t xs → xs.length < 1000) (h : Q (.val (.bl (okH x n))) [.un, .un]) : f_is_let [.fz (hD x), .fz (.int (n : Nat))] E Q := by
  have e : ∀ v : Int, inn v n = decide (0 ≤ v ∧ v ≤ (n : Int) - 1) := fun v => rfl
  cases x with
  | lose v =>
    simp [f_is_let, b_is_let, hD]
    refine sp_fromto ?_
    simp only [okH, e] at h
    by_cases c : 0 ≤ v ∧ v ≤ (n : Int) - 1
    · simp [c] at h ⊢; exact h
    · simp [c] at h ⊢; exact h
  | dbl v =>
    simp [f_is_let, b_is_let, hD]
    refine sp_fromto ?_
    simp only [okH, e] at h
    by_cases c : 0 ≤ v ∧ v ≤ (n : Int) - 1
    · simp [c] at h ⊢; exact h
    · simp [c] at h ⊢; exact h
  | turn v w =>
    simp [f_is_let, b_is_let, hD]
    refine sp_fromto ?_
    simp only [okH, e] at h
    by_cases c : 0 ≤ v ∧ v ≤ (n : Int) - 1
    · simp [c] at h ⊢
      refine sp_fromto ?_
      simp
      exact h
    · simp [c] at h ⊢; exact h
  | cut v a b =>
    simp [f_is_let, b_is_let, hD]
    refine sp_fromto ?_
    simp only [okH, e] at h
    by_cases c : 0 ≤ v ∧ v ≤ (n : Int) - 1
    · simp [c] at h ⊢
      refine sp_place ?_
      by_cases c1 : 0 ≤ a
      · simp [c1] at h ⊢
        simp [f_is_integer, b_is_integer]
        exact h
      · simp [c1] at h ⊢
        exact h
    · simp [c] at h ⊢; exact h
  | chg v p t xs =>
    simp [f_is_let, b_is_let, hD]
    refine sp_fromto ?_
    simp only [okH, e] at h
    by_cases c : 0 ≤ v ∧ v ≤ (n : Int) - 1
    · simp [c] at h ⊢
      refine sp_change (hx _ _ _ _ rfl) ?_
      simp
      exact h
    · simp [c] at h ⊢; exact h
def chL (v : List Int) (p : Nat) (xs : List Int) : List Int := v.mapIdx fun i x => if p ≤ i ∧ i < p + xs.length then xs.getD (i - p) 0 else x
@[simp] theorem chL_len {v : List Int} {p : Nat} {xs : List Int} : (chL v p xs).length = v.length := by simp [chL]
theorem chL_at {v : List Int} {p i : Nat} {xs : List Int} : (chL v p xs)[i]? = if p ≤ i ∧ i < p + xs.length ∧ i < v.length then some (xs.getD (i - p) 0) else v[i]? := by
  unfold chL
  rw [List.getElem?_mapIdx]
  by_cases c : i < v.length
  · rw [List.getElem?_eq_getElem c]
    by_cases q : p ≤ i ∧ i < p + xs.length
    · rw [if_pos ⟨q.1, q.2, c⟩]; simp [q]
    · rw [if_neg (fun z => q ⟨z.1, z.2.1⟩)]; simp [q]
  · rw [List.getElem?_eq_none (by omega), if_neg (fun z => c z.2.2)]; rfl
theorem chL_cat {v : List Int} {p : Nat} {xs : List Int} : v.take p ++ xs.take (v.length - p) ++ v.drop (p + (xs.take (v.length - p)).length) = chL v p xs := by
  refine List.ext_getElem? fun i => ?_
  rw [chL_at]
  by_cases c0 : v.length ≤ p
  · rw [List.take_of_length_le c0, show v.length - p = 0 by omega, List.take_zero, List.append_nil, List.drop_eq_nil_of_le (by omega), List.append_nil]
    rw [if_neg (fun z => by omega)]
  rw [List.length_take]
  by_cases c1 : i < p
  · rw [if_neg (fun z => by omega), List.append_assoc, List.getElem?_append_left (by simp; omega), List.getElem?_take_of_lt c1]
  by_cases c2 : i < p + min (v.length - p) xs.length
  · rw [if_pos ⟨by omega, by omega, by omega⟩, List.getElem?_append_left (by simp; omega), List.getElem?_append_right (by simp; omega)]
    rw [List.length_take, Nat.min_eq_left (by omega), List.getElem?_take_of_lt (by omega), List.getD_eq_getElem?_getD, List.getElem?_eq_getElem (by omega)]
    rfl
  · rw [if_neg (fun z => by omega), List.getElem?_append_right (by simp; omega)]
    simp only [List.length_append, List.length_take]
    rw [List.getElem?_drop]
    congr 1
    omega
theorem cut_ii {xs : List Int} {a b : Option Int} : cutD (ii xs) a b = ii (cutD xs a b) := by simp [cutD, ii]
theorem sp_changed {v xs : List Int} {p : Nat} {t : Bool} (hv : v.length ≤ 1000) (hx : xs.length ≤ 1000) (h : Q (.val (.tup (ii (chL v p xs)))) [.un, .un, .un]) : f_changed [.fz (.tup (ii v)), .fz (.int (p : Nat)), .fz (sq t (ii xs))] E Q := by
  obtain ⟨n1, en1⟩ : ∃ n1, n1 = v.length - p := ⟨_, rfl⟩
  have e1 : (if p < v.length then (v.length : Int) - (p : Int) else 0) = (n1 : Nat) := by split <;> omega
  have c1 : ∀ ys : List Int, cutD (ii ys) none (some (n1 : Nat)) = ii (ys.take n1) := fun ys => by simp [ii]
  obtain ⟨n2, en2⟩ : ∃ n2, n2 = p + (xs.take n1).length := ⟨_, rfl⟩
  have e2 : (p : Int) + ((xs.take n1).length : Nat) = (n2 : Nat) := by omega
  have c2 : cutD (ii v) (some (n2 : Nat)) none = ii (v.drop n2) := by simp [ii]
  have l1 : (xs.take n1).length ≤ 1000 := by rw [List.length_take]; omega
  have l2 : (v.drop n2).length ≤ 1000 := by rw [List.length_drop]; omega
  rw [← chL_cat, ← en1, ← en2, ← ii_app, ← ii_app, List.append_assoc] at h
  cases t <;> (
    simp only [f_changed, b_changed, sq]
    simp [-List.length_take]
    have l0 : (List.take p (ii v)).length ≤ 1000 := by rw [List.length_take, ii_len]; omega
    rw [e1, c1, ii_len, e2, c2, ii_len]
    refine ⟨by omega, by omega, ?_⟩
    rw [ii_take]
    exact h)
def dn (vs : List (List Int)) : Hm → List (List Int)
  | .lose v => vs.set v.toNat []
  | .turn v w => (vs.set v.toNat (vs.getD w.toNat [])).set w.toNat (vs.getD v.toNat [])
  | .dbl v => vs ++ [vs.getD v.toNat []]
  | .cut v a b => vs.set v.toNat ((vs.getD v.toNat []).take a.toNat ++ (vs.getD v.toNat []).drop b.toNat)
  | .chg v p _ xs => vs.set v.toNat (chL (vs.getD v.toNat []) p.toNat xs)
def vt (vs : List (List Int)) : List D := vs.map fun v => .tup (ii v)
@[simp] theorem vt_len {vs : List (List Int)} : (vt vs).length = vs.length := by simp [vt]
theorem vt_at {vs : List (List Int)} {i : Nat} (h : i < vs.length) : (vt vs)[i]? = some (.tup (ii (vs.getD i []))) := by
  unfold vt; rw [List.getElem?_map, List.getElem?_eq_getElem h, List.getD_eq_getElem?_getD, List.getElem?_eq_getElem h]; rfl
theorem vt_at2 {vs : List (List Int)} {i : Nat} (h : i < vs.length) : (vt vs)[i]'(by simpa using h) = .tup (ii (vs.getD i [])) := by
  have := vt_at h
  rw [List.getElem?_eq_getElem (by simpa using h)] at this
  exact Option.some.inj this
theorem vt_set {vs : List (List Int)} {i : Nat} {v : List Int} : (vt vs).set i (.tup (ii v)) = vt (vs.set i v) := by simp [vt, List.map_set]
theorem vt_app {vs : List (List Int)} {v : List Int} : vt vs ++ [.tup (ii v)] = vt (vs ++ [v]) := by simp [vt]
theorem inn_ok {v : Int} {n : Nat} (h : inn v n = true) : ∃ i : Nat, v = i ∧ i < n := by
  have := of_decide_eq_true h
  exact ⟨v.toNat, by omega, by omega⟩
/-- the volumes are short -/
def Sh (vs : List (List Int)) : Prop := vs.length ≤ 1000 ∧ ∀ v ∈ vs, v.length ≤ 1000
theorem Sh.get {vs : List (List Int)} (h : Sh vs) (i : Nat) : (vs.getD i []).length ≤ 1000 := by
  rw [List.getD_eq_getElem?_getD]
  cases e : vs[i]? with
  | none => simp
  | some v => exact h.2 v (List.mem_of_getElem? e)
@[simp] theorem w_lose_turn : (Str.ofString "lose" = Str.ofString "turn") = False := eq_false (by decide +kernel)
@[simp] theorem w_lose_double : (Str.ofString "lose" = Str.ofString "double") = False := eq_false (by decide +kernel)
@[simp] theorem w_lose_cut : (Str.ofString "lose" = Str.ofString "cut") = False := eq_false (by decide +kernel)
@[simp] theorem w_lose_change : (Str.ofString "lose" = Str.ofString "change") = False := eq_false (by decide +kernel)
@[simp] theorem w_turn_lose : (Str.ofString "turn" = Str.ofString "lose") = False := eq_false (by decide +kernel)
@[simp] theorem w_turn_double : (Str.ofString "turn" = Str.ofString "double") = False := eq_false (by decide +kernel)
@[simp] theorem w_turn_cut : (Str.ofString "turn" = Str.ofString "cut") = False := eq_false (by decide +kernel)
@[simp] theorem w_turn_change : (Str.ofString "turn" = Str.ofString "change") = False := eq_false (by decide +kernel)
@[simp] theorem w_double_lose : (Str.ofString "double" = Str.ofString "lose") = False := eq_false (by decide +kernel)
@[simp] theorem w_double_turn : (Str.ofString "double" = Str.ofString "turn") = False := eq_false (by decide +kernel)
@[simp] theorem w_double_cut : (Str.ofString "double" = Str.ofString "cut") = False := eq_false (by decide +kernel)
@[simp] theorem w_double_change : (Str.ofString "double" = Str.ofString "change") = False := eq_false (by decide +kernel)
@[simp] theorem w_cut_lose : (Str.ofString "cut" = Str.ofString "lose") = False := eq_false (by decide +kernel)
@[simp] theorem w_cut_turn : (Str.ofString "cut" = Str.ofString "turn") = False := eq_false (by decide +kernel)
@[simp] theorem w_cut_double : (Str.ofString "cut" = Str.ofString "double") = False := eq_false (by decide +kernel)
@[simp] theorem w_cut_change : (Str.ofString "cut" = Str.ofString "change") = False := eq_false (by decide +kernel)
@[simp] theorem w_change_lose : (Str.ofString "change" = Str.ofString "lose") = False := eq_false (by decide +kernel)
@[simp] theorem w_change_turn : (Str.ofString "change" = Str.ofString "turn") = False := eq_false (by decide +kernel)
@[simp] theorem w_change_double : (Str.ofString "change" = Str.ofString "double") = False := eq_false (by decide +kernel)
@[simp] theorem w_change_cut : (Str.ofString "change" = Str.ofString "cut") = False := eq_false (by decide +kernel)
theorem cut_N {α : Type} (xs : List α) (n : Nat) : cutD xs none (some (n : Int)) = xs.take n := by simp
theorem cut2 {α : Type} {a b : α} {l : List α} : cutD (a :: b :: l) none (some 2) = [a, b] := cut_N (a :: b :: l) 2
theorem sp_done {vs : List (List Int)} {x : Hm} (hs : Sh vs) (hx : ∀ v p t xs, x = .chg v p t xs → xs.length ≤ 1000) (ok : okH x vs.length = true) (h : Q (.own (.lst (vt (dn vs x)))) [.un, .un]) : f_harm_done [.fz (.lst (vt vs)), .fz (hD x)] E Q := by
  cases x with
  | lose v =>
    obtain ⟨i, rfl, hi⟩ := inn_ok ok
    have e0 := vt_at hi
    simp [f_harm_done, b_harm_done, hD, cut2, e0, ixN_nat hi]
    rw [show D.tup [] = .tup (ii []) from rfl, vt_set]
    exact h
  | dbl v =>
    obtain ⟨i, rfl, hi⟩ := inn_ok ok
    have e0 := vt_at hi
    simp [f_harm_done, b_harm_done, hD, cut2, e0, ixN_nat hi]
    rw [vt_app]
    exact ⟨by have := hs.1; omega, h⟩
  | turn v w =>
    simp only [okH, Bool.and_eq_true] at ok
    obtain ⟨i, rfl, hi⟩ := inn_ok ok.1
    have e0 := vt_at hi
    obtain ⟨j, rfl, hj⟩ := inn_ok ok.2
    have e3 := vt_at hj
    simp [f_harm_done, b_harm_done, hD, cut2, e0, e3, ixN_nat hi, ixN_nat hj]
    rw [vt_set, vt_set]
    exact h
  | cut v a b =>
    simp only [okH, Bool.and_eq_true, decide_eq_true_eq] at ok
    obtain ⟨i, rfl, hi⟩ := inn_ok ok.1
    have e0 := vt_at hi
    obtain ⟨a, rfl⟩ : ∃ n : Nat, a = n := ⟨a.toNat, by omega⟩
    obtain ⟨b, rfl⟩ : ∃ n : Nat, b = n := ⟨b.toNat, by omega⟩
    simp [f_harm_done, b_harm_done, hD, cut2, e0, ixN_nat hi]
    have l1 := hs.get i
    rw [List.getD_eq_getElem?_getD] at l1
    refine ⟨by omega, ?_⟩
    rw [ii_take, ii_drop, ii_app, vt_set]
    exact h
  | chg v p t xs =>
    simp only [okH, okc, Bool.and_eq_true, decide_eq_true_eq] at ok
    obtain ⟨i, rfl, hi⟩ := inn_ok ok.1
    have e0 := vt_at hi
    obtain ⟨p, rfl⟩ : ∃ n : Nat, p = n := ⟨p.toNat, by omega⟩
    simp [f_harm_done, b_harm_done, hD, cut2, e0, ixN_nat hi]
    refine sp_changed (hs.get i) (by omega) ?_
    simp [ixN_nat hi]
    rw [vt_set]
    exact h
theorem Sh.dn {vs : List (List Int)} {x : Hm} {m c : Nat} (h1 : vs.length ≤ m) (h2 : ∀ v ∈ vs, v.length ≤ c) (ok : okH x vs.length = true) : (dn vs x).length ≤ m + 1 ∧ ∀ v ∈ dn vs x, v.length ≤ c := by
  have g : ∀ i, (vs.getD i []).length ≤ c := fun i => by
    rw [List.getD_eq_getElem?_getD]
    cases e : vs[i]? with
    | none => simp
    | some v => exact h2 v (List.mem_of_getElem? e)
  cases x with
  | lose v =>
    refine ⟨by simp [Tl.dn]; omega, fun u hu => ?_⟩
    rcases List.mem_or_eq_of_mem_set hu with z | rfl
    · exact h2 u z
    · simp
  | dbl v =>
    refine ⟨by simp [Tl.dn]; omega, fun u hu => ?_⟩
    rcases List.mem_append.mp hu with z | z
    · exact h2 u z
    · rw [List.mem_singleton.mp z]; exact g _
  | turn v w =>
    refine ⟨by simp [Tl.dn]; omega, fun u hu => ?_⟩
    rcases List.mem_or_eq_of_mem_set hu with z | rfl
    · rcases List.mem_or_eq_of_mem_set z with z | rfl
      · exact h2 u z
      · exact g _
    · exact g _
  | cut v a b =>
    simp only [okH, Bool.and_eq_true, decide_eq_true_eq] at ok
    refine ⟨by simp [Tl.dn]; omega, fun u hu => ?_⟩
    rcases List.mem_or_eq_of_mem_set hu with z | rfl
    · exact h2 u z
    · have := g v.toNat
      simp only [List.length_append, List.length_take, List.length_drop]
      omega
  | chg v p t xs =>
    refine ⟨by simp [Tl.dn]; omega, fun u hu => ?_⟩
    rcases List.mem_or_eq_of_mem_set hu with z | rfl
    · exact h2 u z
    · rw [chL_len]; exact g _
/-- the volumes behind the first harms -/
def bh (vs : List (List Int)) (hs : List Hm) (i : Nat) : List (List Int) := (hs.take i).foldl dn vs
theorem bh_succ {vs : List (List Int)} {hs : List Hm} {i : Nat} {x : Hm} (h : hs[i]? = some x) : bh vs hs (i + 1) = dn (bh vs hs i) x := by
  unfold bh; rw [List.take_add_one, h, List.foldl_append]; rfl
/-- the harms ahead of i are let -/
def okU (vs : List (List Int)) (hs : List Hm) (i : Nat) : Prop := ∀ j x, j < i → hs[j]? = some x → okH x (bh vs hs j).length = true
theorem okU.succ {vs : List (List Int)} {hs : List Hm} {i : Nat} {x : Hm} (h : okU vs hs i) (hx : hs[i]? = some x) (ok : okH x (bh vs hs i).length = true) : okU vs hs (i + 1) := fun j y hj hy => by
  by_cases e : j = i
  · subst e; rw [hx] at hy; cases hy; exact ok
  · exact h j y (by omega) hy
theorem bh_sh {vs : List (List Int)} {hs : List Hm} {m c : Nat} (h1 : vs.length ≤ m) (h2 : ∀ v ∈ vs, v.length ≤ c) : ∀ {i : Nat}, i ≤ hs.length → okU vs hs i → (bh vs hs i).length ≤ m + i ∧ ∀ v ∈ bh vs hs i, v.length ≤ c
  | 0, _, _ => by simpa [bh] using ⟨h1, h2⟩
  | i + 1, hi, ok => by
    have hx : hs[i]? = some hs[i] := List.getElem?_eq_getElem (by omega)
    obtain ⟨a1, a2⟩ := bh_sh h1 h2 (i := i) (by omega) fun j x hj => ok j x (by omega)
    rw [bh_succ hx]
    exact Sh.dn a1 a2 (ok i _ (by omega) hx)
/-- the changes are not long -/
def Sm (hs : List Hm) : Prop := ∀ x ∈ hs, ∀ v p t xs, x = .chg v p t xs → xs.length < 1000
theorem comp_tup {ds : List D} {vs : List (List Int)} {a0 a1 a2 a3 a4 : Sl} {Kk : List D → Fm → Prop} (hd : ds.length = vs.length ∧ ∀ (i : Nat) (v : List Int), vs[i]? = some v → ds[i]? = some (D.tup (ii v)) ∨ ds[i]? = some (D.lst (ii v))) (hl : vs.length ≤ 1000)
    (hK : Kk (vt vs) [a0, a1, a2, a3, a4, .un]) :
    lcW 6 [5] (gN 5) mYes (mBi dTuple (mCons (mVar 5) (mNil))) ds [] [a0, a1, a2, a3, a4, .un] Kk := by
  refine lcW_inv (fun i acc S => S = [a0, a1, a2, a3, a4, .un] ∧ acc = vt (vs.take i)) _ _ _ 0 ⟨rfl, rfl⟩ ?_ ?_
  · rintro i x acc S N hx ⟨rfl, rfl⟩ hN
    rw [Nat.zero_add] at hN ⊢
    have hi : i < vs.length := by rw [← hd.1]; exact (List.getElem?_eq_some_iff.mp hx).1
    have hv : vs[i]? = some vs[i] := List.getElem?_eq_getElem hi
    have fin := hN (vt (vs.take i) ++ [.tup (ii vs[i])]) _ ⟨rfl, by unfold vt; rw [List.take_add_one, hv, List.map_append]; rfl⟩
    have al : (vt (vs.take i)).length < 16777216 := by simp; omega
    have hx2 := hd.2 i _ hv
    rw [hx] at hx2
    generalize vt (vs.take i) = L at al fin ⊢
    rcases hx2 with e | e <;> (
      cases e
      simp [al]
      exact fin)
  · rintro acc S ⟨rfl, rfl⟩
    rw [Nat.zero_add, hd.1, List.take_length]
    exact hK
theorem en_at {ds : List D} {i : Nat} {d : D} (h : (enD ds)[i]? = some d) : ∃ x, ds[i]? = some x ∧ d = .tup [.int (i : Nat), x] := by
  unfold enD at h
  rw [List.getElem?_mapIdx] at h
  obtain ⟨x, hx, rfl⟩ := Option.map_eq_some_iff.mp h
  exact ⟨x, hx, rfl⟩
theorem en_len {ds : List D} : (enD ds).length = ds.length := by simp [enD]
theorem hD_at {hs : List Hm} {i : Nat} {d : D} (h : (hs.map hD)[i]? = some d) : ∃ x, hs[i]? = some x ∧ d = hD x := by
  rw [List.getElem?_map] at h
  obtain ⟨x, hx, rfl⟩ := Option.map_eq_some_iff.mp h
  exact ⟨x, hx, rfl⟩
theorem sp_harmed {ds : List D} {vs : List (List Int)} {hs : List Hm} {t u : Bool} (hd : ds.length = vs.length ∧ ∀ (i : Nat) (v : List Int), vs[i]? = some v → ds[i]? = some (D.tup (ii v)) ∨ ds[i]? = some (D.lst (ii v)))
    (l1 : vs.length ≤ 100) (l2 : ∀ v ∈ vs, v.length ≤ 1000) (l3 : hs.length ≤ 100) (sm : Sm hs)
    (hE : ∀ i x, hs[i]? = some x → okU vs hs i → okH x (bh vs hs i).length = false → E ⟨1, [("at", .int (i : Nat))]⟩ [.un, .un])
    (hQ : okU vs hs hs.length → Q (.val (.tup (vt (bh vs hs hs.length)))) [.un, .un]) : f_harmed [.fz (sq t ds), .fz (sq u (hs.map hD))] E Q := by
  have main : ∀ (d1 d2 : D), (d2 = .lst (hs.map hD) ∨ d2 = .tup (hs.map hD)) → ∀ (nx bk ct : Fm → Prop) (rt : R → Fm → Prop) (ex : EX), (∀ i x S, hs[i]? = some x → okU vs hs i → okH x (bh vs hs i).length = false → (∃ z3 z4, S = [.fz d1, .fz d2, .fz (.lst (vt (bh vs hs i))), z3, z4, .un]) → ex ⟨1, [("at", .int (i : Nat))]⟩ S) →
      (∀ z3 z4, okU vs hs hs.length → nx [.fz d1, .fz d2, .fz (.lst (vt (bh vs hs hs.length))), z3, z4, .un]) →
      forW (gT 2 (gsC (gN 3) (gsC (gN 4) (gsN)))) (sSeq (sIf (mNot (mTr (mCall (f_is_let) (mCons (mVar 4) (mCons (mBi dLen (mCons (mVar 2) (mNil))) (mNil)))))) (sRaise 1 "at" (mVar 3)) (sNext))
        (sSet 2 (mFz (mCall (f_harm_done) (mCons (mVar 2) (mCons (mVar 4) (mNil))))))) ⟨nx, rt, bk, ct, ex⟩ (enD (hs.map hD)) [.fz d1, .fz d2, .fz (.lst (vt vs)), .un, .un, .un] := fun d1 d2 hd2 nx bk ct rt ex hex hnx => by
    refine forW_any (fun i S => ∃ z3 z4, S = [.fz d1, .fz d2, .fz (.lst (vt (bh vs hs i))), z3, z4, .un] ∧ okU vs hs i) _ _ ⟨_, _, rfl, fun j _ hj => by omega⟩ ?_ ?_
    · rintro i d S N hxe ⟨z3, z4, rfl, hok⟩ hN
      obtain ⟨x0, hx0, rfl⟩ := en_at hxe
      obtain ⟨x, hx, rfl⟩ := hD_at hx0
      clear hxe hx0
      have hi : i < hs.length := (List.getElem?_eq_some_iff.mp hx).1
      obtain ⟨b1, b2⟩ := bh_sh l1 l2 (Nat.le_of_lt hi) hok
      have hsm : ∀ v p t xs, x = .chg v p t xs → xs.length < 1000 := sm x (List.mem_of_getElem? hx)
      simp
      refine sp_let hsm ?_
      cases c : okH x (bh vs hs i).length with
      | false =>
        simp
        exact hex i x _ hx hok c ⟨_, _, rfl⟩
      | true =>
        simp
        refine sp_done ⟨by omega, b2⟩ (fun v p t xs e => Nat.le_of_lt (hsm v p t xs e)) c ?_
        simp
        exact hN _ ⟨_, _, by rw [bh_succ hx], hok.succ hx c⟩
    · rintro S ⟨z3, z4, rfl, hok⟩
      rw [en_len, List.length_map] at hok ⊢
      exact hnx _ _ hok
  cases t <;> cases u <;> (
    simp [f_harmed, b_harmed, sq]
    refine comp_tup hd (by omega) ?_
    simp
    refine main _ _ (by first | exact .inl rfl | exact .inr rfl) _ _ _ _ _ (fun i x S hx hok c ⟨z3, z4, e⟩ => ?_) (fun z3 z4 hok => ?_)
    · subst e
      simp
      exact hE i x hx hok c
    · simp
      exact hQ hok)
def sm6 (v : Int) : Prop := -1000000 ≤ v ∧ v ≤ 1000000
def Bd : Hm → Prop
  | .lose v => sm6 v
  | .turn v w => sm6 v ∧ sm6 w
  | .dbl v => sm6 v
  | .cut v a b => sm6 v ∧ sm6 a ∧ sm6 b
  | .chg v p _ xs => sm6 v ∧ sm6 p ∧ xs.length ≤ 5 ∧ ∀ x ∈ xs, sm6 x
theorem sp_wrongv {s : List D} {m : Nat} (hs : Pl s) (hm : m ≤ 1000) (h : ∀ s' v, Pl s' → sm6 v → Q (.val (.int v)) [.ow (.lst s'), .un]) : f__law_wrong_volume [.ow (.lst s), .fz (.int (m : Nat))] E Q := by
  simp [f__law_wrong_volume, b__law_wrong_volume]
  refine sp_draw hs (by decide) (by decide) fun s1 v1 hs1 h1 => ?_
  simp
  refine sp_draw hs1 (by decide) (by decide) fun s2 v2 hs2 h2 => ?_
  simp
  refine sp_draw hs2 (by decide) (by decide) fun s3 v3 hs3 h3 => ?_
  have : v3 = 0 ∨ v3 = 1 ∨ v3 = 2 ∨ v3 = 3 := by omega
  rcases this with rfl | rfl | rfl | rfl <;> (
    simp
    exact h _ _ hs3 (by unfold sm6; omega))
theorem comp_ints {s : List D} {n : Nat} {a1 : Sl} {Kk : List D → Fm → Prop} (hs : Pl s) (hn : n ≤ 1000) (h : ∀ s' xs, Pl s' → xs.length = n → (∀ x ∈ xs, sm6 x) → Kk (ii xs) [.ow (.lst s'), a1, .un]) :
    lcW 3 [2] (gN 2) (mYes) (mBin dIxK (mLst (mCons (mCall (f__law_draw) (mCons (mOwn 0) (mCons (mC (.int 129)) (mNil)))) (mCons (mC (.int 128)) (mCons (mC (.int 0)) (mNil))))) (mCall (f__law_draw) (mCons (mOwn 0) (mCons (mC (.int 3)) (mNil))))) (rngD 0 n) [] [.ow (.lst s), a1, .un] Kk := by
  refine lcW_inv (fun i acc S => ∃ s' xs, S = [.ow (.lst s'), a1, .un] ∧ acc = ii xs ∧ Pl s' ∧ xs.length = i ∧ ∀ x ∈ xs, sm6 x) _ _ _ 0 ⟨s, [], rfl, rfl, hs, rfl, fun _ z => by cases z⟩ ?_ ?_
  · rintro i x acc S N hx ⟨s', xs, rfl, rfl, hs', hl, hsm⟩ hN
    rw [Nat.zero_add] at hl hN
    have hi : i < n := by
      have := (List.getElem?_eq_some_iff.mp hx).1
      simpa [rngD] using this
    simp
    refine sp_draw hs' (by decide) (by decide) fun s1 v1 hs1 h1 => ?_
    simp
    refine sp_draw hs1 (by decide) (by decide) fun s2 v2 hs2 h2 => ?_
    have fin : ∀ y : Int, sm6 y → N (ii xs ++ [.int y]) [.ow (.lst s2), a1, .un] := fun y hy => hN _ _ ⟨s2, xs ++ [y], rfl, by simp [ii], hs2, by simp [hl], fun z hz => by
      rcases List.mem_append.mp hz with q | q
      · exact hsm z q
      · rw [List.mem_singleton.mp q]; exact hy⟩
    have : v2 = 0 ∨ v2 = 1 ∨ v2 = 2 := by omega
    rcases this with rfl | rfl | rfl <;> (
      simp
      exact ⟨by omega, fin _ (by unfold sm6; omega)⟩)
  · rintro acc S ⟨s', xs, rfl, rfl, hs', hl, hsm⟩
    exact h _ _ hs' (by simpa [rngD] using hl) hsm
theorem sp_ints {s : List D} (hs : Pl s) (h : ∀ s' t xs, Pl s' → xs.length ≤ 4 → (∀ x ∈ xs, sm6 x) → Q (.val (sq t (ii xs))) [.ow (.lst s')]) : f__law_integers [.ow (.lst s)] E Q := by
  simp [f__law_integers, b__law_integers]
  refine sp_draw hs (by decide) (by decide) fun s1 v1 hs1 h1 => ?_
  obtain ⟨n, en⟩ : ∃ n, n = 1 + v1 := ⟨_, rfl⟩
  have en2 : (1 + (v1 : Int)) = (n : Nat) := by omega
  simp [en2]
  refine ⟨by omega, comp_ints hs1 (by omega) fun s2 xs hs2 hl hsm => ?_⟩
  simp
  refine sp_draw hs2 (by decide) (by decide) fun s3 v3 hs3 h3 => ?_
  by_cases c : v3 = 0
  · subst c
    simp
    exact h _ true xs hs3 (by omega) hsm
  · simp [c]
    exact h _ false xs hs3 (by omega) hsm
theorem sp_harm {s : List D} {m : Nat} (hs : Pl s) (hm : m ≤ 1000) (h : ∀ s' x, Pl s' → Bd x → Q (.val (hD x)) [.ow (.lst s'), .un]) : f__law_harm [.ow (.lst s), .fz (.int (m : Nat))] E Q := by
  obtain ⟨M, eM, hM⟩ : ∃ M : Nat, (if (1 : Int) < (m : Nat) then ((m : Nat) : Int) else 1) = (M : Nat) ∧ 1 ≤ M ∧ M ≤ 1000 := by
    by_cases c : 1 < m
    · exact ⟨m, by rw [if_pos (by omega)], by omega, hm⟩
    · exact ⟨1, by rw [if_neg (by omega)]; rfl, by omega, by omega⟩
  simp [f__law_harm, b__law_harm]
  rw [eM]
  refine sp_draw hs (by omega) (by omega) fun s1 v hs1 hv => ?_
  simp
  refine sp_draw hs1 (by decide) (by decide) fun s2 kd hs2 hkd => ?_
  have : kd = 0 ∨ kd = 1 ∨ kd = 2 ∨ kd = 3 ∨ kd = 4 ∨ kd = 5 := by omega
  rcases this with rfl | rfl | rfl | rfl | rfl | rfl
  · simp
    exact h s2 (.lose (v : Nat)) hs2 (by unfold Bd sm6; omega)
  · simp
    rw [eM]
    refine sp_draw hs2 (by omega) (by omega) fun s3 w hs3 hw => ?_
    simp
    exact h s3 (.turn (v : Nat) (w : Nat)) hs3 (by unfold Bd sm6; omega)
  · simp
    exact h s2 (.dbl (v : Nat)) hs2 (by unfold Bd sm6; omega)
  all_goals
    simp
    refine sp_draw hs2 (by decide) (by decide) fun s3 p1 hs3 h3 => ?_
    simp
    refine sp_draw hs3 (by decide) (by decide) fun s4 p2 hs4 h4 => ?_
    simp
    refine sp_draw hs4 (by decide) (by decide) fun s5 p3 hs5 h5 => ?_
    simp
    refine sp_draw hs5 (by decide) (by decide) fun s6 p4 hs6 h6 => ?_
    obtain ⟨p, ep, hp⟩ : ∃ p : Nat, [D.int (p1 : Nat), D.int (p2 : Nat), D.int 0, D.int (p3 : Nat)][p4]? = some (.int (p : Nat)) ∧ p < 100000 := by
      have : p4 = 0 ∨ p4 = 1 ∨ p4 = 2 ∨ p4 = 3 := by omega
      rcases this with rfl | rfl | rfl | rfl
      · exact ⟨p1, rfl, by omega⟩
      · exact ⟨p2, rfl, by omega⟩
      · exact ⟨0, rfl, by omega⟩
      · exact ⟨p3, rfl, by omega⟩
    simp [ep]
  · refine sp_draw hs6 (by decide) (by decide) fun s7 q1 hs7 h7 => ?_
    simp
    refine sp_draw hs7 (by decide) (by decide) fun s8 q2 hs8 h8 => ?_
    simp
    refine sp_draw hs8 (by decide) (by decide) fun s9 q3 hs9 h9 => ?_
    obtain ⟨q, eq, hq⟩ : ∃ q : Nat, [D.int 0, D.int (q1 : Nat), D.int 12, D.int (q2 : Nat)][q3]? = some (.int (q : Nat)) ∧ q < 100000 := by
      have : q3 = 0 ∨ q3 = 1 ∨ q3 = 2 ∨ q3 = 3 := by omega
      rcases this with rfl | rfl | rfl | rfl
      · exact ⟨0, rfl, by omega⟩
      · exact ⟨q1, rfl, by omega⟩
      · exact ⟨12, rfl, by omega⟩
      · exact ⟨q2, rfl, by omega⟩
    simp [eq]
    exact h s9 (.cut (v : Nat) (p : Nat) ((p : Int) + (q : Nat))) hs9 (by unfold Bd sm6; omega)
  · refine sp_ints hs6 fun s7 t xs hs7 l7 b7 => ?_
    simp
    exact h s7 (.chg (v : Nat) (p : Nat) t xs) hs7 (by unfold Bd; exact ⟨by unfold sm6; omega, by unfold sm6; omega, by omega, b7⟩)
  · refine sp_ints hs6 fun s7 t xs hs7 l7 b7 => ?_
    simp
    exact h s7 (.chg (v : Nat) (p : Nat) t xs) hs7 (by unfold Bd; exact ⟨by unfold sm6; omega, by unfold sm6; omega, by omega, b7⟩)
theorem cut_F {α : Type} (xs : List α) (n : Nat) : cutD xs (some (n : Int)) none = xs.drop n := by simp
theorem cut2d {α : Type} {a b : α} {l : List α} : cutD (a :: b :: l) (some 2) none = l := cut_F (a :: b :: l) 2
theorem cut3 {α : Type} {a b c : α} {l : List α} : cutD (a :: b :: c :: l) none (some 3) = [a, b, c] := cut_N (a :: b :: c :: l) 3
theorem sp_spoilt {s : List D} {m : Nat} {x : Hm} (hs : Pl s) (hm : m ≤ 1000) (hx : Bd x) (h : ∀ s' y, Pl s' → Bd y → Q (.val (hD y)) [.ow (.lst s'), .un, .un]) : f__law_spoilt [.ow (.lst s), .fz (hD x), .fz (.int (m : Nat))] E Q := by
  simp [f__law_spoilt, b__law_spoilt]
  refine sp_wrongv hs hm fun s1 wv hs1 hwv => ?_
  cases x with
  | turn v w =>
    simp [hD]
    refine sp_draw hs1 (by decide) (by decide) fun s2 u hs2 hu => ?_
    have : u = 0 ∨ u = 1 := by omega
    rcases this with rfl | rfl
    · simp
      exact h s2 (.turn wv w) hs2 ⟨hwv, hx.2⟩
    · simp
      exact h s2 (.turn v wv) hs2 ⟨hx.1, hwv⟩
  | lose v =>
    simp [hD]
    refine sp_draw hs1 (by decide) (by decide) fun s2 u hs2 hu => ?_
    simp [cut2d]
    exact h s2 (.lose wv) hs2 hwv
  | dbl v =>
    simp [hD]
    refine sp_draw hs1 (by decide) (by decide) fun s2 u hs2 hu => ?_
    simp [cut2d]
    exact h s2 (.dbl wv) hs2 hwv
  | cut v a b =>
    simp [hD]
    refine sp_draw hs1 (by decide) (by decide) fun s2 u hs2 hu => ?_
    by_cases c : 0 < u
    · simp [c]
      refine sp_draw hs2 (by decide) (by decide) fun s3 g hs3 hg => ?_
      have : u = 1 ∨ u = 2 ∨ u = 3 := by omega
      rcases this with rfl | rfl | rfl
      · simp
        exact h s3 (.cut v (1 + (g : Nat)) (1 + (g : Nat) - 1)) hs3 ⟨hx.1, by unfold sm6; omega, by unfold sm6; omega⟩
      · simp
        exact h s3 (.cut v (-(1 + (g : Nat))) 5) hs3 ⟨hx.1, by unfold sm6; omega, by unfold sm6; omega⟩
      · simp
        exact h s3 (.cut v (-1) (-1)) hs3 ⟨hx.1, by unfold sm6; omega, by unfold sm6; omega⟩
    · simp [c, cut2d]
      exact h s2 (.cut wv a b) hs2 ⟨hwv, hx.2⟩
  | chg v p t xs =>
    simp [hD]
    refine sp_draw hs1 (by decide) (by decide) fun s2 u hs2 hu => ?_
    have : u = 0 ∨ u = 1 ∨ u = 2 ∨ u = 3 := by omega
    rcases this with rfl | rfl | rfl | rfl
    · simp [cut2d]
      exact h s2 (.chg wv p t xs) hs2 ⟨hwv, hx.2⟩
    · simp
      refine sp_draw hs2 (by decide) (by decide) fun s3 g hs3 hg => ?_
      simp
      exact h s3 (.chg v _ t xs) hs3 ⟨hx.1, by unfold sm6; omega, hx.2.2⟩
    · skip
      simp [cut3]
      refine sp_draw hs2 (by decide) (by decide) fun s3 g hs3 hg => ?_
      have hb : ∀ t ys, (∀ y ∈ ys, sm6 y) ∧ ys.length ≤ 5 → Q (.val (hD (.chg v p t ys))) [.ow (.lst s3), .un, .un] := fun t ys hy => h s3 (.chg v p t ys) hs3 ⟨hx.1, hx.2.1, hy.2, hy.1⟩
      have : g = 0 ∨ g = 1 ∨ g = 2 ∨ g = 3 ∨ g = 4 ∨ g = 5 ∨ g = 6 := by omega
      rcases this with rfl | rfl | rfl | rfl | rfl | rfl | rfl
      · simp
        exact hb true [] ⟨by simp [sm6], by simp⟩
      · simp
        exact hb true [1, 2, 3, 4, 5] ⟨by simp [sm6], by simp⟩
      · simp
        exact hb true [129] ⟨by simp [sm6], by simp⟩
      · simp
        exact hb true [0, -1] ⟨by simp [sm6], by simp⟩
      · simp
        exact hb false [5, 1000] ⟨by simp [sm6], by simp⟩
      · simp
        exact hb true [1, 2, 3, 129] ⟨by simp [sm6], by simp⟩
      · simp
        exact hb false [] ⟨by simp [sm6], by simp⟩
    · skip
      simp [cut3]
      refine sp_draw hs2 (by decide) (by decide) fun s3 g hs3 hg => ?_
      have hb : ∀ t ys, (∀ y ∈ ys, sm6 y) ∧ ys.length ≤ 5 → Q (.val (hD (.chg v p t ys))) [.ow (.lst s3), .un, .un] := fun t ys hy => h s3 (.chg v p t ys) hs3 ⟨hx.1, hx.2.1, hy.2, hy.1⟩
      have : g = 0 ∨ g = 1 ∨ g = 2 ∨ g = 3 ∨ g = 4 ∨ g = 5 ∨ g = 6 := by omega
      rcases this with rfl | rfl | rfl | rfl | rfl | rfl | rfl
      · simp
        exact hb true [] ⟨by simp [sm6], by simp⟩
      · simp
        exact hb true [1, 2, 3, 4, 5] ⟨by simp [sm6], by simp⟩
      · simp
        exact hb true [129] ⟨by simp [sm6], by simp⟩
      · simp
        exact hb true [0, -1] ⟨by simp [sm6], by simp⟩
      · simp
        exact hb false [5, 1000] ⟨by simp [sm6], by simp⟩
      · simp
        exact hb true [1, 2, 3, 129] ⟨by simp [sm6], by simp⟩
      · simp
        exact hb false [] ⟨by simp [sm6], by simp⟩
theorem iw_loop {vs : List Int} {d0 d2 : Sl} {n : Nat} {nx bk ct : Fm → Prop} {rt : R → Fm → Prop} {ex : EX} (hb : ∀ v z3, v ∈ vs → ¬ (0 ≤ v ∧ v ≤ (n : Int) - 1) → rt (.val (.bl true)) [d0, .fz (.int (n : Nat)), d2, z3, .un, .un])
    (hok : ∀ z3, (∀ v ∈ vs, 0 ≤ v ∧ v ≤ (n : Int) - 1) → nx [d0, .fz (.int (n : Nat)), d2, z3, .un, .un]) :
    forW (gN 3) (sIf (mOr (mTe (mBin dLt (mVar 3) (mC (.int 0)))) (mTe (mBin dGe (mVar 3) (mVar 1)))) (sRet (mC (.bl true))) (sNext)) ⟨nx, rt, bk, ct, ex⟩ (ii vs) [d0, .fz (.int (n : Nat)), d2, .un, .un, .un] := by
  refine forW_any (fun i S => ∃ z3, S = [d0, .fz (.int (n : Nat)), d2, z3, .un, .un] ∧ ∀ v ∈ vs.take i, 0 ≤ v ∧ v ≤ (n : Int) - 1) _ _ ⟨_, rfl, fun _ z => by simp at z⟩ ?_ ?_
  · rintro i d S N hd ⟨z3, rfl, hv⟩ hN
    obtain ⟨v, hvi, rfl⟩ := ii_at hd
    by_cases c1 : v < 0
    · simp [c1]
      exact hb v _ (List.mem_of_getElem? hvi) (by omega)
    · by_cases c2 : (n : Int) ≤ v
      · simp [c1, c2]
        exact hb v _ (List.mem_of_getElem? hvi) (by omega)
      · simp [c1, c2]
        refine hN _ ⟨_, rfl, fun u hu => ?_⟩
        rw [List.take_add_one, hvi] at hu
        rcases List.mem_append.mp hu with z | z
        · exact hv u z
        · have : u = v := by simpa using z
          subst this; omega
  · rintro S ⟨z3, rfl, hv⟩
    rw [ii_len, List.take_length] at hv
    exact hok z3 hv
theorem comp_bad {xs : List Int} {a0 a1 a2 a3 : Sl} {Kk : List D → Fm → Prop} (hl : xs.length ≤ 1000) (hK : Kk (ii (xs.filter fun x => decide (¬ (0 ≤ x ∧ x ≤ 128)))) [a0, a1, a2, a3, .un, .un]) :
    lcW 6 [5] (gN 5) (mOr (mTe (mBin dLt (mVar 5) (mC (.int 0)))) (mTe (mBin dGt (mVar 5) (mC (.int 128))))) (mVar 5) (ii xs) [] [a0, a1, a2, a3, .un, .un] Kk := by
  refine lcW_inv (fun i acc S => S = [a0, a1, a2, a3, .un, .un] ∧ acc = ii ((xs.take i).filter fun x => decide (¬ (0 ≤ x ∧ x ≤ 128)))) _ _ _ 0 ⟨rfl, by simp [ii]⟩ ?_ ?_
  · rintro i d acc S N hx ⟨rfl, rfl⟩ hN
    rw [Nat.zero_add] at hN ⊢
    obtain ⟨x, hxi, rfl⟩ := ii_at hx
    have hi := (List.getElem?_eq_some_iff.mp hxi).1
    have al : (ii ((xs.take i).filter fun x => decide (¬ (0 ≤ x ∧ x ≤ 128)))).length < 16777216 := by
      rw [ii_len]
      exact Nat.lt_of_le_of_lt (List.length_filter_le _ _) (by simp; omega)
    have e1 : (xs.take (i + 1)).filter (fun x => decide (¬ (0 ≤ x ∧ x ≤ 128))) = (xs.take i).filter (fun x => decide (¬ (0 ≤ x ∧ x ≤ 128))) ++ [x].filter (fun x => decide (¬ (0 ≤ x ∧ x ≤ 128))) := by
      rw [List.take_add_one, hxi, List.filter_append]; rfl
    rw [e1] at hN
    generalize (xs.take i).filter (fun x => decide (¬ (0 ≤ x ∧ x ≤ 128))) = L at al hN ⊢
    by_cases c1 : x < 0
    · have fin := hN (ii L ++ [.int x]) [a0, a1, a2, a3, .un, .un] ⟨rfl, by rw [List.filter_cons, if_pos (by rw [decide_eq_true_eq]; omega)]; simp [ii]⟩
      simp [c1]
      exact ⟨by simpa using al, fin⟩
    · by_cases c2 : 128 < x
      · have fin := hN (ii L ++ [.int x]) [a0, a1, a2, a3, .un, .un] ⟨rfl, by rw [List.filter_cons, if_pos (by rw [decide_eq_true_eq]; omega)]; simp [ii]⟩
        simp [c1, c2]
        exact ⟨by simpa using al, fin⟩
      · have fin := hN (ii L) [a0, a1, a2, a3, .un, .un] ⟨rfl, by rw [List.filter_cons, if_neg (by rw [decide_eq_true_eq]; omega)]; simp [ii]⟩
        simp [c1, c2]
        exact fin
  · rintro acc S ⟨rfl, rfl⟩
    rw [Nat.zero_add, ii_len, List.take_length]
    exact hK
theorem okc_bad {p : Int} {xs : List Int} {K : Bool → Prop} (h : K (!okc p xs)) : if p < 0 then K true else if (xs.length : Int) < 1 then K true else if 4 < (xs.length : Int) then K true else K (decide (∃ x, x ∈ xs ∧ (x < 0 ∨ 128 < x))) := by
  unfold okc at h
  by_cases c1 : p < 0
  · rw [if_pos c1]
    rw [decide_eq_false (show ¬ 0 ≤ p by omega), Bool.false_and] at h
    exact h
  rw [if_neg c1]
  rw [decide_eq_true (show 0 ≤ p by omega), Bool.true_and] at h
  by_cases c2 : (xs.length : Int) < 1
  · rw [if_pos c2]
    rw [decide_eq_false (show ¬ (1 ≤ xs.length ∧ xs.length ≤ 4) by omega), Bool.false_and] at h
    exact h
  rw [if_neg c2]
  by_cases c3 : 4 < (xs.length : Int)
  · rw [if_pos c3]
    rw [decide_eq_false (show ¬ (1 ≤ xs.length ∧ xs.length ≤ 4) by omega), Bool.false_and] at h
    exact h
  rw [if_neg c3]
  rw [decide_eq_true (show 1 ≤ xs.length ∧ xs.length ≤ 4 by omega), Bool.true_and] at h
  have e : (!xs.all fun x => decide (0 ≤ x ∧ x ≤ 128)) = decide (∃ x, x ∈ xs ∧ (x < 0 ∨ 128 < x)) := by
    rw [Bool.eq_iff_iff]
    simp
    constructor
    · rintro ⟨x, hx, q⟩
      exact ⟨x, hx, by omega⟩
    · rintro ⟨x, hx, q⟩
      exact ⟨x, hx, by omega⟩
  rw [e] at h
  exact h
theorem sp_iswrong {x : Hm} {n : Nat} (hn : n ≤ 1000) (hx : Bd x) (h : Q (.val (.bl (!okH x n))) [.un, .un]) : f__law_is_wrong [.fz (hD x), .fz (.int (n : Nat))] E Q := by
  have e : ∀ v : Int, inn v n = decide (0 ≤ v ∧ v ≤ (n : Int) - 1) := fun v => rfl
  cases x with
  | lose v =>
    simp only [okH, e] at h
    simp [f__law_is_wrong, b__law_is_wrong, hD]
    refine iw_loop (vs := [v]) (fun u z3 hu c => ?_) (fun z3 c => ?_)
    · obtain rfl : u = v := by simpa using hu
      simp [c] at h ⊢
      exact h
    · have c := c v (by simp)
      simp [c] at h ⊢
      exact h
  | dbl v =>
    simp only [okH, e] at h
    simp [f__law_is_wrong, b__law_is_wrong, hD]
    refine iw_loop (vs := [v]) (fun u z3 hu c => ?_) (fun z3 c => ?_)
    · obtain rfl : u = v := by simpa using hu
      simp [c] at h ⊢
      exact h
    · have c := c v (by simp)
      simp [c] at h ⊢
      exact h
  | turn v w =>
    simp only [okH, e] at h
    simp [f__law_is_wrong, b__law_is_wrong, hD]
    refine iw_loop (vs := [v, w]) (fun u z3 hu c => ?_) (fun z3 c => ?_)
    · have : u = v ∨ u = w := by simpa using hu
      rcases this with rfl | rfl
      · simp [c] at h ⊢
        exact h
      · simp [c] at h ⊢
        exact h
    · have c1 := c v (by simp)
      have c2 := c w (by simp)
      simp [c1, c2] at h ⊢
      exact h
  | cut v a b =>
    simp only [okH, e] at h
    simp [f__law_is_wrong, b__law_is_wrong, hD]
    refine iw_loop (vs := [v]) (fun u z3 hu c => ?_) (fun z3 c => ?_)
    · obtain rfl : u = v := by simpa using hu
      simp [c] at h ⊢
      exact h
    · have c := c v (by simp)
      simp [c] at h ⊢
      by_cases c1 : b < a
      · rw [if_pos c1]
        rw [decide_eq_false (show ¬ a ≤ b by omega)] at h
        simpa using h
      · rw [if_neg c1]
        rw [decide_eq_true (show a ≤ b by omega)] at h
        have e2 : (!decide (0 ≤ a) || !true) = decide (a < 0) := by
          by_cases c2 : a < 0
          · rw [decide_eq_true c2, decide_eq_false (by omega)]; rfl
          · rw [decide_eq_false c2, decide_eq_true (by omega)]; rfl
        rw [e2] at h
        exact h
  | chg v p t xs =>
    simp only [okH, e] at h
    simp [f__law_is_wrong, b__law_is_wrong, hD]
    refine iw_loop (vs := [v]) (fun u z3 hu c => ?_) (fun z3 c => ?_)
    · obtain rfl : u = v := by simpa using hu
      simp [c] at h ⊢
      exact h
    · have c := c v (by simp)
      simp [c] at h ⊢
      have hl := hx.2.2.1
      cases t <;> (
        simp [sq]
        refine comp_bad (by omega) ?_
        simp
        exact okc_bad (K := fun b => Q (.val (.bl b)) [.un, .un]) h)
def vl (vs : List (List Int)) : List D := vs.map fun v => .lst (ii v)
@[simp] theorem vl_len {vs : List (List Int)} : (vl vs).length = vs.length := by simp [vl]
theorem vl_at {vs : List (List Int)} {i : Nat} (h : i < vs.length) : (vl vs)[i]? = some (.lst (ii (vs.getD i []))) := by
  unfold vl; rw [List.getElem?_map, List.getElem?_eq_getElem h, List.getD_eq_getElem?_getD, List.getElem?_eq_getElem h]; rfl
theorem vl_set {vs : List (List Int)} {i : Nat} {v : List Int} : (vl vs).set i (.lst (ii v)) = vl (vs.set i v) := by simp [vl, List.map_set]
theorem vl_app {vs : List (List Int)} {v : List Int} : vl vs ++ [.lst (ii v)] = vl (vs ++ [v]) := by simp [vl]
theorem chL_nil {v : List Int} {p : Nat} : chL v p [] = v := by
  refine List.ext_getElem? fun i => ?_
  rw [chL_at, if_neg (fun z => by simp at z; omega)]
theorem chL_snoc {v : List Int} {p : Nat} {xs : List Int} {x : Int} : chL v p (xs ++ [x]) = if p + xs.length < v.length then (chL v p xs).set (p + xs.length) x else chL v p xs := by
  refine List.ext_getElem? fun i => ?_
  by_cases c : p + xs.length < v.length
  · rw [if_pos c, chL_at, List.getElem?_set]
    by_cases e : p + xs.length = i
    · subst e
      rw [if_pos ⟨by omega, by simp, c⟩, if_pos rfl, if_pos (by simpa using c)]
      simp
    · rw [if_neg e, chL_at]
      by_cases q : p ≤ i ∧ i < p + xs.length ∧ i < v.length
      · rw [if_pos q, if_pos ⟨q.1, by simp; omega, q.2.2⟩]
        rw [List.getD_eq_getElem?_getD, List.getD_eq_getElem?_getD, List.getElem?_append_left (by omega)]
      · rw [if_neg q, if_neg (fun z => q ⟨z.1, by have := z.2.1; simp at this; omega, z.2.2⟩)]
  · rw [if_neg c, chL_at, chL_at]
    by_cases q : p ≤ i ∧ i < p + xs.length ∧ i < v.length
    · rw [if_pos q, if_pos ⟨q.1, by simp; omega, q.2.2⟩]
      rw [List.getD_eq_getElem?_getD, List.getD_eq_getElem?_getD, List.getElem?_append_left (by omega)]
    · rw [if_neg q, if_neg (fun z => q ⟨z.1, by have := z.2.1; simp at this; omega, z.2.2⟩)]
theorem sq_len {t : Bool} {xs : List D} {kr : R → Prop} (h1 : xs.length < 2 ^ 62) (h : kr (.val (.int (xs.length : Nat)))) : dLen [sq t xs] kr := by
  cases t <;> (simp [sq]; exact h)
theorem sp_ldone {vs : List (List Int)} {x : Hm} (hs : Sh vs) (hx : Bd x) (ok : okH x vs.length = true) (h : Q (.own (.lst (vl (dn vs x)))) [.un, .un]) : f__law_done [.fz (.lst (vl vs)), .fz (hD x)] E Q := by
  cases x with
  | lose v =>
    obtain ⟨i, rfl, hi⟩ := inn_ok ok
    have e0 := vl_at hi
    simp [f__law_done, b__law_done, hD, cut2, e0, ixN_nat hi]
    rw [show D.lst [] = .lst (ii []) from rfl, vl_set]
    exact h
  | dbl v =>
    obtain ⟨i, rfl, hi⟩ := inn_ok ok
    have e0 := vl_at hi
    simp [f__law_done, b__law_done, hD, cut2, e0, ixN_nat hi]
    rw [vl_app]
    exact ⟨by have := hs.1; omega, h⟩
  | turn v w =>
    simp only [okH, Bool.and_eq_true] at ok
    obtain ⟨i, rfl, hi⟩ := inn_ok ok.1
    obtain ⟨j, rfl, hj⟩ := inn_ok ok.2
    have e0 := vl_at hi
    have e3 := vl_at hj
    simp [f__law_done, b__law_done, hD, cut2, e0, e3, ixN_nat hi, ixN_nat hj]
    rw [vl_set, vl_set]
    exact h
  | cut v a b =>
    simp only [okH, Bool.and_eq_true, decide_eq_true_eq] at ok
    obtain ⟨i, rfl, hi⟩ := inn_ok ok.1
    obtain ⟨a, rfl⟩ : ∃ n : Nat, a = n := ⟨a.toNat, by omega⟩
    obtain ⟨b, rfl⟩ : ∃ n : Nat, b = n := ⟨b.toNat, by omega⟩
    have e0 := vl_at hi
    simp [f__law_done, b__law_done, hD, cut2, e0, ixN_nat hi]
    have l1 := hs.get i
    rw [List.getD_eq_getElem?_getD] at l1
    refine ⟨by omega, ?_⟩
    rw [ii_take, ii_drop, ii_app, vl_set]
    exact h
  | chg v p t xs =>
    simp only [okH, okc, Bool.and_eq_true, decide_eq_true_eq] at ok
    obtain ⟨i, rfl, hi⟩ := inn_ok ok.1
    obtain ⟨p, rfl⟩ : ∃ n : Nat, p = n := ⟨p.toNat, by omega⟩
    have e0 := vl_at hi
    simp [f__law_done, b__law_done, hD, cut2, e0, ixN_nat hi]
    have l1 := hs.get i
    rw [List.getD_eq_getElem?_getD] at l1
    have hd : dn vs (.chg (i : Nat) (p : Nat) t xs) = vs.set i (chL (vs[i]?.getD []) p xs) := by simp [dn]
    rw [hd, ← vl_set] at h
    generalize vs[i]?.getD [] = V at *
    have hl := hx.2.2.1
    have loop : ∀ (d1 dx d3 : D) (xs' : List D), xs' = ii xs → (d1 = .tup [.str "change", .int (i : Nat), .int (p : Nat), dx]) → (dx = .tup xs' ∨ dx = .lst xs') → ∀ (nx bk ct : Fm → Prop) (rt : R → Fm → Prop) (ex : EX), (∀ z5, nx [.ow (.lst (vl vs)), .fz d1, .fz (.int (i : Nat)), .fz d3, .ow (.lst (ii (chL V p xs))), z5]) →
        forW (gN 5) (sIf (mTe (mBin dLt (mBin dAdd (mBin dIxK (mVar 1) (mC (.int 2))) (mVar 5)) (mBi dLen (mCons (mOwn 4) (mNil))))) (sPut 4 (mBin dAdd (mBin dIxK (mVar 1) (mC (.int 2))) (mVar 5)) (mBin dIxK (mBin dIxK (mVar 1) (mC (.int 3))) (mVar 5))) (sNext)) ⟨nx, rt, bk, ct, ex⟩ (rngD 0 xs.length)
        [.ow (.lst (vl vs)), .fz d1, .fz (.int (i : Nat)), .fz d3, .ow (.lst (ii V)), .un] := fun d1 dx d3 xs' ex' e1 e2 nx bk ct rt ex hnx => by
      subst ex' e1
      refine forW_rng (fun k S => ∃ z5, S = [.ow (.lst (vl vs)), .fz (.tup [.str "change", .int (i : Nat), .int (p : Nat), dx]), .fz (.int (i : Nat)), .fz d3, .ow (.lst (ii (chL V p (xs.take k)))), z5]) _ _ ⟨_, by rw [List.take_zero, chL_nil]⟩ ?_ ?_
      · rintro k S N hk ⟨z5, rfl⟩ hN
        have hxk : xs[k]? = some xs[k] := List.getElem?_eq_getElem hk
        have ek : (ii xs)[k]? = some (.int xs[k]) := ii_get hxk
        have et : xs.take (k + 1) = xs.take k ++ [xs[k]] := by rw [List.take_add_one, hxk]; rfl
        have lk : (xs.take k).length = k := by rw [List.length_take]; omega
        have fin := hN _ ⟨.fz (.int (k : Nat)), rfl⟩
        rw [et, chL_snoc, lk] at fin
        obtain ⟨pk, epk⟩ : ∃ pk, pk = p + k := ⟨_, rfl⟩
        have epk2 : (p : Int) + (k : Nat) = (pk : Nat) := by omega
        rw [← epk] at fin
        have lW : (chL V p (xs.take k)).length = V.length := chL_len
        generalize chL V p (xs.take k) = W at *
        generalize xs[k] = y at *
        by_cases c : pk < V.length
        · rw [if_pos c, ← ii_set] at fin
          have hix : L2.ixN V.length (pk : Int) = some pk := ixN_nat c
          rcases e2 with rfl | rfl <;> (
            simp [epk2, lW, c, ek, hix]
            exact fin)
        · rw [if_neg c] at fin
          rcases e2 with rfl | rfl <;> (
            simp [epk2, lW, c]
            exact fin)
      · rintro S ⟨z5, rfl⟩
        rw [List.take_length]
        exact hnx _
    cases t <;> (
      simp [sq]
      refine ⟨by omega, ?_⟩
      refine loop _ _ _ (ii xs) rfl rfl (by first | exact .inl rfl | exact .inr rfl) _ _ _ _ _ fun z5 => ?_
      simp [ixN_nat hi]
      exact h)
/-- the volumes as they are handed in -/
def Vd (ds : List D) (vs : List (List Int)) : Prop := ds.length = vs.length ∧ ∀ (i : Nat) (v : List Int), vs[i]? = some v → ds[i]? = some (D.tup (ii v)) ∨ ds[i]? = some (D.lst (ii v))
theorem comp_lst {ds : List D} {vs : List (List Int)} {a0 a1 a2 : Sl} {Kk : List D → Fm → Prop} (hd : Vd ds vs) (hl : vs.length ≤ 1000) (hK : Kk (vl vs) [a0, a1, a2, .un]) :
    lcW 4 [3] (gN 3) mYes (mBi dList (mCons (mVar 3) (mNil))) ds [] [a0, a1, a2, .un] Kk := by
  refine lcW_inv (fun i acc S => S = [a0, a1, a2, .un] ∧ acc = vl (vs.take i)) _ _ _ 0 ⟨rfl, rfl⟩ ?_ ?_
  · rintro i x acc S N hx ⟨rfl, rfl⟩ hN
    rw [Nat.zero_add] at hN ⊢
    have hi : i < vs.length := by rw [← hd.1]; exact (List.getElem?_eq_some_iff.mp hx).1
    have hv : vs[i]? = some vs[i] := List.getElem?_eq_getElem hi
    have fin := hN (vl (vs.take i) ++ [.lst (ii vs[i])]) _ ⟨rfl, by unfold vl; rw [List.take_add_one, hv, List.map_append]; rfl⟩
    have al : (vl (vs.take i)).length < 16777216 := by simp; omega
    have hx2 := hd.2 i _ hv
    rw [hx] at hx2
    generalize vl (vs.take i) = L at al fin ⊢
    rcases hx2 with e | e <;> (
      cases e
      simp [al]
      exact fin)
  · rintro acc S ⟨rfl, rfl⟩
    rw [Nat.zero_add, hd.1, List.take_length]
    exact hK
theorem comp_tup2 {vs : List (List Int)} {a0 a1 a2 : Sl} {Kk : List D → Fm → Prop} (hl : vs.length ≤ 1000) (hK : Kk (vt vs) [a0, a1, a2, .un]) :
    lcW 4 [3] (gN 3) mYes (mBi dTuple (mCons (mVar 3) (mNil))) (vl vs) [] [a0, a1, a2, .un] Kk := by
  refine lcW_inv (fun i acc S => S = [a0, a1, a2, .un] ∧ acc = vt (vs.take i)) _ _ _ 0 ⟨rfl, rfl⟩ ?_ ?_
  · rintro i x acc S N hx ⟨rfl, rfl⟩ hN
    rw [Nat.zero_add] at hN ⊢
    have hi : i < vs.length := by rw [← vl_len (vs := vs)]; exact (List.getElem?_eq_some_iff.mp hx).1
    have hv : vs[i]? = some vs[i] := List.getElem?_eq_getElem hi
    have fin := hN (vt (vs.take i) ++ [.tup (ii vs[i])]) _ ⟨rfl, by unfold vt; rw [List.take_add_one, hv, List.map_append]; rfl⟩
    have al : (vt (vs.take i)).length < 16777216 := by simp; omega
    have hx2 : (vl vs)[i]? = some (.lst (ii vs[i])) := by unfold vl; rw [List.getElem?_map, hv]; rfl
    rw [hx] at hx2
    cases hx2
    generalize vt (vs.take i) = L at al fin ⊢
    simp [al]
    exact fin
  · rintro acc S ⟨rfl, rfl⟩
    rw [Nat.zero_add, vl_len, List.take_length]
    exact hK
theorem sp_ldue {ds : List D} {vs : List (List Int)} {hs : List Hm} (hd : Vd ds vs) (l1 : vs.length ≤ 100) (l2 : ∀ v ∈ vs, v.length ≤ 1000) (l3 : hs.length ≤ 100) (hb : ∀ x ∈ hs, Bd x)
    (hW : ∀ i x, hs[i]? = some x → okU vs hs i → okH x (bh vs hs i).length = false → Q (.val (.tup [.str "value", .int (i : Nat)])) [.un, .un])
    (hQ : okU vs hs hs.length → Q (.val (.tup [.str "told", .tup (vt (bh vs hs hs.length))])) [.un, .un]) : f__law_due [.fz (.lst ds), .fz (.lst (hs.map hD))] E Q := by
  simp [f__law_due, b__law_due]
  refine comp_lst hd (by omega) ?_
  simp
  refine ⟨by omega, ?_⟩
  refine forW_rng (fun i S => ∃ z2, S = [.fz (.lst (vl (bh vs hs i))), .fz (.lst (hs.map hD)), z2, .un] ∧ okU vs hs i) _ _ ⟨_, rfl, fun j _ hj => by omega⟩ ?_ ?_
  · rintro i S N hi ⟨z2, rfl, hok⟩ hN
    have hx : hs[i]? = some hs[i] := List.getElem?_eq_getElem hi
    have hbx := hb _ (List.mem_of_getElem? hx)
    have ex : (hs.map hD)[i]? = some (hD hs[i]) := by rw [List.getElem?_map, hx]; rfl
    obtain ⟨b1, b2⟩ := bh_sh l1 l2 (Nat.le_of_lt hi) hok
    have hW := hW i _ hx hok
    have hN' := fun c => hN _ ⟨.fz (.int (i : Nat)), by rw [bh_succ hx], hok.succ hx c⟩
    generalize hs[i] = x at *
    simp [ex]
    refine sp_iswrong (by omega) hbx ?_
    cases c : okH x (bh vs hs i).length with
    | false =>
      simp
      exact hW c
    | true =>
      simp [ex]
      refine sp_ldone ⟨by omega, b2⟩ hbx c ?_
      simp
      exact hN' c
  · rintro S ⟨z2, rfl, hok⟩
    obtain ⟨b1, b2⟩ := bh_sh l1 l2 (Nat.le_refl _) hok
    simp
    refine comp_tup2 (by omega) ?_
    simp
    exact hQ hok
theorem sp_ltold {ds : List D} {vs : List (List Int)} {hs : List Hm} {t u : Bool} (hd : Vd ds vs) (l1 : vs.length ≤ 100) (l2 : ∀ v ∈ vs, v.length ≤ 1000) (l3 : hs.length ≤ 100) (hb : ∀ x ∈ hs, Bd x)
    (hW : ∀ i x, hs[i]? = some x → okU vs hs i → okH x (bh vs hs i).length = false → Q (.val (.tup [.str "value", .int (i : Nat)])) [.un, .un])
    (hQ : okU vs hs hs.length → Q (.val (.tup [.str "told", .tup (vt (bh vs hs hs.length))])) [.un, .un]) : f__law_told [.fz (sq t ds), .fz (sq u (hs.map hD))] E Q := by
  simp [f__law_told, b__law_told]
  refine sp_harmed hd l1 l2 l3 (fun x hx v p t xs e => ?_) (fun i x hx hok c => ?_) (fun hok => ?_)
  · have := hb x hx
    subst e
    have := this.2.2.1
    omega
  · try simp
    exact hW i x hx hok c
  · simp
    exact hQ hok
theorem sp_handed {s ds : List D} (hs : Pl s) (hl : ds.length ≤ 1000) (h : ∀ s' r t, Pl s' → (r = .val (sq t ds) ∨ (t = false ∧ r = .own (.lst ds))) → Q r [.ow (.lst s'), .un]) : f__law_handed [.ow (.lst s), .fz (.lst ds)] E Q := by
  simp [f__law_handed, b__law_handed]
  refine sp_draw hs (by decide) (by decide) fun s1 v hs1 hv => ?_
  by_cases c : v = 0
  · subst c
    simp
    exact h s1 _ true hs1 (.inl rfl)
  · simp [c]
    exact h s1 _ false hs1 (.inr ⟨rfl, rfl⟩)
def alt : Nat → D → Prop
  | 0, _ => False
  | n + 1, .tup xs => (xs.length : Int) < 2 ^ 62 ∧ ∀ x ∈ xs, alt n x
  | _ + 1, .int _ => True
  | _ + 1, .str t => PySem.PyData.strOk t = true
  | _ + 1, _ => False
theorem same_go {d : D} {xs : List D} {Z : MEnds} {b : MS} (z : Sl)
    (hr : ∀ (i : Nat) (S : Fm) (N : Fm → Prop), i < xs.length → N [.fz d, .fz d, .fz (.int i)] → b { Z with nx := N, ct := N, bk := Z.nx } [.fz d, .fz d, .fz (.int i)])
    (hz : ∀ z, Z.nx [.fz d, .fz d, z]) : forW (gN 2) b Z (rngD 0 xs.length) [.fz d, .fz d, z] := by
  refine forW_rng (fun i S => ∃ z, S = [.fz d, .fz d, z]) _ _ ⟨_, rfl⟩ ?_ ?_
  · rintro i S N hi ⟨z, rfl⟩ hN
    simp
    exact hr i [] N hi (hN _ ⟨_, rfl⟩)
  · rintro S ⟨z, rfl⟩
    exact hz z
theorem sp_same : ∀ (n : Nat) (d : D) (E : EX) (Q : R → Fm → Prop), alt n d → Q (.val (.bl true)) [.un, .un] → f__law_same n [.fz d, .fz d] E Q
  | 0, _, _, _, h, _ => by simp [alt] at h
  | n + 1, d, E, Q, h, hQ => by
    rw [f__law_same]
    cases d with
    | tup xs =>
      simp only [alt] at h
      have h1 := h.1
      simp [b__law_same]
      refine ⟨by omega, same_go _ ?_ ?_⟩
      · intro i S N hi hN
        simp [List.getElem?_eq_getElem hi]
        refine sp_same n _ _ _ (h.2 _ (List.getElem_mem hi)) ?_
        simp
        exact hN
      · intro z; simp; exact hQ
    | int i => simpa [b__law_same] using hQ
    | str t =>
      simp only [alt] at h
      simp [b__law_same, h, deq]
      exact hQ
    | _ => simp [alt] at h
theorem alt_ii {n : Nat} {xs : List Int} (h : xs.length < 1000) : alt (n + 2) (.tup (ii xs)) := by
  simp only [alt]
  refine ⟨by simp; omega, fun x hx => ?_⟩
  obtain ⟨y, _, rfl⟩ := List.mem_map.mp hx
  simp [alt]
theorem alt_vt {n : Nat} {vs : List (List Int)} (h : vs.length ≤ 1000) (h2 : ∀ v ∈ vs, v.length < 1000) : alt (n + 3) (.tup (vt vs)) := by
  simp only [alt]
  refine ⟨by simp; omega, fun x hx => ?_⟩
  obtain ⟨v, hv, rfl⟩ := List.mem_map.mp hx
  exact alt_ii (h2 v hv)
theorem rp_int {n : Nat} {x : Int} (h : sm6 x) : Rp n 9 (.int x) := by
  unfold sm6 at h
  refine ⟨by rw [eqOk], ?_, ?_⟩
  · rw [toP]
    show decide (x.natAbs.log2 < 1920) = true
    rw [decide_eq_true_eq]
    by_cases c : x = 0
    · subst c; decide
    · exact Nat.lt_trans ((Nat.log2_lt (by omega)).mpr (show x.natAbs < 2 ^ 64 by omega)) (by decide)
  · rw [toP]
    show (Str.ofString (toString x)).length ≤ 9
    have := PySem.int_text_length_le10 (a := x) (k := 8) (by decide) (by omega)
    rw [ofString_length]
    omega
theorem rp_w {n : Nat} {t : Str} (h1 : PySem.PyData.strOk t = true) (h2 : (toP (.str t)).shown.length ≤ 10) : Rp n 10 (.str t) := ⟨by rw [eqOk]; exact h1, by rw [toP]; rfl, h2⟩
theorem rp_sq {n B m : Nat} {t : Bool} {xs : List D} (h : ∀ x ∈ xs, Rp n B x) (hm : xs.length ≤ m) : Rp (n + 1) (m * B + 2 * m + 3) (sq t xs) := by
  have hb : xs.length * B + 2 * xs.length + 3 ≤ m * B + 2 * m + 3 := by
    have := Nat.mul_le_mul_right B hm
    omega
  cases t
  · exact (Rp.lst h).mono hb
  · exact (Rp.tup h).mono hb
theorem rp_ii {n m : Nat} {t : Bool} {xs : List Int} (h : ∀ x ∈ xs, sm6 x) (hm : xs.length ≤ m) : Rp (n + 1) (m * 9 + 2 * m + 3) (sq t (ii xs)) := rp_sq (fun d hd => by
  obtain ⟨x, hx, rfl⟩ := List.mem_map.mp hd
  exact rp_int (h x hx)) (by simpa using hm)
theorem rp_hD {n : Nat} {x : Hm} (hx : Bd x) : Rp (n + 2) 300 (hD x) := by
  have wl : ∀ n, Rp n 10 (.str "lose") := fun n => rp_w (by decide +kernel) (by decide +kernel)
  have wt : ∀ n, Rp n 10 (.str "turn") := fun n => rp_w (by decide +kernel) (by decide +kernel)
  have wd : ∀ n, Rp n 10 (.str "double") := fun n => rp_w (by decide +kernel) (by decide +kernel)
  have wc : ∀ n, Rp n 10 (.str "cut") := fun n => rp_w (by decide +kernel) (by decide +kernel)
  have wg : ∀ n, Rp n 10 (.str "change") := fun n => rp_w (by decide +kernel) (by decide +kernel)
  have ri : ∀ n y, sm6 y → Rp n 60 (.int y) := fun n y hy => (rp_int hy).mono (by decide)
  cases x with
  | lose v =>
    refine Rp.mono (Rp.tup (n := n + 1) (B := 60) fun d hd => ?_) (by simp)
    simp at hd
    rcases hd with rfl | rfl
    · exact (wl _).mono (by decide)
    · exact ri _ _ hx
  | dbl v =>
    refine Rp.mono (Rp.tup (n := n + 1) (B := 60) fun d hd => ?_) (by simp)
    simp at hd
    rcases hd with rfl | rfl
    · exact (wd _).mono (by decide)
    · exact ri _ _ hx
  | turn v w =>
    refine Rp.mono (Rp.tup (n := n + 1) (B := 60) fun d hd => ?_) (by simp)
    simp at hd
    rcases hd with rfl | rfl | rfl
    · exact (wt _).mono (by decide)
    · exact ri _ _ hx.1
    · exact ri _ _ hx.2
  | cut v a b =>
    refine Rp.mono (Rp.tup (n := n + 1) (B := 60) fun d hd => ?_) (by simp)
    simp at hd
    rcases hd with rfl | rfl | rfl | rfl
    · exact (wc _).mono (by decide)
    · exact ri _ _ hx.1
    · exact ri _ _ hx.2.1
    · exact ri _ _ hx.2.2
  | chg v p t xs =>
    refine Rp.mono (Rp.tup (n := n + 1) (B := 60) fun d hd => ?_) (by simp)
    simp at hd
    rcases hd with rfl | rfl | rfl | rfl
    · exact (wg _).mono (by decide)
    · exact ri _ _ hx.1
    · exact ri _ _ hx.2.1
    · exact (rp_ii hx.2.2.2 hx.2.2.1).mono (by decide)
/-- volumes handed in: short, of few symbols -/
def Vv (ds : List D) (vs : List (List Int)) : Prop := Vd ds vs ∧ ∀ v ∈ vs, v.length ≤ 12 ∧ ∀ x ∈ v, sm6 x
theorem Vd.at {ds : List D} {vs : List (List Int)} {d : D} (h : Vd ds vs) (hd : d ∈ ds) : ∃ v ∈ vs, ∃ t, d = sq t (ii v) := by
  obtain ⟨i, hi⟩ := List.getElem?_of_mem hd
  have hl : i < vs.length := by rw [← h.1]; exact (List.getElem?_eq_some_iff.mp hi).1
  have hv : vs[i]? = some vs[i] := List.getElem?_eq_getElem hl
  refine ⟨_, List.getElem_mem hl, ?_⟩
  rcases h.2 i _ hv with e | e
  · rw [hi] at e; exact ⟨true, Option.some.inj e⟩
  · rw [hi] at e; exact ⟨false, Option.some.inj e⟩
theorem Vd.snoc {ds : List D} {vs : List (List Int)} {t : Bool} {v : List Int} (h : Vd ds vs) : Vd (ds ++ [sq t (ii v)]) (vs ++ [v]) := by
  refine ⟨by simp [h.1], fun i u hu => ?_⟩
  by_cases c : i < vs.length
  · rw [List.getElem?_append_left c] at hu
    rw [List.getElem?_append_left (by rw [h.1]; exact c)]
    exact h.2 i u hu
  · have hi : i = vs.length := by
      have := (List.getElem?_eq_some_iff.mp hu).1
      simp at this; omega
    subst hi
    rw [List.getElem?_append_right (Nat.le_refl _), Nat.sub_self] at hu
    cases hu
    rw [List.getElem?_append_right (by rw [h.1]; exact Nat.le_refl _), h.1, Nat.sub_self]
    cases t
    · exact .inr rfl
    · exact .inl rfl
theorem rp_all {ds : List D} {vs : List (List Int)} {hs : List Hm} {t u : Bool} (hv : Vv ds vs) (l1 : vs.length ≤ 5) (hb : ∀ x ∈ hs, Bd x) (l3 : hs.length ≤ 7) : Rp 64 16777216 (.tup [sq t ds, sq u (hs.map hD)]) := by
  have r1 : Rp 63 2200 (sq t ds) := (rp_sq (n := 62) (B := 135) (m := 5) (fun d hd => by
    obtain ⟨v, hv1, s, rfl⟩ := hv.1.at hd
    exact rp_ii (n := 61) (m := 12) (hv.2 v hv1).2 (hv.2 v hv1).1) (by rw [hv.1.1]; exact l1)).mono (by decide)
  have r2 : Rp 63 2200 (sq u (hs.map hD)) := (rp_sq (n := 62) (B := 300) (m := 7) (fun d hd => by
    obtain ⟨x, hx, rfl⟩ := List.mem_map.mp hd
    exact rp_hD (n := 60) (hb x hx)) (by simpa using l3)).mono (by decide)
  refine Rp.mono (Rp.tup (n := 63) (B := 2200) fun d hd => ?_) (by simp)
  simp at hd
  rcases hd with rfl | rfl
  · exact r1
  · exact r2
theorem told_bad {ds : List D} {vs : List (List Int)} {hs : List Hm} {t u : Bool} {i : Nat} {x : Hm} (hd : Vd ds vs) (l1 : vs.length ≤ 100) (l2 : ∀ v ∈ vs, v.length ≤ 1000) (l3 : hs.length ≤ 100) (hb : ∀ x ∈ hs, Bd x)
    (hx : hs[i]? = some x) (hok : okU vs hs i) (c : okH x (bh vs hs i).length = false) (h : Q (.val (.tup [.str "value", .int (i : Nat)])) [.un, .un]) : f__law_told [.fz (sq t ds), .fz (sq u (hs.map hD))] E Q := by
  refine sp_ltold hd l1 l2 l3 hb (fun j y hy hok' c' => ?_) (fun hok' => ?_)
  · have e : j = i := by
      by_cases q : j < i
      · rw [hok j y q hy] at c'; cases c'
      · by_cases q2 : i < j
        · rw [hok' i x q2 hx] at c; cases c
        · omega
    subst e
    exact h
  · rw [hok' i x (List.getElem?_eq_some_iff.mp hx).1 hx] at c; cases c
theorem told_ok {ds : List D} {vs : List (List Int)} {hs : List Hm} {t u : Bool} (hd : Vd ds vs) (l1 : vs.length ≤ 100) (l2 : ∀ v ∈ vs, v.length ≤ 1000) (l3 : hs.length ≤ 100) (hb : ∀ x ∈ hs, Bd x)
    (hok : okU vs hs hs.length) (h : Q (.val (.tup [.str "told", .tup (vt (bh vs hs hs.length))])) [.un, .un]) : f__law_told [.fz (sq t ds), .fz (sq u (hs.map hD))] E Q := by
  refine sp_ltold hd l1 l2 l3 hb (fun j y hy _ c' => ?_) (fun _ => h)
  rw [hok j y (List.getElem?_eq_some_iff.mp hy).1 hy] at c'; cases c'
theorem alt_bad {i : Nat} : alt 12 (.tup [.str "value", .int (i : Nat)]) := by
  simp only [alt]
  refine ⟨by simp, fun x hx => ?_⟩
  simp at hx
  rcases hx with rfl | rfl
  · simp only [alt]; decide +kernel
  · simp only [alt]
theorem alt_told {vs : List (List Int)} (h : vs.length ≤ 1000) (h2 : ∀ v ∈ vs, v.length < 1000) : alt 12 (.tup [.str "told", .tup (vt vs)]) := by
  simp only [alt]
  refine ⟨by simp, fun x hx => ?_⟩
  simp at hx
  rcases hx with rfl | rfl
  · simp only [alt]; decide +kernel
  · exact alt_vt h h2
theorem ii_flat {xs : List Int} : ∀ d : D, d ∈ ii xs → flatD d = true := fun d h => by
  obtain ⟨x, _, rfl⟩ := List.mem_map.mp h
  rfl
theorem comp_row {s : List D} {n : Nat} {a0 a2 a3 a4 a5 a6 a7 a8 a9 a10 a11 a12 a13 : Sl} {Kk : List D → Fm → Prop} (hs : Pl s) (hn : n ≤ 1000) (h : ∀ s' xs, Pl s' → xs.length = n → (∀ x ∈ xs, sm6 x) → Kk (ii xs) [a0, .ow (.lst s'), a2, a3, a4, a5, a6, a7, a8, a9, a10, a11, a12, a13, .un]) :
    lcW 15 [14] (gN 14) (mYes) (mBin dIxK (mLst (mCons (mCall (f__law_draw) (mCons (mOwn 1) (mCons (mC (.int 129)) (mNil)))) (mCons (mC (.int 128)) (mNil)))) (mCall (f__law_draw) (mCons (mOwn 1) (mCons (mC (.int 2)) (mNil))))) (rngD 0 n) [] [a0, .ow (.lst s), a2, a3, a4, a5, a6, a7, a8, a9, a10, a11, a12, a13, .un] Kk := by
  refine lcW_inv (fun i acc S => ∃ s' xs, S = [a0, .ow (.lst s'), a2, a3, a4, a5, a6, a7, a8, a9, a10, a11, a12, a13, .un] ∧ acc = ii xs ∧ Pl s' ∧ xs.length = i ∧ ∀ x ∈ xs, sm6 x) _ _ _ 0 ⟨s, [], rfl, rfl, hs, rfl, fun _ z => by cases z⟩ ?_ ?_
  · rintro i x acc S N hx ⟨s', xs, rfl, rfl, hs', hl, hsm⟩ hN
    rw [Nat.zero_add] at hl hN
    have hi : i < n := by
      have := (List.getElem?_eq_some_iff.mp hx).1
      simpa [rngD] using this
    simp
    refine sp_draw hs' (by decide) (by decide) fun s1 v1 hs1 h1 => ?_
    simp
    refine sp_draw hs1 (by decide) (by decide) fun s2 v2 hs2 h2 => ?_
    have fin : ∀ y : Int, sm6 y → N (ii xs ++ [.int y]) [a0, .ow (.lst s2), a2, a3, a4, a5, a6, a7, a8, a9, a10, a11, a12, a13, .un] := fun y hy => hN _ _ ⟨s2, xs ++ [y], rfl, by simp [ii], hs2, by simp [hl], fun z hz => by
      rcases List.mem_append.mp hz with q | q
      · exact hsm z q
      · rw [List.mem_singleton.mp q]; exact hy⟩
    have : v2 = 0 ∨ v2 = 1 := by omega
    rcases this with rfl | rfl <;> (
      simp
      exact ⟨by omega, fin _ (by unfold sm6; omega)⟩)
  · rintro acc S ⟨s', xs, rfl, rfl, hs', hl, hsm⟩
    exact h _ _ hs' (by simpa [rngD] using hl) hsm
set_option maxHeartbeats 8000000 in
theorem law_any {ns : List Int} (h : Q (.val (.bl true)) [.un]) : f_law [.fz (.rol (ii ns))] E Q := by
  simp [f_law, b_law]
  refine sp_pool fun s hs => ?_
  simp
  refine sp_draw hs (by decide) (by decide) fun s1 v1 hs1 hv1 => ?_
  obtain ⟨m, em, hm⟩ : ∃ m : Nat, [D.int 0, D.int 1, D.int 2, D.int 3, D.int 4, D.int 5, D.int 2, D.int 3][v1]? = some (.int (m : Nat)) ∧ m ≤ 5 := by
    have : v1 = 0 ∨ v1 = 1 ∨ v1 = 2 ∨ v1 = 3 ∨ v1 = 4 ∨ v1 = 5 ∨ v1 = 6 ∨ v1 = 7 := by omega
    rcases this with rfl | rfl | rfl | rfl | rfl | rfl | rfl | rfl
    · exact ⟨0, rfl, by omega⟩
    · exact ⟨1, rfl, by omega⟩
    · exact ⟨2, rfl, by omega⟩
    · exact ⟨3, rfl, by omega⟩
    · exact ⟨4, rfl, by omega⟩
    · exact ⟨5, rfl, by omega⟩
    · exact ⟨2, rfl, by omega⟩
    · exact ⟨3, rfl, by omega⟩
  simp [em]
  refine ⟨by omega, ?_⟩
  refine forW_rng (fun i S => ∃ s ds vs z3 z12, S = [.fz (.rol (ii ns)), .ow (.lst s), .ow (.lst ds), z3, .un, .un, .un, .un, .un, .un, .un, .un, z12, .un, .un] ∧ Pl s ∧ Vv ds vs ∧ vs.length = i) _ _ ⟨s1, [], [], _, _, rfl, hs1, ⟨⟨rfl, fun i v hv => by simp at hv⟩, fun v hv => by cases hv⟩, rfl⟩ ?_ ?_
  · rintro i S N hi ⟨s, ds, vs, z3, z12, rfl, hs, hv, hl⟩ hN
    simp
    refine sp_draw hs (by decide) (by decide) fun s2 v2 hs2 hv2 => ?_
    simp
    refine sp_draw hs2 (by decide) (by decide) fun s3 v3 hs3 hv3 => ?_
    obtain ⟨n, en, hn⟩ : ∃ n : Nat, [D.int 0, D.int (v2 : Nat), D.int 12][v3]? = some (.int (n : Nat)) ∧ n ≤ 12 := by
      have : v3 = 0 ∨ v3 = 1 ∨ v3 = 2 := by omega
      rcases this with rfl | rfl | rfl
      · exact ⟨0, rfl, by omega⟩
      · exact ⟨v2, rfl, by omega⟩
      · exact ⟨12, rfl, by omega⟩
    simp [en]
    refine ⟨by omega, comp_row hs3 (by omega) fun s4 xs hs4 hxl hxs => ?_⟩
    simp
    refine sp_handed hs4 (by simp; omega) fun s5 r t hs5 hr => ?_
    have hdl := hv.1.1
    have fin := hN _ ⟨s5, ds ++ [sq t (ii xs)], vs ++ [xs], .fz (.int (i : Nat)), .fz (.int (n : Nat)), rfl, hs5, ⟨hv.1.snoc, fun u hu => by
      rcases List.mem_append.mp hu with q | q
      · exact hv.2 u q
      · rw [List.mem_singleton.mp q]; exact ⟨by omega, hxs⟩⟩, by simp [hl]⟩
    rcases hr with rfl | ⟨rfl, rfl⟩
    · simp
      exact ⟨by omega, fin⟩
    · simp
      exact ⟨by omega, fin⟩
  rintro S ⟨s, ds, vs, z3, z12, rfl, hs, hv, hl⟩
  have hdl := hv.1.1
  simp
  refine sp_draw hs (by decide) (by decide) fun s2 o1 hs2 ho1 => ?_
  simp
  refine sp_draw hs2 (by decide) (by decide) fun s3 o2 hs3 ho2 => ?_
  simp
  refine sp_draw hs3 (by decide) (by decide) fun s4 o3 hs4 ho3 => ?_
  by_cases c3 : o3 = 0
  · subst c3
    simp
    rw [show D.lst [] = D.lst (ii []) from rfl]
    generalize ([] : List Int) = os
    refine sp_draw hs4 (by decide) (by decide) fun s5 T hs5 hT => ?_
    simp
    refine ⟨by omega, ?_⟩
    refine forW_rng (fun i S => ∃ s hs M z7 z13, S = [.fz (.rol (ii ns)), .ow (.lst s), .ow (.lst ds), z3, .ow (.lst (List.map hD hs)), .fz (.int (M : Nat)), .fz (.lst (ii os)), z7, .un, .un, .un, .un, z12, z13, .un] ∧ Pl s ∧ hs.length = i ∧ (∀ x ∈ hs, Bd x) ∧ M ≤ 5 + i) _ _ ⟨s5, [], ds.length, _, _, rfl, hs5, rfl, (fun _ z => by simp at z), by omega⟩ ?_ ?_
    · rintro i S N hi ⟨s, hs, M, z7, z13, rfl, hs', hl2, hb, hM⟩ hN
      simp
      refine sp_harm hs' (by omega) fun s6 x hs6 hx => ?_
      simp
      refine ⟨ii_flat, ?_⟩
      by_cases cin : ∃ z, z ∈ ii os ∧ deq z (D.int (i : Nat)) = true
      · rw [if_pos cin]
        refine sp_spoilt hs6 (by omega) hx fun s7 y hs7 hy => ?_
        simp
        have fin : ∀ (yy : Int) (M' : Nat), yy = (M' : Nat) → M' ≤ M + 1 → N [.fz (.rol (ii ns)), .ow (.lst s7), .ow (.lst ds), z3, .ow (.lst (List.map hD hs ++ [hD y])), .fz (.int yy), .fz (.lst (ii os)), .fz (.int (i : Nat)), .un, .un, .un, .un, z12, .fz (hD y), .un] := fun yy M' ey hM' => by
          subst ey
          exact hN _ ⟨s7, hs ++ [y], M', .fz (.int (i : Nat)), .fz (hD y), by rw [List.map_append]; rfl, hs7, by simp [hl2], fun u hu => by
            rcases List.mem_append.mp hu with q | q
            · exact hb u q
            · rw [List.mem_singleton.mp q]; exact hy, by omega⟩
        cases y with
        | dbl v =>
          simp [hD]
          refine ⟨by omega, ?_⟩
          refine sp_iswrong (x := .dbl v) (by omega) hy ?_
          cases okH (.dbl v) M with
          | true => simp; exact fin _ (M + 1) (by omega) (by omega)
          | false => simp; exact fin _ M (by omega) (by omega)
        | lose v => simp [hD]; exact ⟨by omega, fin _ M (by omega) (by omega)⟩
        | turn v w => simp [hD]; exact ⟨by omega, fin _ M (by omega) (by omega)⟩
        | cut v a b => simp [hD]; exact ⟨by omega, fin _ M (by omega) (by omega)⟩
        | chg v p t xs => simp [hD]; exact ⟨by omega, fin _ M (by omega) (by omega)⟩
      · rw [if_neg cin]
        have fin : ∀ (y : Int) (M' : Nat), y = (M' : Nat) → M' ≤ M + 1 → N [.fz (.rol (ii ns)), .ow (.lst s6), .ow (.lst ds), z3, .ow (.lst (List.map hD hs ++ [hD x])), .fz (.int y), .fz (.lst (ii os)), .fz (.int (i : Nat)), .un, .un, .un, .un, z12, .fz (hD x), .un] := fun y M' ey hM' => by
          subst ey
          exact hN _ ⟨s6, hs ++ [x], M', .fz (.int (i : Nat)), .fz (hD x), by rw [List.map_append]; rfl, hs6, by simp [hl2], fun u hu => by
            rcases List.mem_append.mp hu with q | q
            · exact hb u q
            · rw [List.mem_singleton.mp q]; exact hx, by omega⟩
        cases x with
        | dbl v =>
          simp [hD]
          refine ⟨by omega, ?_⟩
          refine sp_iswrong (x := .dbl v) (by omega) hx ?_
          cases okH (.dbl v) M with
          | true => simp; exact fin _ (M + 1) (by omega) (by omega)
          | false => simp; exact fin _ M (by omega) (by omega)
        | lose v => simp [hD]; exact ⟨by omega, fin _ M (by omega) (by omega)⟩
        | turn v w => simp [hD]; exact ⟨by omega, fin _ M (by omega) (by omega)⟩
        | cut v a b => simp [hD]; exact ⟨by omega, fin _ M (by omega) (by omega)⟩
        | chg v p t xs => simp [hD]; exact ⟨by omega, fin _ M (by omega) (by omega)⟩
    · rintro S ⟨s, hs, M, z7, z13, rfl, hs', hl2, hb, hM⟩
      have hsl : hs.length ≤ 7 := by omega
      have l2 : ∀ v ∈ vs, v.length ≤ 1000 := fun v hv1 => by have := (hv.2 v hv1).1; omega
      simp
      refine sp_handed hs' (by omega) fun s6 r6 t6 hs6 hr6 => ?_
      rcases hr6 with rfl | ⟨rfl, rfl⟩
      rotate_left
      · simp
        rw [show D.lst ds = sq false ds from rfl]
        refine sp_handed hs6 (by simp; omega) fun s7 r7 t7 hs7 hr7 => ?_
        rcases hr7 with rfl | ⟨rfl, rfl⟩
        rotate_left
        · simp
          rw [show D.lst (List.map hD hs) = sq false (List.map hD hs) from rfl]
          refine ⟨⟨rfl, rp_all hv (by omega) hb hsl⟩, ?_⟩
          simp
          refine sp_ldue hv.1 (by omega) l2 (by omega) hb (fun i x hx hok c => ?_) (fun hok => ?_)
          · simp
            refine told_bad hv.1 (by omega) l2 (by omega) hb hx hok c ?_
            simp
            refine sp_same 12 _ _ _ alt_bad ?_
            simp
            refine told_bad hv.1 (by omega) l2 (by omega) hb hx hok c ?_
            simp
            refine sp_same 12 _ _ _ alt_bad ?_
            simp
            refine ⟨⟨rfl, rp_all hv (by omega) hb hsl⟩, ?_⟩
            simp
            exact h
          · have b2 := bh_sh (i := hs.length) (m := 5) (c := 12) (by omega) (fun v hv1 => (hv.2 v hv1).1) (Nat.le_refl _) hok
            have at' := alt_told (vs := bh vs hs hs.length) (by omega) fun v hv1 => by have := b2.2 v hv1; omega
            simp
            refine told_ok hv.1 (by omega) l2 (by omega) hb hok ?_
            simp
            refine sp_same 12 _ _ _ at' ?_
            simp
            refine told_ok hv.1 (by omega) l2 (by omega) hb hok ?_
            simp
            refine sp_same 12 _ _ _ at' ?_
            simp
            refine ⟨⟨rfl, rp_all hv (by omega) hb hsl⟩, ?_⟩
            simp
            exact h
        · simp
          refine ⟨⟨rfl, rp_all hv (by omega) hb hsl⟩, ?_⟩
          simp
          refine sp_ldue hv.1 (by omega) l2 (by omega) hb (fun i x hx hok c => ?_) (fun hok => ?_)
          · simp
            refine told_bad hv.1 (by omega) l2 (by omega) hb hx hok c ?_
            simp
            refine sp_same 12 _ _ _ alt_bad ?_
            simp
            refine told_bad hv.1 (by omega) l2 (by omega) hb hx hok c ?_
            simp
            refine sp_same 12 _ _ _ alt_bad ?_
            simp
            refine ⟨⟨rfl, rp_all hv (by omega) hb hsl⟩, ?_⟩
            simp
            exact h
          · have b2 := bh_sh (i := hs.length) (m := 5) (c := 12) (by omega) (fun v hv1 => (hv.2 v hv1).1) (Nat.le_refl _) hok
            have at' := alt_told (vs := bh vs hs hs.length) (by omega) fun v hv1 => by have := b2.2 v hv1; omega
            simp
            refine told_ok hv.1 (by omega) l2 (by omega) hb hok ?_
            simp
            refine sp_same 12 _ _ _ at' ?_
            simp
            refine told_ok hv.1 (by omega) l2 (by omega) hb hok ?_
            simp
            refine sp_same 12 _ _ _ at' ?_
            simp
            refine ⟨⟨rfl, rp_all hv (by omega) hb hsl⟩, ?_⟩
            simp
            exact h
      · simp
        refine sp_handed hs6 (by simp; omega) fun s7 r7 t7 hs7 hr7 => ?_
        rcases hr7 with rfl | ⟨rfl, rfl⟩
        rotate_left
        · simp
          rw [show D.lst (List.map hD hs) = sq false (List.map hD hs) from rfl]
          refine ⟨⟨rfl, rp_all hv (by omega) hb hsl⟩, ?_⟩
          simp
          refine sp_ldue hv.1 (by omega) l2 (by omega) hb (fun i x hx hok c => ?_) (fun hok => ?_)
          · simp
            refine told_bad hv.1 (by omega) l2 (by omega) hb hx hok c ?_
            simp
            refine sp_same 12 _ _ _ alt_bad ?_
            simp
            refine told_bad hv.1 (by omega) l2 (by omega) hb hx hok c ?_
            simp
            refine sp_same 12 _ _ _ alt_bad ?_
            simp
            refine ⟨⟨rfl, rp_all hv (by omega) hb hsl⟩, ?_⟩
            simp
            exact h
          · have b2 := bh_sh (i := hs.length) (m := 5) (c := 12) (by omega) (fun v hv1 => (hv.2 v hv1).1) (Nat.le_refl _) hok
            have at' := alt_told (vs := bh vs hs hs.length) (by omega) fun v hv1 => by have := b2.2 v hv1; omega
            simp
            refine told_ok hv.1 (by omega) l2 (by omega) hb hok ?_
            simp
            refine sp_same 12 _ _ _ at' ?_
            simp
            refine told_ok hv.1 (by omega) l2 (by omega) hb hok ?_
            simp
            refine sp_same 12 _ _ _ at' ?_
            simp
            refine ⟨⟨rfl, rp_all hv (by omega) hb hsl⟩, ?_⟩
            simp
            exact h
        · simp
          refine ⟨⟨rfl, rp_all hv (by omega) hb hsl⟩, ?_⟩
          simp
          refine sp_ldue hv.1 (by omega) l2 (by omega) hb (fun i x hx hok c => ?_) (fun hok => ?_)
          · simp
            refine told_bad hv.1 (by omega) l2 (by omega) hb hx hok c ?_
            simp
            refine sp_same 12 _ _ _ alt_bad ?_
            simp
            refine told_bad hv.1 (by omega) l2 (by omega) hb hx hok c ?_
            simp
            refine sp_same 12 _ _ _ alt_bad ?_
            simp
            refine ⟨⟨rfl, rp_all hv (by omega) hb hsl⟩, ?_⟩
            simp
            exact h
          · have b2 := bh_sh (i := hs.length) (m := 5) (c := 12) (by omega) (fun v hv1 => (hv.2 v hv1).1) (Nat.le_refl _) hok
            have at' := alt_told (vs := bh vs hs hs.length) (by omega) fun v hv1 => by have := b2.2 v hv1; omega
            simp
            refine told_ok hv.1 (by omega) l2 (by omega) hb hok ?_
            simp
            refine sp_same 12 _ _ _ at' ?_
            simp
            refine told_ok hv.1 (by omega) l2 (by omega) hb hok ?_
            simp
            refine sp_same 12 _ _ _ at' ?_
            simp
            refine ⟨⟨rfl, rp_all hv (by omega) hb hsl⟩, ?_⟩
            simp
            exact h
  · simp [c3]
    rw [show D.lst [D.int (o1 : Nat), D.int (o2 : Nat)] = D.lst (ii [(o1 : Int), (o2 : Int)]) from rfl]
    generalize ([(o1 : Int), (o2 : Int)] : List Int) = os
    refine sp_draw hs4 (by decide) (by decide) fun s5 T hs5 hT => ?_
    simp
    refine ⟨by omega, ?_⟩
    refine forW_rng (fun i S => ∃ s hs M z7 z13, S = [.fz (.rol (ii ns)), .ow (.lst s), .ow (.lst ds), z3, .ow (.lst (List.map hD hs)), .fz (.int (M : Nat)), .fz (.lst (ii os)), z7, .un, .un, .un, .un, z12, z13, .un] ∧ Pl s ∧ hs.length = i ∧ (∀ x ∈ hs, Bd x) ∧ M ≤ 5 + i) _ _ ⟨s5, [], ds.length, _, _, rfl, hs5, rfl, (fun _ z => by simp at z), by omega⟩ ?_ ?_
    · rintro i S N hi ⟨s, hs, M, z7, z13, rfl, hs', hl2, hb, hM⟩ hN
      simp
      refine sp_harm hs' (by omega) fun s6 x hs6 hx => ?_
      simp
      refine ⟨ii_flat, ?_⟩
      by_cases cin : ∃ z, z ∈ ii os ∧ deq z (D.int (i : Nat)) = true
      · rw [if_pos cin]
        refine sp_spoilt hs6 (by omega) hx fun s7 y hs7 hy => ?_
        simp
        have fin : ∀ (yy : Int) (M' : Nat), yy = (M' : Nat) → M' ≤ M + 1 → N [.fz (.rol (ii ns)), .ow (.lst s7), .ow (.lst ds), z3, .ow (.lst (List.map hD hs ++ [hD y])), .fz (.int yy), .fz (.lst (ii os)), .fz (.int (i : Nat)), .un, .un, .un, .un, z12, .fz (hD y), .un] := fun yy M' ey hM' => by
          subst ey
          exact hN _ ⟨s7, hs ++ [y], M', .fz (.int (i : Nat)), .fz (hD y), by rw [List.map_append]; rfl, hs7, by simp [hl2], fun u hu => by
            rcases List.mem_append.mp hu with q | q
            · exact hb u q
            · rw [List.mem_singleton.mp q]; exact hy, by omega⟩
        cases y with
        | dbl v =>
          simp [hD]
          refine ⟨by omega, ?_⟩
          refine sp_iswrong (x := .dbl v) (by omega) hy ?_
          cases okH (.dbl v) M with
          | true => simp; exact fin _ (M + 1) (by omega) (by omega)
          | false => simp; exact fin _ M (by omega) (by omega)
        | lose v => simp [hD]; exact ⟨by omega, fin _ M (by omega) (by omega)⟩
        | turn v w => simp [hD]; exact ⟨by omega, fin _ M (by omega) (by omega)⟩
        | cut v a b => simp [hD]; exact ⟨by omega, fin _ M (by omega) (by omega)⟩
        | chg v p t xs => simp [hD]; exact ⟨by omega, fin _ M (by omega) (by omega)⟩
      · rw [if_neg cin]
        have fin : ∀ (y : Int) (M' : Nat), y = (M' : Nat) → M' ≤ M + 1 → N [.fz (.rol (ii ns)), .ow (.lst s6), .ow (.lst ds), z3, .ow (.lst (List.map hD hs ++ [hD x])), .fz (.int y), .fz (.lst (ii os)), .fz (.int (i : Nat)), .un, .un, .un, .un, z12, .fz (hD x), .un] := fun y M' ey hM' => by
          subst ey
          exact hN _ ⟨s6, hs ++ [x], M', .fz (.int (i : Nat)), .fz (hD x), by rw [List.map_append]; rfl, hs6, by simp [hl2], fun u hu => by
            rcases List.mem_append.mp hu with q | q
            · exact hb u q
            · rw [List.mem_singleton.mp q]; exact hx, by omega⟩
        cases x with
        | dbl v =>
          simp [hD]
          refine ⟨by omega, ?_⟩
          refine sp_iswrong (x := .dbl v) (by omega) hx ?_
          cases okH (.dbl v) M with
          | true => simp; exact fin _ (M + 1) (by omega) (by omega)
          | false => simp; exact fin _ M (by omega) (by omega)
        | lose v => simp [hD]; exact ⟨by omega, fin _ M (by omega) (by omega)⟩
        | turn v w => simp [hD]; exact ⟨by omega, fin _ M (by omega) (by omega)⟩
        | cut v a b => simp [hD]; exact ⟨by omega, fin _ M (by omega) (by omega)⟩
        | chg v p t xs => simp [hD]; exact ⟨by omega, fin _ M (by omega) (by omega)⟩
    · rintro S ⟨s, hs, M, z7, z13, rfl, hs', hl2, hb, hM⟩
      have hsl : hs.length ≤ 7 := by omega
      have l2 : ∀ v ∈ vs, v.length ≤ 1000 := fun v hv1 => by have := (hv.2 v hv1).1; omega
      simp
      refine sp_handed hs' (by omega) fun s6 r6 t6 hs6 hr6 => ?_
      rcases hr6 with rfl | ⟨rfl, rfl⟩
      rotate_left
      · simp
        rw [show D.lst ds = sq false ds from rfl]
        refine sp_handed hs6 (by simp; omega) fun s7 r7 t7 hs7 hr7 => ?_
        rcases hr7 with rfl | ⟨rfl, rfl⟩
        rotate_left
        · simp
          rw [show D.lst (List.map hD hs) = sq false (List.map hD hs) from rfl]
          refine ⟨⟨rfl, rp_all hv (by omega) hb hsl⟩, ?_⟩
          simp
          refine sp_ldue hv.1 (by omega) l2 (by omega) hb (fun i x hx hok c => ?_) (fun hok => ?_)
          · simp
            refine told_bad hv.1 (by omega) l2 (by omega) hb hx hok c ?_
            simp
            refine sp_same 12 _ _ _ alt_bad ?_
            simp
            refine told_bad hv.1 (by omega) l2 (by omega) hb hx hok c ?_
            simp
            refine sp_same 12 _ _ _ alt_bad ?_
            simp
            refine ⟨⟨rfl, rp_all hv (by omega) hb hsl⟩, ?_⟩
            simp
            exact h
          · have b2 := bh_sh (i := hs.length) (m := 5) (c := 12) (by omega) (fun v hv1 => (hv.2 v hv1).1) (Nat.le_refl _) hok
            have at' := alt_told (vs := bh vs hs hs.length) (by omega) fun v hv1 => by have := b2.2 v hv1; omega
            simp
            refine told_ok hv.1 (by omega) l2 (by omega) hb hok ?_
            simp
            refine sp_same 12 _ _ _ at' ?_
            simp
            refine told_ok hv.1 (by omega) l2 (by omega) hb hok ?_
            simp
            refine sp_same 12 _ _ _ at' ?_
            simp
            refine ⟨⟨rfl, rp_all hv (by omega) hb hsl⟩, ?_⟩
            simp
            exact h
        · simp
          refine ⟨⟨rfl, rp_all hv (by omega) hb hsl⟩, ?_⟩
          simp
          refine sp_ldue hv.1 (by omega) l2 (by omega) hb (fun i x hx hok c => ?_) (fun hok => ?_)
          · simp
            refine told_bad hv.1 (by omega) l2 (by omega) hb hx hok c ?_
            simp
            refine sp_same 12 _ _ _ alt_bad ?_
            simp
            refine told_bad hv.1 (by omega) l2 (by omega) hb hx hok c ?_
            simp
            refine sp_same 12 _ _ _ alt_bad ?_
            simp
            refine ⟨⟨rfl, rp_all hv (by omega) hb hsl⟩, ?_⟩
            simp
            exact h
          · have b2 := bh_sh (i := hs.length) (m := 5) (c := 12) (by omega) (fun v hv1 => (hv.2 v hv1).1) (Nat.le_refl _) hok
            have at' := alt_told (vs := bh vs hs hs.length) (by omega) fun v hv1 => by have := b2.2 v hv1; omega
            simp
            refine told_ok hv.1 (by omega) l2 (by omega) hb hok ?_
            simp
            refine sp_same 12 _ _ _ at' ?_
            simp
            refine told_ok hv.1 (by omega) l2 (by omega) hb hok ?_
            simp
            refine sp_same 12 _ _ _ at' ?_
            simp
            refine ⟨⟨rfl, rp_all hv (by omega) hb hsl⟩, ?_⟩
            simp
            exact h
      · simp
        refine sp_handed hs6 (by simp; omega) fun s7 r7 t7 hs7 hr7 => ?_
        rcases hr7 with rfl | ⟨rfl, rfl⟩
        rotate_left
        · simp
          rw [show D.lst (List.map hD hs) = sq false (List.map hD hs) from rfl]
          refine ⟨⟨rfl, rp_all hv (by omega) hb hsl⟩, ?_⟩
          simp
          refine sp_ldue hv.1 (by omega) l2 (by omega) hb (fun i x hx hok c => ?_) (fun hok => ?_)
          · simp
            refine told_bad hv.1 (by omega) l2 (by omega) hb hx hok c ?_
            simp
            refine sp_same 12 _ _ _ alt_bad ?_
            simp
            refine told_bad hv.1 (by omega) l2 (by omega) hb hx hok c ?_
            simp
            refine sp_same 12 _ _ _ alt_bad ?_
            simp
            refine ⟨⟨rfl, rp_all hv (by omega) hb hsl⟩, ?_⟩
            simp
            exact h
          · have b2 := bh_sh (i := hs.length) (m := 5) (c := 12) (by omega) (fun v hv1 => (hv.2 v hv1).1) (Nat.le_refl _) hok
            have at' := alt_told (vs := bh vs hs hs.length) (by omega) fun v hv1 => by have := b2.2 v hv1; omega
            simp
            refine told_ok hv.1 (by omega) l2 (by omega) hb hok ?_
            simp
            refine sp_same 12 _ _ _ at' ?_
            simp
            refine told_ok hv.1 (by omega) l2 (by omega) hb hok ?_
            simp
            refine sp_same 12 _ _ _ at' ?_
            simp
            refine ⟨⟨rfl, rp_all hv (by omega) hb hsl⟩, ?_⟩
            simp
            exact h
        · simp
          refine ⟨⟨rfl, rp_all hv (by omega) hb hsl⟩, ?_⟩
          simp
          refine sp_ldue hv.1 (by omega) l2 (by omega) hb (fun i x hx hok c => ?_) (fun hok => ?_)
          · simp
            refine told_bad hv.1 (by omega) l2 (by omega) hb hx hok c ?_
            simp
            refine sp_same 12 _ _ _ alt_bad ?_
            simp
            refine told_bad hv.1 (by omega) l2 (by omega) hb hx hok c ?_
            simp
            refine sp_same 12 _ _ _ alt_bad ?_
            simp
            refine ⟨⟨rfl, rp_all hv (by omega) hb hsl⟩, ?_⟩
            simp
            exact h
          · have b2 := bh_sh (i := hs.length) (m := 5) (c := 12) (by omega) (fun v hv1 => (hv.2 v hv1).1) (Nat.le_refl _) hok
            have at' := alt_told (vs := bh vs hs hs.length) (by omega) fun v hv1 => by have := b2.2 v hv1; omega
            simp
            refine told_ok hv.1 (by omega) l2 (by omega) hb hok ?_
            simp
            refine sp_same 12 _ _ _ at' ?_
            simp
            refine told_ok hv.1 (by omega) l2 (by omega) hb hok ?_
            simp
            refine sp_same 12 _ _ _ at' ?_
            simp
            refine ⟨⟨rfl, rp_all hv (by omega) hb hsl⟩, ?_⟩
            simp
            exact h
theorem law_true (ns : List Int) (hl : ns.length ≤ 63) : f_law [.fz (.rol (ns.map D.int))] (fun _ _ => False) (fun r _ => r = .val (.bl true)) := law_any rfl
end Tl

namespace Tl
open PySem L2 Mv
abbrev RR : PySem.W.OpenRow := PySem.W.OpenLaw.row PySem.Challenge.rw_mendvault_k50_harms_by_own_lists
def cka (K : PySem.W.Frag) : Bool := cks.all fun c => c K
abbrev hk : PySem.W.Hook := Mh.hookM 5 fa fn xs cka
def ob (s : PySem.W.SharedT) : Mh.AlM := Mh.obsMG 5 fa fn xs cka (HandSHeadRun.getT s)
theorem ob_eq (s : PySem.W.SharedT) : ob s = hk.obs s.abs := Mh.obsMG_eq (HandSHeadRun.getT_eq s)
def names0 : List PySem.Str := [PySem.Str.ofString "__name__", PySem.Str.ofString "VaultError", PySem.Str.ofString "BadValue", PySem.Str.ofString "is_integer", PySem.Str.ofString "is_from_to", PySem.Str.ofString "MOST_CHANGED", PySem.Str.ofString "GREATEST", PySem.Str.ofString "is_place", PySem.Str.ofString "is_change", PySem.Str.ofString "is_let", PySem.Str.ofString "changed", PySem.Str.ofString "harm_done", PySem.Str.ofString "harmed", PySem.Str.ofString "_law_mixed", PySem.Str.ofString "_law_pool", PySem.Str.ofString "_law_draw", PySem.Str.ofString "_law_same", PySem.Str.ofString "_law_wrong_volume", PySem.Str.ofString "_law_integers", PySem.Str.ofString "_law_harm", PySem.Str.ofString "_law_spoilt", PySem.Str.ofString "_law_is_wrong", PySem.Str.ofString "_law_done", PySem.Str.ofString "_law_due", PySem.Str.ofString "_law_told", PySem.Str.ofString "_law_handed"]
def names : List PySem.Str := names0
theorem run (w : World) : HandSHeadRun.RunEq RR (PySem.W.view RR.prog [29]) hk ob 20000 names w := by
  intro os
  kernel_rfl
theorem facts {P : Program} {w : World} {K : PySem.W.Frag} {h : Heap} {mg : Str → Option Value} {f : Addr} (X : K.In h) (G : h.Ns mainGlobals mg) (hfa : mg ("law" : Str) = some (.ref f)) (c : Mh.SaysM fa fn xs cka K) (pg : Mh.PgOk P file) :
    ∃ fd : FuncData, (∀ (s : Shared) (v : Value), BindsTo s fd ⟨[v], []⟩ [(Str.ofString "_law_script", v)]) ∧ ∀ base : Heap, K.In base → base.Ns mainGlobals mg → FnG P w K mg base L2.CX0 13 f fd [Str.ofString "_law_script"] (fun vs H Q _ => spF K (cls K) f_law vs H Q fun _ _ _ => False) := by
  have T : TX P K mg := ⟨⟨h, X, G, c⟩, pg⟩
  obtain ⟨fd0, F0⟩ := T.def_ 21 (d := d_law) rfl
  have b := FunD.bindsA (ps := [Str.ofString "_law_script"]) F0 fun _ _ _ _ _ _ us hl => match us, hl with | [_], _ => rfl
  refine ⟨fd0, fun s v => b s [v] rfl, fun base _ _ => ?_⟩
  obtain ⟨f1, fd1, a1, a2, a3, a4⟩ := (fnc_law (P := P) (w := w) (base := base) T).ex
  have e1 : f1 = f := by rw [hfa] at a2; exact (Value.ref.inj (Option.some.inj a2)).symm
  subst e1
  have e0 : He.fAd K d_law.at_ = f1 := by have z := T.glo 37 (x := "law") rfl; rw [hfa] at z; exact (Value.ref.inj (Option.some.inj z)).symm
  have e2 : fd1 = fd0 := by
    obtain ⟨_, _, _, _, _, _, _, _, _, _, _, l1, _⟩ := a3.ex
    obtain ⟨_, _, _, _, _, _, _, _, _, _, _, l2, _⟩ := F0.ex
    rw [e0] at l2
    rw [l1] at l2
    simp only [Option.some.injEq, Obj.mk.injEq, Data.func.injEq] at l2
    exact l2.2.2.1
  subst e2
  exact law_okG a1
end Tl
open PySem PySem.W PySem.Calls PyProof.Rows
set_option maxHeartbeats 0 in
theorem PySem.Challenge.cw_mendvault_k50_harms_by_own_lists_holds : PySem.Challenge.rw_mendvault_k50_harms_by_own_lists.Holds := by
  w_on; o_law
  refine HandSHeadRun.head_any (r := OpenLaw.row PySem.Challenge.rw_mendvault_k50_harms_by_own_lists) (q := view (OpenLaw.row PySem.Challenge.rw_mendvault_k50_harms_by_own_lists).prog [29]) (H := Tl.hk) (ob := Tl.ob) (M := 20000) (loose := Tl.names) (d := HandSHeadRun.topDef (OpenLaw.row PySem.Challenge.rw_mendvault_k50_harms_by_own_lists).prog 29) (kwd := []) Tl.ob_eq
    (by kernel_rfl) (fun s => by kernel_rfl) Tl.run (by kernel_rfl) (by kernel_rfl) (by kernel_rfl) (by rfl) (by first | assumption | decide +kernel) (by decide +kernel) ⟨rfl, rfl, rfl, rfl, rfl, by decide +kernel⟩ ?hw ?hc
  case hw => w_witness2
  case hc =>
    refine Mv.walk_ofG (l := PySem.Challenge.rw_mendvault_k50_harms_by_own_lists) (n := 63) (k := 13) (x := Str.ofString "_law_script") (CX := L2.CX0) rfl (by decide) (by kernel_rfl) ⟨rfl, by decide, by decide⟩ ?F (fun _ _ _ _ z => z)
    intro w mg fa h Y G hmg0
    obtain ⟨K, KX, c⟩ := Y
    have hmg : mg ("law" : PySem.Str) = some (.ref fa) := by
      have e : (HandSHeadRun.topDef (OpenLaw.row PySem.Challenge.rw_mendvault_k50_harms_by_own_lists).prog 29).name = ("law" : PySem.Str) := by kernel_rfl
      rw [← e]
      exact hmg0
    obtain ⟨fd, hb, hF⟩ := Tl.facts (P := (PySem.Challenge.rw_mendvault_k50_harms_by_own_lists).prog) (w := w) KX G hmg c ⟨by kernel_rfl, by kernel_rfl⟩
    exact ⟨K, fd, (fun vs H Q _ => Mv.spF K (Tl.cls K) Tl.f_law vs H Q fun _ _ _ => False), KX, hb, fun H a ns hl _ hS => Mv.law_in hS (Tl.law_true ns hl), hF⟩

