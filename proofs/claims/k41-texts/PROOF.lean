import PyProof.Rows.All
import Wide.All
import OpenK.AllK
import Wide.FinOn
import HandS.ForMost
import HandS.ForExc
import HandS.CallSlots
import HandS.TryMany
import HandS.ExcSuper
import HandS.Hot
import HandS.HeadHook2
import HandS.HeadEnd
import HandS.TupAny
import HandS.Flow
import HandS.WideMore
import KE.KDictKeyed
import KE.LtData
import KE.DataEq
import KE.DataCmp
import HandS.IsInst
import HandS.Text
import HandS.RaiseMore
import HandS.More
import HandS.TupLen
import HandS.Comp
import HandS.Defaults
import HandS.Iter
import HandS.TryOnly
import HandS.ExcCtx
import HandS.HotCalls
import HandS.ExcInit
import KE.KExcSuper
import HandS.ExcField
import HandS.ExcIs
import HandS.HeadHook3
import HandS.Head2
import HandS.Conv
import KE.SortData
import KE.SortKeyed
import KE.KDictPairs
import HandS.DictComp
import PyProof.Rows.TupDisplay
import KE.SortCalls
import KE.LtSeq
import HandS.SortKw
import KE.DataMinMax
import HandS.TupMul
import HandS.Replace
import HandS.Zip
import PyProof.ListStr
import KE.KDictOf
import KE.IntTextLaws
import PySem.Challenge.RW_figurehold_k41_texts_of_steps_and_claims
set_option Elab.async false
set_option linter.all false
set_option maxRecDepth 100000
set_option maxHeartbeats 0
/-! Fg1: values by content, a heap of what changes, and how they stand for the layer's values and heaps. -/
namespace Fg
open PySem PySem.Spec L2
open PyProof.Rows hiding St

/-- a value by its content; ref: an object that may change (or a class, a def) -/
inductive D where
  | non | bl (b : Bool) | int (i : Int) | str (x : Str) | ty (n : String)
  | tup (ds : List D) | rol (ds : List D) | ref (a : Addr)

/-- an object that may change -/
inductive MO where
  | lst (ds : List D)
  /-- a dict, its object just this one -/
  | dct (o : Obj) (kvs : List (D × D))
  | ins (c : Str) (fs : List (Str × D))
  /-- what a caught exception holds -/
  | xd (f : Str) (d : D)

abbrev MM := Addr → Option MO
def up (M : MM) (a : Addr) (o : MO) : MM := fun b => if b = a then some o else M b
theorem up_same {M : MM} {a : Addr} {o : MO} : up M a o a = some o := by unfold up; rw [if_pos rfl]
theorem up_ne {M : MM} {a b : Addr} {o : MO} (h : b ≠ a) : up M a o b = M b := by unfold up; rw [if_neg h]
theorem up_up {M : MM} {a : Addr} {o u : MO} : up (up M a o) a u = up M a u := by
  funext b; unfold up; split <;> rfl
abbrev En := List (Option D)
/-- an exception of a class of the text, with its one attribute -/
structure Xn where
  c : Str
  f : Str
  v : D

/-! ### keys -/
mutual
/-- the key that a value is -/
def dkey : D → Option NestedKey
  | .non => some .none
  | .int i => some (.num i)
  | .str x => some (.text x)
  | .tup ds => (dkeys ds).map .tup
  | .bl _ => none
  | .ty _ => none
  | .rol _ => none
  | .ref _ => none
def dkeys : List D → Option (List NestedKey)
  | [] => some []
  | d :: ds => match dkey d, dkeys ds with
    | some k, some ks => some (k :: ks)
    | _, _ => none
end

def isAt : D → Bool
  | .int _ => true
  | .str _ => true
  | _ => false
def isTu : D → Bool
  | .tup _ => true
  | _ => false
/-- the keys are of one kind: numbers and texts, or tuples -/
def uni (kvs : List (D × D)) : Prop := (∀ p ∈ kvs, isAt p.1 = true) ∨ ∀ p ∈ kvs, isTu p.1 = true
/-! ### how data stand in the layer's heap -/
section
variable (K : PySem.W.Frag) (H : Hp)
/-- a list that stands as it is -/
def Fz (a : Addr) (vs : List V) : Prop := (∃ o, H a = some (.frz o (.lst vs))) ∨
  ∃ (o : Obj) (its : Array Value) (n : Nat), K.lookup a = some o ∧ o.cls = .type "list" ∧ o.dict = none ∧ o.data = .seq its n ∧ its.size ≤ sizeLine ∧ Vals vs its.toList
/-- a tuple without a dict of its own -/
def SqN (a : Addr) (vs : List V) : Prop := (∃ o, H a = some (.frz o (.tup vs)) ∧ o.dict = none) ∨
  ∃ (o : Obj) (its : Array Value) (n : Nat), K.lookup a = some o ∧ o.cls = .type "tuple" ∧ o.dict = none ∧ o.data = .seq its n ∧ its.size ≤ sizeLine ∧ Vals vs its.toList
mutual
inductive RD : D → V → Prop
  | non : RD .non .non
  | bl (b : Bool) : RD (.bl b) (.bl b)
  | int (i : Int) : RD (.int i) (.int i)
  | str (x : Str) : RD (.str x) (.str x)
  | ty (n : String) : RD (.ty n) (.ty n)
  | tup {a : Addr} {vs : List V} {ds : List D} : SqN K H a vs → RDs ds vs → RD (.tup ds) (.ref a)
  | rol {a : Addr} {vs : List V} {ds : List D} : Fz K H a vs → RDs ds vs → RD (.rol ds) (.ref a)
  | ref (a : Addr) : RD (.ref a) (.ref a)
inductive RDs : List D → List V → Prop
  | nil : RDs [] []
  | cons {d : D} {v : V} {ds : List D} {vs : List V} : RD d v → RDs ds vs → RDs (d :: ds) (v :: vs)
end
end
/-- what never goes: tuples, what stands as it is -/
structure Stb (H H' : Hp) : Prop where
  tup : ∀ a xs, H a = some (.tup xs) → H' a = some (.tup xs)
  frz : ∀ a o u, H a = some (.frz o u) → H' a = some (.frz o u)
theorem Stb.refl (H : Hp) : Stb H H := ⟨fun _ _ h => h, fun _ _ _ h => h⟩
theorem Stb.trans {H H1 H2 : Hp} (a : Stb H H1) (b : Stb H1 H2) : Stb H H2 := ⟨fun c xs h => b.tup c xs (a.tup c xs h), fun c o u h => b.frz c o u (a.frz c o u h)⟩
theorem Stb.new {H : Hp} {p : Addr} {o : HO} (h : H p = none) : Stb H (upd H p o) :=
  ⟨fun c xs e => by rw [upd_ne (ne_of_none e h)]; exact e, fun c ob u e => by rw [upd_ne (ne_of_none e h)]; exact e⟩
theorem Stb.mut {H : Hp} {p : Addr} {o : HO} (h : Mut (H p)) : Stb H (upd H p o) :=
  ⟨fun c xs e => by
    rw [upd_ne (fun z => by subst z; rw [e] at h; exact h)]
    exact e, fun c ob u e => by
    rw [upd_ne (fun z => by subst z; rw [e] at h; exact h)]
    exact e⟩
section
variable {K : PySem.W.Frag} {H H' : Hp}
theorem _root_.L2.Rd.stbT {a : Addr} {xs : List V} (s : Stb H H') (h : Rd H a (.tup xs)) : Rd H' a (.tup xs) := by
  rcases h with h | ⟨o, h⟩
  · exact .inl (s.tup _ _ h)
  · exact .inr ⟨o, s.frz _ _ _ h⟩
theorem _root_.L2.SqT.stb {a : Addr} {xs : List V} (s : Stb H H') (h : SqT K H a xs) : SqT K H' a xs := by
  rcases h with h | h
  · exact .inl (Rd.stbT s h)
  · exact .inr h
theorem SqN.t {a : Addr} {xs : List V} (h : SqN K H a xs) : SqT K H a xs := by
  rcases h with ⟨o, h, _⟩ | ⟨o, its, n, h1, h2, _, h3⟩
  · exact .inl (.inr ⟨o, h⟩)
  · exact .inr ⟨o, its, n, h1, h2, h3⟩
instance {a : Addr} {xs : List V} : Coe (SqN K H a xs) (SqT K H a xs) := ⟨SqN.t⟩
theorem SqN.stb {a : Addr} {xs : List V} (s : Stb H H') (h : SqN K H a xs) : SqN K H' a xs := by
  rcases h with ⟨o, h, e⟩ | h
  · exact .inl ⟨o, s.frz _ _ _ h, e⟩
  · exact .inr h
theorem Fz.stb {a : Addr} {xs : List V} (s : Stb H H') (h : Fz K H a xs) : Fz K H' a xs := by
  rcases h with ⟨o, h⟩ | h
  · exact .inl ⟨o, s.frz _ _ _ h⟩
  · exact .inr h
theorem Fz.sq {a : Addr} {xs : List V} (h : Fz K H a xs) : SqL K H a xs := by
  rcases h with ⟨o, h⟩ | h
  · exact .inl (.inr ⟨o, h⟩)
  · exact .inr h
mutual
theorem RD.stb (s : Stb H H') : ∀ {d : D} {v : V}, RD K H d v → RD K H' d v
  | _, _, .non => .non
  | _, _, .bl b => .bl b
  | _, _, .int i => .int i
  | _, _, .str x => .str x
  | _, _, .ty n => .ty n
  | _, _, .tup h r => .tup (SqN.stb s h) (RDs.stb s r)
  | _, _, .rol h r => .rol (Fz.stb s h) (RDs.stb s r)
  | _, _, .ref a => .ref a
theorem RDs.stb (s : Stb H H') : ∀ {ds : List D} {vs : List V}, RDs K H ds vs → RDs K H' ds vs
  | _, _, .nil => .nil
  | _, _, .cons h r => .cons (RD.stb s h) (RDs.stb s r)
end
theorem RDs.length : ∀ {ds : List D} {vs : List V}, RDs K H ds vs → ds.length = vs.length
  | _, _, .nil => rfl
  | _, _, .cons _ r => by rw [List.length_cons, List.length_cons, RDs.length r]
theorem RDs.get : ∀ {ds : List D} {vs : List V} {i : Nat} {d : D}, RDs K H ds vs → ds[i]? = some d → ∃ v, vs[i]? = some v ∧ RD K H d v
  | _, _, _, _, .nil, e => by simp at e
  | _, _, 0, _, .cons h _, e => by simp at e; subst e; exact ⟨_, rfl, h⟩
  | _, _, i + 1, _, .cons _ r, e => by
    obtain ⟨v, h1, h2⟩ := RDs.get (i := i) r (by simpa using e)
    exact ⟨v, by simpa using h1, h2⟩
theorem RDs.getV : ∀ {ds : List D} {vs : List V} {i : Nat} {v : V}, RDs K H ds vs → vs[i]? = some v → ∃ d, ds[i]? = some d ∧ RD K H d v
  | _, _, _, _, .nil, e => by simp at e
  | _, _, 0, _, .cons h _, e => by simp at e; subst e; exact ⟨_, rfl, h⟩
  | _, _, i + 1, _, .cons _ r, e => by
    obtain ⟨v, h1, h2⟩ := RDs.getV (i := i) r (by simpa using e)
    exact ⟨v, by simpa using h1, h2⟩
theorem RDs.append : ∀ {ds es : List D} {vs us : List V}, RDs K H ds vs → RDs K H es us → RDs K H (ds ++ es) (vs ++ us)
  | _, _, _, _, .nil, s => s
  | _, _, _, _, .cons h r, s => .cons h (RDs.append r s)
theorem RDs.set {d : D} {v : V} (h : RD K H d v) : ∀ {ds : List D} {vs : List V} (i : Nat), RDs K H ds vs → RDs K H (ds.set i d) (vs.set i v)
  | _, _, _, .nil => .nil
  | _, _, 0, .cons _ r => .cons h r
  | _, _, i + 1, .cons q r => .cons q (RDs.set h i r)
theorem RDs.take : ∀ {ds : List D} {vs : List V} (n : Nat), RDs K H ds vs → RDs K H (ds.take n) (vs.take n)
  | _, _, 0, _ => .nil
  | _, _, _ + 1, .nil => .nil
  | _, _, n + 1, .cons h r => .cons h (RDs.take n r)
theorem RDs.drop : ∀ {ds : List D} {vs : List V} (n : Nat), RDs K H ds vs → RDs K H (ds.drop n) (vs.drop n)
  | _, _, 0, r => r
  | _, _, _ + 1, .nil => .nil
  | _, _, n + 1, .cons _ r => RDs.drop n r
theorem RDs.ints : ∀ {ns : List Int}, RDs K H (ns.map D.int) (ns.map V.int)
  | [] => .nil
  | n :: _ => .cons (.int n) RDs.ints
theorem RDs.bls : ∀ {bs : List Bool} {vs : List V}, RDs K H (bs.map D.bl) vs → vs = bs.map V.bl
  | [], _, h => by cases h; rfl
  | b :: bs, _, h => by
    cases h with
    | cons h r =>
      cases h
      rw [RDs.bls r]; rfl
theorem RDs.strs : ∀ {xs : List Str} {vs : List V}, RDs K H (xs.map D.str) vs → vs = xs.map V.str
  | [], _, h => by cases h; rfl
  | b :: bs, _, h => by
    cases h with
    | cons h r =>
      cases h
      rw [RDs.strs r]; rfl
theorem RDs.intsV : ∀ {xs : List Int} {vs : List V}, RDs K H (xs.map D.int) vs → vs = xs.map V.int
  | [], _, h => by cases h; rfl
  | b :: bs, _, h => by
    cases h with
    | cons h r =>
      cases h
      rw [RDs.intsV r]; rfl
end

/-- a new tuple -/
def tupO (us : List Value) : Obj := { cls := .type "tuple", data := .seq us.toArray }
theorem tup_ok {P : Program} {w : World} {H : Hp} {h : Heap} {a : Addr} {us : List Value} {vs : List V} (e : h.get? a = some (tupO us)) (r : Vals vs us) (z : vs.length ≤ sizeLine) : ObjOk P w H h a (.frz (tupO us) (.tup vs)) :=
  ⟨e, z, us, r, ⟨_, e, rfl, _, rfl⟩⟩
theorem sqN_new {K : PySem.W.Frag} {H : Hp} {a : Addr} {us : List Value} {vs : List V} : SqN K (upd H a (.frz (tupO us) (.tup vs))) a vs := .inl ⟨_, upd_same, rfl⟩
/-! ### the heap of what changes -/
/-- the object at a is just this one -/
def rawO (a : Addr) (o : Obj) : HO := .ext fun h => h.get? a = some o
section
variable (K : PySem.W.Frag) (w : World) (H : Hp)
/-- an entry of a dict -/
def REn (p : D × D) (e : DictEntry) : Prop := (∃ k y, dkey p.1 = some k ∧ k.depth ≤ 8 ∧ e.hash = k.hash w ∧ RelV y e.key ∧ RD K H p.1 y) ∧ ∃ y, RelV y e.val ∧ RD K H p.2 y
def RFl : List (Str × D) → List (Str × V) → Prop := Paired fun (p : Str × D) (q : Str × V) => p.1 = q.1 ∧ RD K H p.2 q.2
def RO (a : Addr) : MO → Prop
  | .lst ds => ∃ vs, H a = some (.lst vs) ∧ RDs K H ds vs
  | .dct o kvs => ∃ (es : List DictEntry) (ep : Nat), H a = some (rawO a o) ∧ o.ExactDict ∧ o.data = .dict es.toArray ep ∧ (a == sysModules) = false ∧ kvs.length ≤ sizeLine ∧ uni kvs ∧ (kvs.map fun p => dkey p.1).Nodup ∧ Paired (REn K w H) kvs es
  | .ins c fs => ∃ dx vs, H a = some (.ins (He.ga K c) dx vs) ∧ RFl K H fs vs
  | .xd f d => ∃ y, H a = some (.xd [(f, y)]) ∧ RD K H d y
def RM (M : MM) : Prop := ∀ a o, M a = some o → RO K w H a o
/-- an exception as it lies -/
def RX (M : MM) (x : Xn) (cls : Value) (d : Option Addr) : Prop := cls = .ref (He.ga K x.c) ∧ ∃ dd y, d = some dd ∧ M dd = none ∧ H dd = some (.xd [(x.f, y)]) ∧ RD K H x.v y
/-- the slots -/
def RE (ρ : En) (σ : St) : Prop := ρ.length = σ.length ∧ ∀ (i : Nat) (d : D), ρ[i]? = some (some d) → ∃ y, σ[i]? = some (some y) ∧ RD K H d y
end
section
variable {K : PySem.W.Frag} {w : World} {H H' : Hp} {M M' : MM} {ρ : En} {σ : St}
theorem RE.stb (s : Stb H H') (h : RE K H ρ σ) : RE K H' ρ σ := ⟨h.1, fun i d e => let ⟨y, h1, h2⟩ := h.2 i d e; ⟨y, h1, h2.stb s⟩⟩
theorem RE.set {i : Nat} {d : D} {y : V} (h : RE K H ρ σ) (r : RD K H d y) : RE K H (ρ.set i (some d)) (σ.set i (some y)) := by
  refine ⟨by rw [List.length_set, List.length_set]; exact h.1, fun j e q => ?_⟩
  by_cases hj : i = j
  · subst hj
    by_cases hl : i < ρ.length
    · rw [List.getElem?_set_self hl] at q
      have e1 : d = e := Option.some.inj (Option.some.inj q)
      subst e1
      exact ⟨y, by rw [List.getElem?_set_self (by rw [← h.1]; exact hl)], r⟩
    · rw [List.set_eq_of_length_le (by omega)] at q
      rw [List.getElem?_eq_none (by omega)] at q
      cases q
  · rw [List.getElem?_set_ne hj] at q
    obtain ⟨z, h1, h2⟩ := h.2 j e q
    exact ⟨z, by rw [List.getElem?_set_ne hj]; exact h1, h2⟩
theorem REn.stb (s : Stb H H') {p : D × D} {e : DictEntry} (h : REn K w H p e) : REn K w H' p e :=
  let ⟨⟨k, y, a, f, b, c, d⟩, z, c2, d2⟩ := h; ⟨⟨k, y, a, f, b, c, d.stb s⟩, z, c2, d2.stb s⟩
theorem RFl.stb (s : Stb H H') {fs : List (Str × D)} {vs : List (Str × V)} (h : RFl K H fs vs) : RFl K H' fs vs := Paired.mapP h fun _ _ q => ⟨q.1, q.2.stb s⟩
/-- an object stands while its own place does -/
theorem RO.stb (s : Stb H H') {a : Addr} {o : MO} (e : H' a = H a) (h : RO K w H a o) : RO K w H' a o := by
  cases o with
  | lst ds => obtain ⟨vs, h1, h2⟩ := h; exact ⟨vs, e.trans h1, h2.stb s⟩
  | dct o kvs => obtain ⟨es, ep, h1, g1, g2, h2, h3, hu, h4, h5⟩ := h; exact ⟨es, ep, e.trans h1, g1, g2, h2, h3, hu, h4, Paired.mapP h5 fun _ _ q => q.stb s⟩
  | ins c fs => obtain ⟨dx, vs, h1, h2⟩ := h; exact ⟨dx, vs, e.trans h1, h2.stb s⟩
  | xd f d => obtain ⟨y, h1, h2⟩ := h; exact ⟨y, e.trans h1, h2.stb s⟩
theorem RO.there {a : Addr} {o : MO} (h : RO K w H a o) : ∃ u, H a = some u := by
  cases o with
  | lst ds => obtain ⟨vs, h1, h2⟩ := h; exact ⟨_, h1⟩
  | dct o kvs => obtain ⟨es, ep, h1, _⟩ := h; exact ⟨_, h1⟩
  | ins c fs => obtain ⟨dx, vs, h1, h2⟩ := h; exact ⟨_, h1⟩
  | xd f d => obtain ⟨y, h1, h2⟩ := h; exact ⟨_, h1⟩
theorem RM.fresh (h : RM K w H M) {p : Addr} (hp : H p = none) : M p = none := by
  cases e : M p with
  | none => rfl
  | some o =>
    obtain ⟨u, h1⟩ := (h p o e).there
    rw [hp] at h1; cases h1
/-- a thing that is not of the heap of what changes is laid -/
theorem RM.laid (h : RM K w H M) {p : Addr} {u : HO} (hp : H p = none) : RM K w (upd H p u) M := fun a o e => by
  have hn : a ≠ p := fun z => by
    subst z
    rw [h.fresh hp] at e; cases e
  exact (h a o e).stb (Stb.new hp) (upd_ne hn)
theorem RM.new (h : RM K w H M) {p : Addr} {u : HO} {o : MO} (hp : H p = none) (ho : RO K w (upd H p u) p o) : RM K w (upd H p u) (up M p o) := fun a q e => by
  by_cases hn : a = p
  · subst hn
    rw [up_same] at e; cases e; exact ho
  · rw [up_ne hn] at e
    exact (h a q e).stb (Stb.new hp) (upd_ne hn)
theorem RM.mut (h : RM K w H M) {p : Addr} {u : HO} {o : MO} (hp : Mut (H p)) (ho : RO K w (upd H p u) p o) : RM K w (upd H p u) (up M p o) := fun a q e => by
  by_cases hn : a = p
  · subst hn
    rw [up_same] at e; cases e; exact ho
  · rw [up_ne hn] at e
    exact (h a q e).stb (Stb.mut hp) (upd_ne hn)
end

/-! ### readings from wishes -/
/-- what is wanted: of a value and the heap; of an exception and the heap -/
abbrev QD := D → MM → Prop
abbrev QX := Xn → MM → Prop
abbrev WE := En → MM → QD → QX → Prop
abbrev WB := En → MM → (Bool → MM → Prop) → QX → Prop
abbrev WA := En → MM → (List D → MM → Prop) → QX → Prop
abbrev RMx (X : Cx) (H : Hp) (M : MM) : Prop := RM X.K X.w H M
/-- exceptions go on -/
def XGo (X : Cx) (W : WX) (σ : St) (H : Hp) (E0 : QX) : Prop := ∀ x M', E0 x M' → ∀ cls d H', Stb H H' → RX X.K H' M' x cls d → RMx X H' M' → W cls d σ H'
def upE (X : Cx) (W : WX) (t : WE) : TE := fun σ H Q => ∃ ρ M Q0 E0, RE X.K H ρ σ ∧ RMx X H M ∧ t ρ M Q0 E0 ∧
  (∀ d M', Q0 d M' → ∀ y H', Stb H H' → RD X.K H' d y → RMx X H' M' → Q y H') ∧ XGo X W σ H E0
def upB (X : Cx) (W : WX) (t : WB) : TT := fun σ H Q => ∃ ρ M Q0 E0, RE X.K H ρ σ ∧ RMx X H M ∧ t ρ M Q0 E0 ∧
  (∀ b M', Q0 b M' → ∀ H', Stb H H' → RMx X H' M' → Q b H') ∧ XGo X W σ H E0
def upA (X : Cx) (W : WX) (t : WA) : TA := fun σ H Q => ∃ ρ M Q0 E0, RE X.K H ρ σ ∧ RMx X H M ∧ t ρ M Q0 E0 ∧
  (∀ ds M', Q0 ds M' → ∀ ys H', Stb H H' → RDs X.K H' ds ys → RMx X H' M' → Q ys H') ∧ XGo X W σ H E0
theorem XGo.stb {X : Cx} {W : WX} {σ : St} {H H1 : Hp} {E0 : QX} (h : XGo X W σ H E0) (s : Stb H H1) : XGo X W σ H1 E0 :=
  fun x M' q cls d H' s' r m => h x M' q cls d H' (s.trans s') r m
section
variable {X : Cx} {e a b : Expr} {W : WX}
theorem _root_.L2.PE.imp {t t' : TE} (h : PE X e t) (q : ∀ σ H Q, t' σ H Q → t σ H Q) : PE X e t' := ⟨fun pins s σ H Q I z => h.run pins s σ H Q I (q σ H Q z)⟩
theorem _root_.L2.PT.imp {t t' : TT} (h : PT X e t) (q : ∀ σ H Q, t' σ H Q → t σ H Q) : PT X e t' := ⟨fun pins s σ H Q I z => h.run pins s σ H Q I (q σ H Q z)⟩
theorem _root_.L2.PW.imp {t t' : TT} (h : PW X e t) (q : ∀ σ H Q, t' σ H Q → t σ H Q) : PW X e t' := ⟨fun wh pins s σ H Q I z => h.run wh pins s σ H Q I (q σ H Q z)⟩
theorem _root_.L2.PA.imp {es : List Expr} {t t' : TA} (h : PA X es t) (q : ∀ σ H Q, t' σ H Q → t σ H Q) : PA X es t' := ⟨fun pos pins s σ H Q I z => h.run pos pins s σ H Q I (q σ H Q z)⟩
theorem _root_.L2.PS.imp {st : Stmt} {t t' : TS} (h : PS X st t) (q : ∀ D σ H, t' D σ H → t D σ H) : PS X st t' := ⟨fun pins s σ H D I z => h.run pins s σ H D I (q D σ H z)⟩
theorem _root_.L2.PSs.imp {st : List Stmt} {t t' : TS} (h : PSs X st t) (q : ∀ D σ H, t' D σ H → t D σ H) : PSs X st t' := ⟨fun pins s σ H D I z => h.run pins s σ H D I (q D σ H z)⟩

/-! ### the smallest readings -/
def wVar (i : Nat) : WE := fun ρ M Q _ => match ρ[i]? with
  | some (some d) => Q d M
  | _ => False
def wCst (d : D) : WE := fun _ M Q _ => Q d M
theorem ue_var {i : Nat} (h : PE X e (tVar i)) : PE X e (upE X W (wVar i)) := h.imp fun σ H Q ⟨ρ, M, Q0, E0, r, m, t, q, _⟩ => by
  unfold wVar at t
  cases z : ρ[i]? with
  | none => rw [z] at t; exact t.elim
  | some od =>
    cases od with
    | none => rw [z] at t; exact t.elim
    | some d =>
      rw [z] at t
      obtain ⟨y, h1, h2⟩ := r.2 i d z
      exact ⟨y, h1, q d M t y H (Stb.refl H) h2 m⟩
theorem ue_cst {d : D} {v : V} (h : PE X e (tC v)) (hd : ∀ H, RD X.K H d v) : PE X e (upE X W (wCst d)) := h.imp fun σ H Q ⟨ρ, M, Q0, E0, r, m, t, q, _⟩ =>
  q d M t v H (Stb.refl H) (hd H) m
/-- two expressions, an operation -/
abbrev OD := D → D → MM → QD → Prop
def wOp (o : OD) (wa wb : WE) : WE := fun ρ M Q E => wa ρ M (fun x M1 => wb ρ M1 (fun y M2 => o x y M2 Q) E) E
/-- an operation on values, from one on data -/
def upO (X : Cx) (o : OD) : R2 := fun x y H Q => ∃ d f M Q0, RD X.K H d x ∧ RD X.K H f y ∧ RMx X H M ∧ o d f M Q0 ∧ ∀ z M', Q0 z M' → ∀ v H', Stb H H' → RD X.K H' z v → RMx X H' M' → Q v H'
theorem ue_op {o : OD} {wa wb : WE} {r : R2} (hr : ∀ x y H Q, upO X o x y H Q → r x y H Q) (h : PE X e (tOp r (upE X W wa) (upE X W wb))) : PE X e (upE X W (wOp o wa wb)) := h.imp fun σ H Q ⟨ρ, M, Q0, E0, r1, m, t, q, xg⟩ =>
  ⟨ρ, M, _, E0, r1, m, t, fun d M1 t1 y H1 s1 rd m1 => ⟨ρ, M1, _, E0, r1.stb s1, m1, t1, fun d2 M2 t2 y2 H2 s2 rd2 m2 =>
    hr _ _ _ _ ⟨d, d2, M2, Q0, rd.stb s2, rd2, m2, t2, fun z M' qz v H' s3 rz mz => q z M' qz v H' ((s1.trans s2).trans s3) rz mz⟩, xg.stb s1⟩, xg⟩
def wUn (o : D → MM → QD → Prop) (wa : WE) : WE := fun ρ M Q E => wa ρ M (fun x M1 => o x M1 Q) E
def upU (X : Cx) (o : D → MM → QD → Prop) : V → Hp → VK → Prop := fun x H Q => ∃ d M Q0, RD X.K H d x ∧ RMx X H M ∧ o d M Q0 ∧ ∀ z M', Q0 z M' → ∀ v H', Stb H H' → RD X.K H' z v → RMx X H' M' → Q v H'
theorem ue_un {o : D → MM → QD → Prop} {wa : WE} (h : PE X e (tUn (upU X o) (upE X W wa))) : PE X e (upE X W (wUn o wa)) := h.imp fun σ H Q ⟨ρ, M, Q0, E0, r1, m, t, q, xg⟩ =>
  ⟨ρ, M, _, E0, r1, m, t, fun d M1 t1 y H1 s1 rd m1 => ⟨d, M1, Q0, rd, m1, t1, fun z M' qz v H' s3 rz mz => q z M' qz v H' (s1.trans s3) rz mz⟩, xg⟩
/-! ### argument lists -/
def wNil : WA := fun _ M Q _ => Q [] M
def wCons (wa : WE) (wr : WA) : WA := fun ρ M Q E => wa ρ M (fun x M1 => wr ρ M1 (fun xs M2 => Q (x :: xs) M2) E) E
theorem ua_nil : PA X [] (upA X W wNil) := pa_nil.imp fun σ H Q ⟨ρ, M, Q0, E0, r1, m, t, q, xg⟩ => q [] M t [] H (Stb.refl H) .nil m
theorem ua_cons {wa : WE} {wr : WA} {es : List Expr} (ha : PE X e (upE X W wa)) (hr : PA X es (upA X W wr)) (hs : starEach (e :: es) X.env = (false, eval e X.env) :: starEach es X.env) : PA X (e :: es) (upA X W (wCons wa wr)) :=
  (pa_cons ha hr hs).imp fun σ H Q ⟨ρ, M, Q0, E0, r1, m, t, q, xg⟩ =>
  ⟨ρ, M, _, E0, r1, m, t, fun d M1 t1 y H1 s1 rd m1 => ⟨ρ, M1, _, E0, r1.stb s1, m1, t1, fun ds M2 t2 ys H2 s2 rds m2 => q (d :: ds) M2 t2 (y :: ys) H2 (s1.trans s2) (.cons (rd.stb s2) rds) m2, xg.stb s1⟩, xg⟩
/-- a call by values -/
abbrev CD := List D → MM → QD → Prop
def wCl (o : CD) (wa : WA) : WE := fun ρ M Q E => wa ρ M (fun xs M1 => o xs M1 Q) E
def upC (X : Cx) (o : CD) : List V → Hp → VK → Prop := fun xs H Q => ∃ ds M Q0, RDs X.K H ds xs ∧ RMx X H M ∧ o ds M Q0 ∧ ∀ z M', Q0 z M' → ∀ v H', Stb H H' → RD X.K H' z v → RMx X H' M' → Q v H'
theorem ue_cl {o : CD} {wa : WA} {r : List V → Hp → VK → Prop} (hr : ∀ xs H Q, upC X o xs H Q → r xs H Q) (h : PE X e (tCB r (upA X W wa))) : PE X e (upE X W (wCl o wa)) := h.imp fun σ H Q ⟨ρ, M, Q0, E0, r1, m, t, q, xg⟩ =>
  ⟨ρ, M, _, E0, r1, m, t, fun ds M1 t1 ys H1 s1 rd m1 => hr _ _ _ ⟨ds, M1, Q0, rd, m1, t1, fun z M' qz v H' s3 rz mz => q z M' qz v H' (s1.trans s3) rz mz⟩, xg⟩
end
end Fg
/-! Fg2: what operators do with data. -/
namespace Fg
open PySem PySem.Spec L2
open PyProof.Rows hiding St
/-! ### data as the library reads it -/
mutual
def toP : D → PyData
  | .non => .none
  | .bl b => .bool b
  | .int i => .int i
  | .str x => .str x
  | .tup ds => .tuple (toPs ds)
  | .rol ds => .list (toPs ds)
  | .ty _ => .none
  | .ref _ => .none
def toPs : List D → List PyData
  | [] => []
  | d :: ds => toP d :: toPs ds
end
mutual
/-- numbers, texts, tuples of such -/
def dat : D → Bool
  | .non => true
  | .bl _ => true
  | .int _ => true
  | .str _ => true
  | .tup ds => dats ds
  | .rol ds => dats ds
  | .ty _ => false
  | .ref _ => false
def dats : List D → Bool
  | [] => true
  | d :: ds => dat d && dats ds
end
mutual
def dep : D → Nat
  | .tup ds => deps ds + 1
  | .rol ds => deps ds + 1
  | .non => 0
  | .bl _ => 0
  | .int _ => 0
  | .str _ => 0
  | .ty _ => 0
  | .ref _ => 0
def deps : List D → Nat
  | [] => 0
  | d :: ds => max (dep d) (deps ds)
end
theorem toPs_length : ∀ ds : List D, (toPs ds).length = ds.length
  | [] => rfl
  | d :: ds => by rw [toPs, List.length_cons, List.length_cons, toPs_length ds]
theorem toPs_map : ∀ ds : List D, toPs ds = ds.map toP
  | [] => rfl
  | d :: ds => by rw [toPs, List.map_cons, toPs_map ds]
mutual
theorem plain_toP : ∀ d : D, (toP d).plain = true
  | .non => rfl
  | .bl _ => rfl
  | .int _ => rfl
  | .str _ => rfl
  | .ty _ => rfl
  | .ref _ => rfl
  | .tup ds => by rw [toP, PyData.plain]; exact plain_toPs ds
  | .rol ds => by rw [toP, PyData.plain]; exact plain_toPs ds
theorem plain_toPs : ∀ ds : List D, PyData.plainAll (toPs ds) = true
  | [] => rfl
  | d :: ds => by rw [toPs, PyData.plainAll, plain_toP d, plain_toPs ds]; rfl
end
mutual
theorem dep_toP : ∀ d : D, (toP d).depth = dep d
  | .non => rfl
  | .bl _ => rfl
  | .int _ => rfl
  | .str _ => rfl
  | .ty _ => rfl
  | .ref _ => rfl
  | .tup ds => by rw [toP, PyData.depth, dep, dep_toPs ds]
  | .rol ds => by rw [toP, PyData.depth, dep, dep_toPs ds]
theorem dep_toPs : ∀ ds : List D, PyData.depthAll (toPs ds) = deps ds
  | [] => rfl
  | d :: ds => by rw [toPs, PyData.depthAll, deps, dep_toP d, dep_toPs ds]
end
section
variable {K : PySem.W.Frag} {H : Hp}
mutual
theorem RD.dp : ∀ {d : D} {v : V}, RD K H d v → dat d = true → Dp K H v (toP d)
  | _, _, .non, _ => .non
  | _, _, .bl b, _ => .bl b
  | _, _, .int i, _ => .int i
  | _, _, .str x, _ => .str x
  | _, _, .ty n, h => by cases h
  | _, _, .tup h r, e => .tup h (RDs.dp r e)
  | _, _, .rol h r, e => .lst h.sq (RDs.dp r e)
  | _, _, .ref a, h => by cases h
theorem RDs.dp : ∀ {ds : List D} {vs : List V}, RDs K H ds vs → dats ds = true → DpAll K H vs (toPs ds)
  | _, _, .nil, _ => .nil
  | _, _, .cons h r, e => by
    rw [dats, Bool.and_eq_true] at e
    exact .cons (RD.dp h e.1) (RDs.dp r e.2)
end
end
section
variable {X : Cx} {pins : List (Addr × Obj)} {σ : St} {H : Hp} {s : Shared} {M : MM}
theorem reads_of (I : Inv X pins σ H s) {d : D} {v : V} {u : Value} (r : RD X.K H d v) (e : dat d = true) (ru : RelV v u) : ∃ as, PySem.Reads s.heap u (toP d) as := Dp.reads I _ _ _ (r.dp e) ru
/-- a list's contents: one that may change, one that stands -/
def lstOf (M : MM) : D → Option (List D)
  | .ref a => match M a with
    | some (.lst ds) => some ds
    | _ => none
  | .rol ds => some ds
  | _ => none
theorem lstOf_ref {a : Addr} {ds : List D} (h : M a = some (.lst ds)) : lstOf M (.ref a) = some ds := by simp only [lstOf, h]
theorem lstOf_sq (m : RMx X H M) {d : D} {v : V} {ds : List D} (r : RD X.K H d v) (e : lstOf M d = some ds) : ∃ a vs, v = .ref a ∧ SqL X.K H a vs ∧ RDs X.K H ds vs := by
  cases r with
  | @ref a =>
    cases q : M a with
    | none => simp [lstOf, q] at e
    | some o =>
      simp only [lstOf, q] at e
      cases o with
      | lst es =>
        cases e
        obtain ⟨vs, h1, h2⟩ := m a _ q
        exact ⟨a, vs, rfl, SqL.of h1, h2⟩
      | dct _ _ => cases e
      | ins _ _ => cases e
      | xd _ _ => cases e
  | @rol a vs es h q =>
    cases e
    exact ⟨a, vs, rfl, h.sq, q⟩
  | _ => cases e
/-- a value as data, a list with its contents -/
def asD (M : MM) (d : D) : Option D := match lstOf M d with
  | some ds => if dats ds = true then some (.rol ds) else none
  | none => if dat d = true then some d else none
theorem asD_reads (I : Inv X pins σ H s) (m : RMx X H M) {d e : D} {v : V} {u : Value} (r : RD X.K H d v) (h : asD M d = some e) (ru : RelV v u) : ∃ as, PySem.Reads s.heap u (toP e) as := by
  unfold asD at h
  cases q : lstOf M d with
  | none =>
    simp only [q] at h
    by_cases hd : dat d = true
    · rw [if_pos hd] at h
      cases h
      exact reads_of I r hd ru
    · rw [if_neg hd] at h; cases h
  | some ds =>
    simp only [q] at h
    by_cases hd : dats ds = true
    · rw [if_pos hd] at h
      cases h
      obtain ⟨a, vs, rfl, hs, hr⟩ := lstOf_sq m r q
      exact Dp.reads I _ _ _ (Dp.lst hs (hr.dp hd)) ru
    · rw [if_neg hd] at h; cases h
end

/-! ### equality and order -/
/-- x == y -/
def eqD (x y : D) : Bool := PyData.eqv (toP x) (toP y)
def dEq : OD := fun x y M Q => match x, y with
  | .int i, .int j => Q (.bl (decide (i = j))) M
  | .str i, .str j => Q (.bl (decide (i = j))) M
  | .bl i, .bl j => Q (.bl (i == j)) M
  | x, y => ∃ x' y', asD M x = some x' ∧ asD M y = some y' ∧ min (dep x') (dep y') ≤ 60 ∧ Q (.bl (eqD x' y')) M
def dNe : OD := fun x y M Q => dEq x y M fun z M' => match z with
  | .bl b => Q (.bl (!b)) M'
  | _ => False
theorem dEq_out {x y : D} {M : MM} {Q : QD} (h : dEq x y M Q) : ∃ x' y', asD M x = some x' ∧ asD M y = some y' ∧ min (dep x') (dep y') ≤ 60 ∧ Q (.bl (eqD x' y')) M := by
  unfold dEq at h
  split at h
  · rename_i i j
    exact ⟨.int i, .int j, rfl, rfl, by simp [dep], by rw [show eqD (.int i) (.int j) = decide (i = j) from by rw [eqD, toP, toP, PyData.eqv, Bool.beq_eq_decide_eq]]; exact h⟩
  · rename_i i j
    exact ⟨.str i, .str j, rfl, rfl, by simp [dep], by rw [show eqD (.str i) (.str j) = decide (i = j) from by rw [eqD, toP, toP, PyData.eqv, Bool.beq_eq_decide_eq]]; exact h⟩
  · rename_i i j
    exact ⟨.bl i, .bl j, rfl, rfl, by simp [dep], by rw [show eqD (.bl i) (.bl j) = (i == j) from by rw [eqD, toP, toP, PyData.eqv]]; exact h⟩
  · exact h
section
variable {X : Cx}
theorem room_min {A : Around} {x y : D} (hu : A.units + 64 < cLine) (h : min (dep x) (dep y) ≤ 60) : A.units + min (toP x).depth (toP y).depth < cLine := by
  rw [dep_toP, dep_toP]; omega
theorem op_dEq (hu : X.A.units + 64 < cLine) : OpR X (compareOp .Eq) (upO X dEq) := by
  intro pins s σ H x y v u Q I rx ry h
  obtain ⟨d, f, M, Q0, r1, r2, m, t, q⟩ := h
  obtain ⟨x', y', h1, h2, h3, h4⟩ := dEq_out t
  obtain ⟨as, q1⟩ := asD_reads I m r1 h1 rx
  obtain ⟨bs, q2⟩ := asD_reads I m r2 h2 ry
  exact PySem.SeqAt.eq_plain q1 q2 (plain_toP _) (plain_toP _) (room_min hu h3) ⟨.bl _, H, I, rfl, q _ M h4 _ H (Stb.refl H) (.bl _) m⟩
theorem op_dNe (hu : X.A.units + 64 < cLine) : OpR X (compareOp .NotEq) (upO X dNe) := by
  intro pins s σ H x y v u Q I rx ry h
  obtain ⟨d, f, M, Q0, r1, r2, m, t, q⟩ := h
  obtain ⟨x', y', h1, h2, h3, h4⟩ := dEq_out t
  obtain ⟨as, q1⟩ := asD_reads I m r1 h1 rx
  obtain ⟨bs, q2⟩ := asD_reads I m r2 h2 ry
  exact PySem.SeqAt.ne_plain q1 q2 (plain_toP _) (plain_toP _) (room_min hu h3) ⟨.bl _, H, I, rfl, q _ M h4 _ H (Stb.refl H) (.bl _) m⟩
end
/-- x < y -/
def ltD (x y : D) : Bool := PySem.W.dataLt (toP x) (toP y)
/-- they can be ordered -/
def okLt (x y : D) : Prop := PySem.W.alike (toP x) (toP y) = true ∧ toP x ≠ .none ∧ min (dep x) (dep y) ≤ 60
/-- an order's answer, by p on ints; by r from «less», «less, turned about» -/
def dOrd (p : Int → Int → Bool) (r : D → D → Bool) : OD := fun x y M Q => match x, y with
  | .int i, .int j => Q (.bl (p i j)) M
  | x, y => dat x = true ∧ dat y = true ∧ okLt x y ∧ Q (.bl (r x y)) M
def dLt : OD := dOrd (fun i j => decide (i < j)) ltD
def dGt : OD := dOrd (fun i j => decide (j < i)) fun x y => ltD y x
def dLe : OD := dOrd (fun i j => decide (i ≤ j)) fun x y => !ltD y x
def dGe : OD := dOrd (fun i j => decide (j ≤ i)) fun x y => !ltD x y
section
variable {X : Cx}
theorem op_dOrd {op : CmpOp} {p : Int → Int → Bool} {r : D → D → Bool} (hi : ∀ (i j : Int) (t u : Tok) (Q : Value → Shared → Prop) (s : Shared), Q (.bool (p i j)) s → wpAny (model X.prog X.w) X.A (compareOp op (.int i t) (.int j u)) Q X.xe s)
    (hd : ∀ (x y : D) (v u : Value) (as bs : List Addr) (Q : Value → Shared → Prop) (s : Shared), PySem.Reads s.heap v (toP x) as → PySem.Reads s.heap u (toP y) bs → okLt x y → Q (.bool (r x y)) s → wpAny (model X.prog X.w) X.A (compareOp op v u) Q X.xe s) :
    OpR X (compareOp op) (upO X (dOrd p r)) := by
  intro pins s σ H x y v u Q I rx ry h
  obtain ⟨d, f, M, Q0, r1, r2, m, t, q⟩ := h
  unfold dOrd at t
  split at t
  · cases r1
    cases r2
    obtain ⟨t1, rfl⟩ := rx
    obtain ⟨t2, rfl⟩ := ry
    exact hi _ _ _ _ _ _ ⟨.bl _, H, I, rfl, q _ M t _ H (Stb.refl H) (.bl _) m⟩
  · obtain ⟨e1, e2, e3, e4⟩ := t
    obtain ⟨as, q1⟩ := reads_of I r1 e1 rx
    obtain ⟨bs, q2⟩ := reads_of I r2 e2 ry
    exact hd _ _ _ _ _ _ _ _ q1 q2 e3 ⟨.bl _, H, I, rfl, q _ M e4 _ H (Stb.refl H) (.bl _) m⟩
theorem op_dLt (hu : X.A.units + 64 < cLine) : OpR X (compareOp .Lt) (upO X dLt) := op_dOrd (fun _ _ _ _ _ _ h => lt_int h) fun _ _ _ _ _ _ _ _ a b c h => PySem.W.lt_data a b c.1 c.2.1 (room_min hu c.2.2) h
theorem op_dLe (hu : X.A.units + 64 < cLine) : OpR X (compareOp .LtE) (upO X dLe) := op_dOrd (fun _ _ _ _ _ _ h => le_int h) fun _ _ _ _ _ _ _ _ a b c h => PySem.W.le_data a b c.1 c.2.1 (room_min hu c.2.2) h
theorem op_dGt (hu : X.A.units + 64 < cLine) : OpR X (compareOp .Gt) (upO X dGt) := op_dOrd (fun _ _ _ _ _ _ h => gt_int h) fun _ _ _ _ _ _ _ _ a b c h => PySem.W.gt_data a b c.1 c.2.1 (room_min hu c.2.2) h
theorem op_dGe (hu : X.A.units + 64 < cLine) : OpR X (compareOp .GtE) (upO X dGe) := op_dOrd (fun _ _ _ _ _ _ h => ge_int h) fun _ _ _ _ _ _ _ _ a b c h => PySem.W.ge_data a b c.1 c.2.1 (room_min hu c.2.2) h
end
/-! ### is -/
def isNon : D → Bool
  | .non => true
  | _ => false
theorem isNon_rel {K : PySem.W.Frag} {H : Hp} {d : D} {v : V} (r : RD K H d v) : decide (v = .non) = isNon d := by cases r <;> rfl
def dIs : OD := fun x y M Q => match y with
  | .non => Q (.bl (isNon x)) M
  | _ => False
def dIsNot : OD := fun x y M Q => match y with
  | .non => Q (.bl (!isNon x)) M
  | _ => False
section
variable {X : Cx}
theorem op_dIs : OpR X (compareOp .Is) (upO X dIs) := by
  intro pins s σ H x y v u Q I rx ry h
  obtain ⟨d, f, M, Q0, r1, r2, m, t, q⟩ := h
  cases r2 with
  | non =>
    have t' : Q0 (.bl (isNon d)) M := t
    refine op_isN pins s σ H x .non v u Q I rx ry ⟨rfl, ?_⟩
    rw [isNon_rel r1]
    exact q _ M t' _ H (Stb.refl H) (.bl _) m
  | _ => exact t.elim
theorem op_dIsNot : OpR X (compareOp .IsNot) (upO X dIsNot) := by
  intro pins s σ H x y v u Q I rx ry h
  obtain ⟨d, f, M, Q0, r1, r2, m, t, q⟩ := h
  cases r2 with
  | non =>
    have t' : Q0 (.bl (!isNon d)) M := t
    refine op_notN pins s σ H x .non v u Q I rx ry ⟨rfl, ?_⟩
    rw [isNon_rel r1]
    exact q _ M t' _ H (Stb.refl H) (.bl _) m
  | _ => exact t.elim
end
/-! ### arithmetic -/
def dAdd : OD := fun x y M Q => match x, y with
  | .int i, .int j => Q (.int (i + j)) M
  | .str a, .str b => a.length + b.length ≤ sizeLine ∧ Q (.str (a ++ b)) M
  | .tup a, .tup b => a.length + b.length ≤ sizeLine ∧ Q (.tup (a ++ b)) M
  | .ref a, .ref b => ∃ xs ys, M a = some (.lst xs) ∧ M b = some (.lst ys) ∧ xs.length + ys.length ≤ sizeLine ∧ ∀ p, M p = none → Q (.ref p) (up M p (.lst (xs ++ ys)))
  | _, _ => False
def dSub : OD := fun x y M Q => match x, y with
  | .int i, .int j => Q (.int (i - j)) M
  | _, _ => False
def dMul : OD := fun x y M Q => match x, y with
  | .int i, .int j => CMulW i j ∧ Q (.int (i * j)) M
  | .ref a, .int k => ∃ xs, M a = some (.lst xs) ∧ -(2 ^ 63) ≤ k ∧ k < 2 ^ 63 ∧ xs.length * k.toNat ≤ sizeLine ∧ ∀ p, M p = none → Q (.ref p) (up M p (.lst (List.replicate k.toNat xs).flatten))
  | _, _ => False
def dDiv : OD := fun x y M Q => match x, y with
  | .int i, .int j => CDivW i j ∧ Q (.int (i / j)) M
  | _, _ => False
def dMod : OD := fun x y M Q => match x, y with
  | .int i, .int j => 0 < j ∧ Q (.int (i % j)) M
  | _, _ => False
def dPow : OD := fun x y M Q => match x, y with
  | .int i, .int j => CPow i j ∧ Q (.int (i ^ j.toNat)) M
  | _, _ => False
def dAnd : OD := fun x y M Q => match x, y with
  | .int i, .int j => Q (.int (Builtin.bitAnd i j)) M
  | _, _ => False
theorem replicate_RDs {K : PySem.W.Frag} {H : Hp} {ds : List D} {vs : List V} (r : RDs K H ds vs) : ∀ n : Nat, RDs K H (List.replicate n ds).flatten (List.replicate n vs).flatten
  | 0 => .nil
  | n + 1 => by
    rw [List.replicate_succ, List.flatten_cons, List.replicate_succ, List.flatten_cons]
    exact r.append (replicate_RDs r n)
section
variable {X : Cx}
theorem op_int2 {f : Value → Value → Sem Value} {C : Int → Int → Prop} {g : Int → Int → Int} (h0 : OpR X f (rI C fun i j => .int (g i j))) {o : OD} (ho : ∀ x y M Q, o x y M Q → ∃ i j, x = .int i ∧ y = .int j ∧ C i j ∧ Q (.int (g i j)) M) : OpR X f (upO X o) := by
  intro pins s σ H x y v u Q I rx ry h
  obtain ⟨d, e, M, Q0, r1, r2, m, t, q⟩ := h
  obtain ⟨i, j, rfl, rfl, c, t⟩ := ho _ _ _ _ t
  cases r1
  cases r2
  exact h0 pins s σ H _ _ v u Q I rx ry ⟨i, j, rfl, rfl, c, q _ M t _ H (Stb.refl H) (.int _) m⟩
theorem op_dSub : OpR X (binaryOp .Sub) (upO X dSub) := op_int2 (C := fun _ _ => True) (g := fun i j => i - j) (fun pins s σ H x y v u Q I rx ry ⟨i, j, e1, e2, _, q⟩ => op_sub pins s σ H x y v u Q I rx ry ⟨i, j, e1, e2, q⟩) fun x y M Q h => by
  unfold dSub at h; split at h
  · exact ⟨_, _, rfl, rfl, trivial, h⟩
  · exact h.elim
theorem op_dDiv : OpR X (binaryOp .FloorDiv) (upO X dDiv) := op_int2 op_fdivW fun x y M Q h => by
  unfold dDiv at h; split at h
  · exact ⟨_, _, rfl, rfl, h.1, h.2⟩
  · exact h.elim
theorem op_dMod : OpR X (binaryOp .Mod) (upO X dMod) := op_int2 op_mod fun x y M Q h => by
  unfold dMod at h; split at h
  · exact ⟨_, _, rfl, rfl, h.1, h.2⟩
  · exact h.elim
theorem op_dPow : OpR X (binaryOp .Pow) (upO X dPow) := op_int2 op_pow fun x y M Q h => by
  unfold dPow at h; split at h
  · exact ⟨_, _, rfl, rfl, h.1, h.2⟩
  · exact h.elim
theorem op_dAnd : OpR X (binaryOp .BitAnd) (upO X dAnd) := op_int2 (C := fun _ _ => True) (g := fun i j => Builtin.bitAnd i j) (fun pins s σ H x y v u Q I rx ry ⟨i, j, e1, e2, _, q⟩ => op_and pins s σ H x y v u Q I rx ry ⟨i, j, e1, e2, q⟩) fun x y M Q h => by
  unfold dAnd at h; split at h
  · exact ⟨_, _, rfl, rfl, trivial, h⟩
  · exact h.elim
theorem op_dMul : OpR X (binaryOp .Mult) (upO X dMul) := by
  intro pins s σ H x y v u Q I rx ry h
  obtain ⟨d, e, M, Q0, r1, r2, m, t, q⟩ := h
  unfold dMul at t
  split at t
  · cases r1
    cases r2
    exact op_mulW pins s σ H _ _ v u Q I rx ry ⟨_, _, rfl, rfl, t.1, q _ M t.2 _ H (Stb.refl H) (.int _) m⟩
  · cases r1
    cases r2
    obtain ⟨xs, h1, h2, h3, h4, t⟩ := t
    obtain ⟨vs, hv, rv⟩ := m _ _ h1
    refine op_rep pins s σ H _ _ v u Q I rx ry ⟨_, _, vs, rfl, rfl, hv, h2, h3, by rw [← rv.length]; exact h4, fun p hp => ?_⟩
    refine q _ _ (t p (m.fresh hp)) _ _ (Stb.new hp) (.ref p) (m.new hp ⟨_, upd_same, ?_⟩)
    exact RDs.stb (Stb.new hp) (replicate_RDs rv _)
  · exact t.elim
theorem op_dAdd : OpR X (binaryOp .Add) (upO X dAdd) := by
  intro pins s σ H x y v u Q I rx ry h
  obtain ⟨d, e, M, Q0, r1, r2, m, t, q⟩ := h
  unfold dAdd at t
  split at t
  · cases r1
    cases r2
    exact op_add pins s σ H _ _ v u Q I rx ry ⟨_, _, rfl, rfl, q _ M t _ H (Stb.refl H) (.int _) m⟩
  · cases r1
    cases r2
    exact op_add_str pins s σ H _ _ v u Q I rx ry ⟨_, _, rfl, rfl, t.1, q _ M t.2 _ H (Stb.refl H) (.str _) m⟩
  · cases r1 with
    | @tup a vs _ h1 s1 =>
      cases r2 with
      | @tup b us _ h2 s2 =>
        have l1 := s1.length
        have l2 := s2.length
        obtain ⟨t1, t2⟩ := t
        cases rx
        cases ry
        obtain ⟨its, r1, p1, z1⟩ := I.tuple h1.t
        obtain ⟨its2, r2, p2, z2⟩ := I.tuple h2.t
        by_cases e : vs = []
        · subst e
          cases s1
          cases r1
          exact cat_tup0 p1 p2 ⟨.ref b, H, I, rfl, q _ M t2 _ H (Stb.refl H) (.tup h2 s2) m⟩
        · have hs : (vs ++ us).length ≤ sizeLine := by rw [List.length_append, ← l1, ← l2]; exact t1
          refine HT.cat_tup p1 p2 (fun z => e (r1.nil_iff.mp z)) (fun z => ?_) (fun z => ?_) (by rw [← r1.length, ← r2.length, ← l1, ← l2]; exact t1)
          · have eu : us = [] := r2.nil_iff.mp z
            subst eu
            cases s2
            rw [List.append_nil] at t2
            exact ⟨.ref a, H, I, rfl, q _ M t2 _ H (Stb.refl H) (.tup h1 s1) m⟩
          · have hp := I.hok.fresh (Nat.le_refl s.heap.objs.size)
            refine ⟨.ref s.heap.objs.size, _, I.laid (t' := s.toks) (o := .frz (tupO (its ++ its2)) (.tup (vs ++ us))) (fun c oc w => Heap.get?_push_of_some _ w) (Nat.le_refl _) (tup_ok (Heap.get?_push_size _ rfl) (r1.append r2) hs), rfl, ?_⟩
            exact q _ M t2 _ _ (Stb.new hp) (.tup sqN_new (RDs.stb (Stb.new hp) (s1.append s2))) (m.laid hp)
  · cases r1
    cases r2
    obtain ⟨xs, ys, h1, h2, h3, t⟩ := t
    obtain ⟨vs, hv, rv⟩ := m _ _ h1
    obtain ⟨us, hu, ru⟩ := m _ _ h2
    refine op_cat pins s σ H _ _ v u Q I rx ry ⟨_, _, vs, us, rfl, rfl, hv, hu, by rw [← rv.length, ← ru.length]; exact h3, fun p hp => ?_⟩
    exact q _ _ (t p (m.fresh hp)) _ _ (Stb.new hp) (.ref p) (m.new hp ⟨_, upd_same, RDs.stb (Stb.new hp) (rv.append ru)⟩)
  · exact t.elim
def dNeg : D → MM → QD → Prop := fun x M Q => match x with
  | .int i => Q (.int (-i)) M
  | _ => False
theorem un_dNeg : UnR X (unaryOp .USub) (upU X dNeg) := by
  intro pins s σ H x v Q I rx h
  obtain ⟨d, M, Q0, r, m, t, q⟩ := h
  unfold dNeg at t
  split at t
  · cases r
    exact un_neg pins s σ H _ v Q I rx ⟨_, rfl, q _ M t _ H (Stb.refl H) (.int _) m⟩
  · exact t.elim
end
end Fg
/-! Fg3: dicts of data. -/
namespace Fg
open PySem PySem.Spec L2
open PyProof.Rows hiding St
/-! ### tables -/
def lookK (kvs : List (D × D)) (k : NestedKey) : Option D := (kvs.find? fun p => decide (dkey p.1 = some k)).map (·.2)
def hasK (kvs : List (D × D)) (k : NestedKey) : Bool := kvs.any fun p => decide (dkey p.1 = some k)
def putKD (kvs : List (D × D)) (kd : D) (k : NestedKey) (v : D) : List (D × D) :=
  if hasK kvs k = true then kvs.map (fun p => if dkey p.1 = some k then (p.1, v) else p) else kvs ++ [(kd, v)]
structure KOk (kvs : List (D × D)) (kd : D) (k : NestedKey) : Prop where
  key : dkey kd = some k
  dp : k.depth ≤ 8
  kd : (isAt kd = true ∧ ∀ p ∈ kvs, isAt p.1 = true) ∨ (isTu kd = true ∧ ∀ p ∈ kvs, isTu p.1 = true)
theorem hasK_isSome (k : NestedKey) : ∀ kvs : List (D × D), hasK kvs k = (lookK kvs k).isSome
  | [] => rfl
  | p :: r => by
    have ih := hasK_isSome k r
    unfold hasK lookK at ih ⊢
    rw [List.any_cons, List.find?_cons]
    by_cases e : dkey p.1 = some k
    · simp [e]
    · simp only [e, decide_false, Bool.false_or]; exact ih
theorem putKD_length (kvs : List (D × D)) (kd : D) (k : NestedKey) (v : D) : (putKD kvs kd k v).length ≤ kvs.length + 1 := by
  unfold putKD
  split
  · rw [List.length_map]; omega
  · rw [List.length_append]; simp
/-! ### keys in the heap -/
section
variable {X : Cx} {pins : List (Addr × Obj)} {σ : St} {H : Hp} {s : Shared}
mutual
theorem nested_of (I : Inv X pins σ H s) : ∀ {d : D} {v : V} {u : Value} {k : NestedKey}, RD X.K H d v → dkey d = some k → RelV v u → NestedIs s.heap k u
  | _, _, _, _, .non, e, r => by cases e; cases r; exact .none
  | _, _, _, _, .bl b, e, r => by cases e
  | _, _, _, _, .int i, e, r => by cases e; obtain ⟨t, rfl⟩ := r; exact .int _ _
  | _, _, _, _, .str x, e, r => by cases e; obtain ⟨t, rfl⟩ := r; exact .text _ _
  | _, _, _, _, .ty n, e, r => by cases e
  | _, _, _, _, .rol h q, e, r => by cases e
  | _, _, _, _, .ref a, e, r => by cases e
  | _, _, _, _, .tup h q, e, r => by
    rename_i ds
    rw [dkey] at e
    obtain ⟨ks, e1, e2⟩ := Option.map_eq_some_iff.mp e
    subst e2
    cases r
    obtain ⟨its, rv, ⟨o, h1, h2, n, h3⟩, _⟩ := I.tuple (SqN.t h)
    refine .tup h1 h2 h3 ?_
    exact nesteds_of I q e1 rv
theorem nesteds_of (I : Inv X pins σ H s) : ∀ {ds : List D} {vs : List V} {us : List Value} {ks : List NestedKey}, RDs X.K H ds vs → dkeys ds = some ks → Vals vs us → NestedAll s.heap ks us
  | _, _, _, _, .nil, e, r => by cases e; cases r; exact .nil
  | _, _, _, _, .cons h q, e, r => by
    rename_i d v ds vs
    cases r with
    | cons r1 r2 =>
      unfold dkeys at e
      cases e1 : dkey d with
      | none => simp [e1] at e
      | some k =>
        cases e2 : dkeys ds with
        | none => simp [e1, e2] at e
        | some ks =>
          simp only [e1, e2, Option.some.injEq] at e
          subst e
          exact .cons (nested_of I h e1 r1) (nesteds_of I q e2 r2)
end
/-! ### the two forms of the library -/
def akey : D → Option Key
  | .int i => some (.inl i)
  | .str x => some (.inr x)
  | _ => none
def nkey : Key → NestedKey
  | .inl i => .num i
  | .inr x => .text x
theorem nkey_inj {a b : Key} (h : nkey a = nkey b) : a = b := by
  cases a <;> cases b <;> simp [nkey] at h <;> rw [h]
theorem akey_of {d : D} (h : isAt d = true) : ∃ k, akey d = some k ∧ dkey d = some (nkey k) := by
  cases d <;> first | exact ⟨_, rfl, rfl⟩ | cases h
theorem akey_dkey {d : D} {k : Key} (h : akey d = some k) : dkey d = some (nkey k) := by
  cases d <;> first | (cases h; rfl) | cases h
theorem akey_rel {K : PySem.W.Frag} {d : D} {v : V} {u : Value} {k : Key} (r : RD K H d v) (h : akey d = some k) (ru : RelV v u) : keyIs k u = true := by
  cases r <;> first
    | (cases h; obtain ⟨t, rfl⟩ := ru; exact keyIs_int _ _)
    | (cases h; obtain ⟨t, rfl⟩ := ru; exact keyIs_str _ _)
    | cases h
theorem rel_akey {K : PySem.W.Frag} {d : D} {u : Value} {k : Key} (h : akey d = some k) (e : keyIs k u = true) : ∃ y, RelV y u ∧ RD K H d y := by
  rcases keyIs_shape e with ⟨i, t, rfl, rfl⟩ | ⟨x, t, rfl, rfl⟩
  · cases d <;> first | (cases h; exact ⟨.int _, ⟨_, rfl⟩, .int _⟩) | cases h
  · cases d <;> first | (cases h; exact ⟨.str _, ⟨_, rfl⟩, .str _⟩) | cases h
theorem nkey_hash (w : World) (k : Key) : (nkey k).hash w = keyH w k := by cases k <;> rfl
theorem nkey_dep (k : Key) : (nkey k).depth = 0 := by cases k <;> rfl
def RA (K : PySem.W.Frag) (H : Hp) (p : D × D) (q : Key × Value) : Prop := akey p.1 = some q.1 ∧ ∃ y, RelV y q.2 ∧ RD K H p.2 y
def RT (w : World) (K : PySem.W.Frag) (H : Hp) (p : D × D) (x : NestedKey × Addr × Value) : Prop := dkey p.1 = some x.1 ∧ x.1.depth ≤ 8 ∧ RD K H p.1 (.ref x.2.1) ∧ ∃ y, RelV y x.2.2 ∧ RD K H p.2 y
theorem toA {P : Program} {w : World} {K : PySem.W.Frag} : ∀ {kvs : List (D × D)} {es : List DictEntry}, Paired (REn K w H) kvs es → (∀ p ∈ kvs, isAt p.1 = true) →
    ∃ vs : List (Key × Value), Pairs (mixKind P w) es vs ∧ Paired (RA K H) kvs vs ∧ ∀ e ∈ es, ∃ k, (mixKind P w).is k e.key = true ∧ e.hash = (mixKind P w).hash k
  | _, _, .nil, _ => ⟨[], .nil, .nil, fun _ h => nomatch h⟩
  | _, _, .cons h t, a => by
    rename_i p e ps es
    obtain ⟨vs, q1, q2, q3⟩ := toA (P := P) t fun p hp => a p (List.mem_cons_of_mem _ hp)
    obtain ⟨⟨k, y, hk, _, hh, ry, rd⟩, z, rz, dz⟩ := h
    obtain ⟨k', e1, e2⟩ := akey_of (a p List.mem_cons_self)
    rw [hk] at e2
    cases e2
    have ki := akey_rel rd e1 ry
    refine ⟨(k', e.val) :: vs, .cons ki rfl q1, .cons ⟨e1, z, rz, dz⟩ q2, fun e' he => ?_⟩
    rcases List.mem_cons.mp he with rfl | he
    · exact ⟨k', ki, by rw [hh, nkey_hash]; rfl⟩
    · exact q3 e' he
theorem fromA {P : Program} {w : World} {K : PySem.W.Frag} : ∀ {kvs : List (D × D)} {es : List DictEntry} {vs : List (Key × Value)}, Pairs (mixKind P w) es vs → (∀ e ∈ es, ∃ k, (mixKind P w).is k e.key = true ∧ e.hash = (mixKind P w).hash k) →
    Paired (RA K H) kvs vs → Paired (REn K w H) kvs es
  | _, _, _, .nil, _, h => by cases h; exact .nil
  | _, _, _, .cons k1 k2 t, a, h => by
    rename_i e kv es vs
    cases h with
    | @cons p _ ps _ h1 h2 =>
      obtain ⟨e1, y, ry, dy⟩ := h1
      refine .cons ⟨?_, y, by rw [k2]; exact ry, dy⟩ (fromA t (fun e he => a e (List.mem_cons_of_mem _ he)) h2)
      obtain ⟨k', j1, j2⟩ := a e List.mem_cons_self
      have ee : k' = kv.1 := (mixKind P w).inj _ _ _ j1 k1
      subst ee
      obtain ⟨z, rz, dz⟩ := rel_akey (K := K) (H := H) e1 k1
      exact ⟨_, z, akey_dkey e1, by rw [nkey_dep]; omega, by rw [j2, nkey_hash]; rfl, rz, dz⟩
theorem toT (I : Inv X pins σ H s) : ∀ {kvs : List (D × D)} {es : List DictEntry}, Paired (REn X.K X.w H) kvs es → (∀ p ∈ kvs, isTu p.1 = true) →
    ∃ xs : List (NestedKey × Addr × Value), es = xs.map (entryOfKey (nestedKind X.prog X.w)) ∧ (∀ x ∈ xs, (nestedKind X.prog X.w).is s.heap x.1 x.2.1) ∧ Paired (RT X.w X.K H) kvs xs
  | _, _, .nil, _ => ⟨[], rfl, (fun _ h => nomatch h), .nil⟩
  | _, _, .cons h t, a => by
    rename_i p e ps es
    obtain ⟨xs, q1, q2, q3⟩ := toT I t fun p hp => a p (List.mem_cons_of_mem _ hp)
    obtain ⟨⟨k, y, hk, hd, hh, ry, rd⟩, z, rz, dz⟩ := h
    obtain ⟨p1, p2⟩ := p
    have ht := a _ List.mem_cons_self
    cases rd with
    | @tup b vs ds h1 h2 =>
      have hn := nested_of I (RD.tup h1 h2) hk ry
      cases ry' : e.key with
      | ref b' =>
        rw [ry'] at ry
        have eb : b' = b := by cases ry; rfl
        subst eb
        refine ⟨(k, b', e.val) :: xs, ?_, fun x hx => ?_, .cons ⟨hk, hd, .tup h1 h2, z, rz, dz⟩ q3⟩
        · rw [List.map_cons, ← q1]
          obtain ⟨e1, e2, e3⟩ := e
          dsimp only at ry' hh
          subst ry' hh
          rfl
        · rcases List.mem_cons.mp hx with rfl | hx
          · rw [ry'] at hn; exact ⟨hn, hd⟩
          · exact q2 x hx
      | _ => rw [ry'] at ry; cases ry
    | _ => cases ht
theorem fromT {P : Program} {w : World} {K : PySem.W.Frag} : ∀ {kvs : List (D × D)} {xs : List (NestedKey × Addr × Value)}, Paired (RT w K H) kvs xs → Paired (REn K w H) kvs (xs.map (entryOfKey (nestedKind P w)))
  | _, _, .nil => .nil
  | _, _, .cons (b := x) h t => by
    obtain ⟨a, b, c, y, ry, dy⟩ := h
    exact .cons ⟨⟨x.1, .ref x.2.1, a, b, rfl, (rfl : RelV (V.ref x.2.1) (Value.ref x.2.1)), c⟩, y, ry, dy⟩ (fromT t)
theorem nodup_A {K : PySem.W.Frag} : ∀ {kvs : List (D × D)} {vs : List (Key × Value)}, Paired (RA K H) kvs vs → (kvs.map fun p => dkey p.1) = vs.map fun q => some (nkey q.1)
  | _, _, .nil => rfl
  | _, _, .cons h t => by rw [List.map_cons, List.map_cons, nodup_A t, akey_dkey h.1]
theorem nodup_T {w : World} {K : PySem.W.Frag} : ∀ {kvs : List (D × D)} {xs : List (NestedKey × Addr × Value)}, Paired (RT w K H) kvs xs → (kvs.map fun p => dkey p.1) = xs.map fun q => some q.1
  | _, _, .nil => rfl
  | _, _, .cons h t => by rw [List.map_cons, List.map_cons, nodup_T t, h.1]
theorem nodup_inj {α β : Type} (f : α → β) (hf : ∀ a b, f a = f b → a = b) : ∀ {l : List α}, (l.map f).Nodup → l.Nodup
  | [], _ => List.nodup_nil
  | a :: l, h => by
    rw [List.map_cons, List.nodup_cons] at h
    refine List.nodup_cons.mpr ⟨fun m => h.1 (List.mem_map.mpr ⟨a, m, rfl⟩), nodup_inj f hf h.2⟩
theorem inj_nodup {α β : Type} (f : α → β) (hf : ∀ a b, f a = f b → a = b) : ∀ {l : List α}, l.Nodup → (l.map f).Nodup
  | [], _ => List.nodup_nil
  | a :: l, h => by
    rw [List.nodup_cons] at h
    rw [List.map_cons, List.nodup_cons]
    refine ⟨fun m => ?_, inj_nodup f hf h.2⟩
    obtain ⟨b, hb, e⟩ := List.mem_map.mp m
    rw [hf _ _ e] at hb
    exact h.1 hb
/-- the dict at a as the library has it -/
def RawAt (s : Shared) (a : Addr) (es : List DictEntry) : Prop := ∃ o ep, s.heap.get? a = some o ∧ o.ExactDict ∧ o.data = .dict es.toArray ep
theorem dct_A (I : Inv X pins σ H s) {a : Addr} {es : List DictEntry} {kvs : List (D × D)} (h : RawAt s a es) (p : Paired (REn X.K X.w H) kvs es) (nd : (kvs.map fun p => dkey p.1).Nodup) (at_ : ∀ p ∈ kvs, isAt p.1 = true) :
    ∃ vs, s.heap.DictOf (mixKind X.prog X.w) a vs ∧ Paired (RA X.K H) kvs vs := by
  obtain ⟨o, ep, h1, h2, h3⟩ := h
  obtain ⟨vs, q1, q2, q3⟩ := toA (P := X.prog) p at_
  refine ⟨vs, ⟨o, _, ep, h1, h2, h3, fun e he => q3 e (by simpa using he), by simpa using q1, ?_⟩, q2⟩
  rw [nodup_A q2] at nd
  have e : (vs.map fun q => some (nkey q.1)) = (vs.map (·.1)).map fun k => some (nkey k) := by rw [List.map_map]; rfl
  rw [e] at nd
  exact nodup_inj _ (fun a b q => nkey_inj (Option.some.inj q)) nd
theorem dct_T (I : Inv X pins σ H s) {a : Addr} {es : List DictEntry} {kvs : List (D × D)} (h : RawAt s a es) (p : Paired (REn X.K X.w H) kvs es) (nd : (kvs.map fun p => dkey p.1).Nodup) (tu : ∀ p ∈ kvs, isTu p.1 = true) :
    ∃ xs, s.heap.DictOfH (nestedKind X.prog X.w) a xs ∧ Paired (RT X.w X.K H) kvs xs := by
  obtain ⟨o, ep, h1, h2, h3⟩ := h
  obtain ⟨xs, q1, q2, q3⟩ := toT I p tu
  refine ⟨xs, ⟨o, _, ep, h1, h2, h3, by rw [← q1], q2, ?_⟩, q3⟩
  rw [nodup_T q3] at nd
  have e : (xs.map fun q => some q.1) = (xs.map (·.1)).map fun k => some k := by rw [List.map_map]; rfl
  rw [e] at nd
  exact nodup_inj _ (fun a b q => Option.some.inj q) nd
/-! ### looking up -/
def ROp (K : PySem.W.Frag) (H : Hp) : Option D → Option Value → Prop
  | some d, some u => ∃ y, RelV y u ∧ RD K H d y
  | none, none => True
  | _, _ => False
theorem look_A {K : PySem.W.Frag} (k : Key) : ∀ {kvs : List (D × D)} {vs : List (Key × Value)}, Paired (RA K H) kvs vs → ROp K H (lookK kvs (nkey k)) (valueAt vs k)
  | _, _, .nil => trivial
  | _, _, .cons h t => by
    rename_i p q ps qs
    have ih := look_A k t
    obtain ⟨e1, y, ry, dy⟩ := h
    have e2 := akey_dkey e1
    unfold lookK valueAt at ih ⊢
    rw [List.find?_cons, List.find?_cons]
    by_cases e : q.1 = k
    · have e3 : decide (dkey p.1 = some (nkey k)) = true := decide_eq_true (by rw [e2, e])
      rw [e3, decide_eq_true e]
      exact ⟨y, ry, dy⟩
    · have e3 : decide (dkey p.1 = some (nkey k)) = false := decide_eq_false fun z => by
        rw [e2] at z; exact e (nkey_inj (Option.some.inj z))
      rw [e3, decide_eq_false e]
      exact ih
theorem look_T {w : World} {K : PySem.W.Frag} (k : NestedKey) : ∀ {kvs : List (D × D)} {xs : List (NestedKey × Addr × Value)}, Paired (RT w K H) kvs xs → ROp K H (lookK kvs k) ((atKey xs k).map (·.2))
  | _, _, .nil => trivial
  | _, _, .cons h t => by
    rename_i p q ps qs
    have ih := look_T k t
    obtain ⟨e1, _, _, y, ry, dy⟩ := h
    unfold lookK atKey at ih ⊢
    rw [List.find?_cons, List.find?_cons]
    by_cases e : q.1 = k
    · have e3 : decide (dkey p.1 = some k) = true := decide_eq_true (by rw [e1, e])
      rw [e3, decide_eq_true e]
      exact ⟨y, ry, dy⟩
    · have e3 : decide (dkey p.1 = some k) = false := decide_eq_false fun z => by
        rw [e1] at z; exact e (Option.some.inj z)
      rw [e3, decide_eq_false e]
      exact ih
theorem ROp.isSome {K : PySem.W.Frag} {o : Option D} {u : Option Value} (h : ROp K H o u) : o.isSome = u.isSome := by
  cases o <;> cases u <;> first | rfl | exact (show False from h).elim
theorem repl_A {K : PySem.W.Frag} {k : Key} {v : D} {y : V} {u : Value} (ry : RelV y u) (dy : RD K H v y) : ∀ {kvs : List (D × D)} {vs : List (Key × Value)}, Paired (RA K H) kvs vs →
    Paired (RA K H) (kvs.map fun p => if dkey p.1 = some (nkey k) then (p.1, v) else p) (vs.map fun kv => if kv.1 = k then (kv.1, u) else kv)
  | _, _, .nil => .nil
  | _, _, .cons h t => by
    rename_i p q ps qs
    rw [List.map_cons, List.map_cons]
    refine .cons ?_ (repl_A ry dy t)
    have e2 := akey_dkey h.1
    by_cases e : q.1 = k
    · rw [if_pos (by rw [e2, e]), if_pos e]; exact ⟨h.1, y, ry, dy⟩
    · rw [if_neg (fun z => by rw [e2] at z; exact e (nkey_inj (Option.some.inj z))), if_neg e]; exact h
theorem put_A {K : PySem.W.Frag} {kd : D} {k : Key} {v : D} {y : V} {u : Value} (hk : akey kd = some k) (ry : RelV y u) (dy : RD K H v y) {kvs : List (D × D)} {vs : List (Key × Value)} (h : Paired (RA K H) kvs vs) :
    Paired (RA K H) (putKD kvs kd (nkey k) v) (stored vs k u) := by
  have e : hasK kvs (nkey k) = vs.any fun kv => decide (kv.1 = k) := by
    rw [hasK_isSome, (look_A k h).isSome]
    unfold valueAt
    rw [Option.isSome_map, List.isSome_find?]
  unfold putKD stored
  rw [e]
  by_cases q : (vs.any fun kv => decide (kv.1 = k)) = true
  · rw [if_pos q, if_pos q]; exact repl_A ry dy h
  · rw [if_neg q, if_neg q]; exact Paired.snoc h ⟨hk, y, ry, dy⟩
theorem repl_T {w : World} {K : PySem.W.Frag} {k : NestedKey} {v : D} {y : V} {u : Value} (ry : RelV y u) (dy : RD K H v y) : ∀ {kvs : List (D × D)} {xs : List (NestedKey × Addr × Value)}, Paired (RT w K H) kvs xs →
    Paired (RT w K H) (kvs.map fun p => if dkey p.1 = some k then (p.1, v) else p) (xs.map (putAt k u))
  | _, _, .nil => .nil
  | _, _, .cons h t => by
    rename_i p q ps qs
    rw [List.map_cons, List.map_cons]
    refine .cons ?_ (repl_T ry dy t)
    unfold putAt
    obtain ⟨h1, h2, h3, h4⟩ := h
    by_cases e : q.1 = k
    · rw [if_pos (by rw [h1, e]), if_pos e]; exact ⟨h1, h2, h3, y, ry, dy⟩
    · rw [if_neg (fun z => by rw [h1] at z; exact e (Option.some.inj z)), if_neg e]; exact ⟨h1, h2, h3, h4⟩
theorem put_T {w : World} {K : PySem.W.Frag} {kd : D} {k : NestedKey} {b : Addr} {v : D} {y : V} {u : Value} (hk : dkey kd = some k) (hd : k.depth ≤ 8) (rk : RD K H kd (.ref b)) (ry : RelV y u) (dy : RD K H v y) {kvs : List (D × D)}
    {xs : List (NestedKey × Addr × Value)} (h : Paired (RT w K H) kvs xs) : Paired (RT w K H) (putKD kvs kd k v) (storedH xs k b u) := by
  have e : hasK kvs k = (atKey xs k).isSome := by rw [hasK_isSome, (look_T k h).isSome, Option.isSome_map]
  unfold putKD storedH
  rw [e]
  by_cases q : (atKey xs k).isSome = true
  · rw [if_pos q, if_pos q]; exact repl_T ry dy h
  · rw [if_neg q, if_neg q]; exact Paired.snoc h ⟨hk, hd, rk, y, ry, dy⟩
/-- a tuple's value is an address -/
theorem tu_ref {K : PySem.W.Frag} {d : D} {v : V} {u : Value} (r : RD K H d v) (h : isTu d = true) (ru : RelV v u) : ∃ b, v = .ref b ∧ u = .ref b := by
  cases r <;> first | (cases ru; exact ⟨_, rfl, rfl⟩) | cases h

/-! ### what is asked of a dict, by values; M a = .dct kvs gives h1 .. -/
structure DAt (X : Cx) (H : Hp) (a : Addr) (kvs : List (D × D)) (es : List DictEntry) : Prop where
  at_ : ∀ {pins : List (Addr × Obj)} {σ : St} {s : Shared}, Inv X pins σ H s → RawAt s a es
  sys : (a == sysModules) = false
  sz : kvs.length ≤ sizeLine
  un : uni kvs
  nd : (kvs.map fun p => dkey p.1).Nodup
  en : Paired (REn X.K X.w H) kvs es
theorem raw_get (I : Inv X pins σ H s) {a : Addr} {o : Obj} (h : H a = some (rawO a o)) : s.heap.get? a = some o := (I.hok a _ h).1
theorem dct_at {M : MM} (m : RMx X H M) {a : Addr} {o : Obj} {kvs : List (D × D)} (h : M a = some (.dct o kvs)) : ∃ es ep, DAt X H a kvs es ∧ H a = some (rawO a o) ∧ o.ExactDict ∧ o.data = .dict es.toArray ep := by
  obtain ⟨es, ep, h1, g1, g2, h2, h3, hu, h4, h5⟩ := m a _ h
  exact ⟨es, ep, ⟨fun I => ⟨o, ep, raw_get I h1, g1, g2⟩, h2, h3, hu, h4, h5⟩, h1, g1, g2⟩
variable {A : Around} {E : Value → Shared → Prop} {a : Addr} {kvs : List (D × D)} {es : List DictEntry} {kd : D} {k : NestedKey} {y : V} {u : Value}
theorem g_item {v : D} {Q : Value → Shared → Prop} (hu : A.units + 64 < cLine) (I : Inv X pins σ H s) (d : DAt X H a kvs es) (ok : KOk kvs kd k) (r : RD X.K H kd y) (ru : RelV y u) (hv : lookK kvs k = some v)
    (h : ∀ z u' s', Inv X pins σ H s' → RelV z u' → RD X.K H v z → Q u' s') : wpAny (model X.prog X.w) A (getItem (.ref a) u) Q E s := by
  rcases ok.kd with ⟨h1, h2⟩ | ⟨h1, h2⟩
  · obtain ⟨vs, dd, rel⟩ := dct_A I (d.at_ I) d.en d.nd h2
    obtain ⟨k', e1, e2⟩ := akey_of h1
    have ek : k = nkey k' := Option.some.inj (ok.key.symm.trans e2)
    subst ek
    have l := look_A k' rel
    rw [hv] at l
    cases q : valueAt vs k' with
    | none => rw [q] at l; exact l.elim
    | some w' =>
      rw [q] at l
      obtain ⟨z, rz, dz⟩ := l
      exact wpAny_getItem_of (akey_rel r e1 ru) dd.mapOf q (h z w' _ (I.tok _) rz dz)
  · obtain ⟨xs, dd, rel⟩ := dct_T I (d.at_ I) d.en d.nd h2
    obtain ⟨b, rfl, rfl⟩ := tu_ref r h1 ru
    have l := look_T k rel
    rw [hv] at l
    cases q : atKey xs k with
    | none => rw [q] at l; exact l.elim
    | some w' =>
      rw [q] at l
      obtain ⟨z, rz, dz⟩ := l
      exact wpAny_getItem_heap (knd := nestedKind X.prog X.w) (by show A.in1.units + 8 < cLine; show A.units + 1 + 8 < cLine; omega) ⟨nested_of I r ok.key ru, ok.dp⟩ dd q (h z _ _ (I.tok _) rz dz)
theorem g_in {Q : Value → Shared → Prop} (hu : A.units + 64 < cLine) (I : Inv X pins σ H s) (d : DAt X H a kvs es) (ok : KOk kvs kd k) (r : RD X.K H kd y) (ru : RelV y u)
    (h : ∀ s', Inv X pins σ H s' → Q (.bool (lookK kvs k).isSome) s') : wpAny (model X.prog X.w) A (compareOp .In u (.ref a)) Q E s := by
  rcases ok.kd with ⟨h1, h2⟩ | ⟨h1, h2⟩
  · obtain ⟨vs, dd, rel⟩ := dct_A I (d.at_ I) d.en d.nd h2
    obtain ⟨k', e1, e2⟩ := akey_of h1
    have ek : k = nkey k' := Option.some.inj (ok.key.symm.trans e2)
    subst ek
    rw [(look_A k' rel).isSome] at h
    exact wpAny_in_of (akey_rel r e1 ru) d.sys dd.mapOf (h _ (I.tok _))
  · obtain ⟨xs, dd, rel⟩ := dct_T I (d.at_ I) d.en d.nd h2
    obtain ⟨b, rfl, rfl⟩ := tu_ref r h1 ru
    rw [(look_T k rel).isSome, Option.isSome_map] at h
    exact wpAny_in_heap (knd := nestedKind X.prog X.w) (by show A.units + 1 + 8 < cLine; omega) ⟨nested_of I r ok.key ru, ok.dp⟩ d.sys dd (h _ (I.tok _))
theorem g_notIn {Q : Value → Shared → Prop} (hu : A.units + 64 < cLine) (I : Inv X pins σ H s) (d : DAt X H a kvs es) (ok : KOk kvs kd k) (r : RD X.K H kd y) (ru : RelV y u)
    (h : ∀ s', Inv X pins σ H s' → Q (.bool (!(lookK kvs k).isSome)) s') : wpAny (model X.prog X.w) A (compareOp .NotIn u (.ref a)) Q E s := by
  rcases ok.kd with ⟨h1, h2⟩ | ⟨h1, h2⟩
  · obtain ⟨vs, dd, rel⟩ := dct_A I (d.at_ I) d.en d.nd h2
    obtain ⟨k', e1, e2⟩ := akey_of h1
    have ek : k = nkey k' := Option.some.inj (ok.key.symm.trans e2)
    subst ek
    rw [(look_A k' rel).isSome] at h
    exact wpAny_notIn_of (akey_rel r e1 ru) d.sys dd.mapOf (h _ (I.tok _))
  · obtain ⟨xs, dd, rel⟩ := dct_T I (d.at_ I) d.en d.nd h2
    obtain ⟨b, rfl, rfl⟩ := tu_ref r h1 ru
    rw [(look_T k rel).isSome, Option.isSome_map] at h
    exact wpAny_notIn_heap (knd := nestedKind X.prog X.w) (by show A.units + 1 + 8 < cLine; omega) ⟨nested_of I r ok.key ru, ok.dp⟩ d.sys dd (h _ (I.tok _))
theorem getD_rel {o : Option D} {ou : Option Value} {e : D} {ue : Value} (l : ROp X.K H o ou) (re : ∃ z, RelV z ue ∧ RD X.K H e z) : ∃ z, RelV z (ou.getD ue) ∧ RD X.K H (o.getD e) z := by
  cases o <;> cases ou <;> first | exact re | exact l | exact (show False from l).elim
theorem g_get {e : D} {z : V} {ue : Value} {Q : Value → Shared → Prop} (hu : A.units + 64 < cLine) (I : Inv X pins σ H s) (d : DAt X H a kvs es) (ok : KOk kvs kd k) (r : RD X.K H kd y) (ru : RelV y u) (re : RD X.K H e z) (rue : RelV z ue)
    (h : ∀ z' u' s', Inv X pins σ H s' → RelV z' u' → RD X.K H ((lookK kvs k).getD e) z' → Q u' s') : wpAny (model X.prog X.w) A (call (.builtin "dict.get") [.ref a, u, ue]) Q E s := by
  rcases ok.kd with ⟨h1, h2⟩ | ⟨h1, h2⟩
  · obtain ⟨vs, dd, rel⟩ := dct_A I (d.at_ I) d.en d.nd h2
    obtain ⟨k', e1, e2⟩ := akey_of h1
    have ek : k = nkey k' := Option.some.inj (ok.key.symm.trans e2)
    subst ek
    obtain ⟨z', rz, dz⟩ := getD_rel (look_A k' rel) ⟨z, rue, re⟩
    exact call_meetsIn F.slot_dict_get dd.typeIs F.entry_dict_get (F.args_dict_get_3 _ _ _) (meets_dict_get_default (mixKind X.prog X.w) a (akey_rel r e1 ru) d.sys ue) ⟨_, dd.mapOf, h z' _ _ (I.tok _) rz dz⟩
  · obtain ⟨xs, dd, rel⟩ := dct_T I (d.at_ I) d.en d.nd h2
    obtain ⟨b, rfl, rfl⟩ := tu_ref r h1 ru
    obtain ⟨z', rz, dz⟩ := getD_rel (look_T k rel) ⟨z, rue, re⟩
    exact call_meetsIn F.slot_dict_get dd.typeIs F.entry_dict_get (F.args_dict_get_3 _ _ _) (meetsH_dict_get_default (nestedKind X.prog X.w) a b d.sys ue)
      ⟨by show A.units + 1 + 8 < cLine; omega, k, xs, ⟨nested_of I r ok.key ru, ok.dp⟩, dd, h z' _ _ (I.tok _) rz dz⟩
theorem g_get1 {Q : Value → Shared → Prop} (hu : A.units + 64 < cLine) (I : Inv X pins σ H s) (d : DAt X H a kvs es) (ok : KOk kvs kd k) (r : RD X.K H kd y) (ru : RelV y u)
    (h : ∀ z' u' s', Inv X pins σ H s' → RelV z' u' → RD X.K H ((lookK kvs k).getD .non) z' → Q u' s') : wpAny (model X.prog X.w) A (call (.builtin "dict.get") [.ref a, u]) Q E s := by
  rcases ok.kd with ⟨h1, h2⟩ | ⟨h1, h2⟩
  · obtain ⟨vs, dd, rel⟩ := dct_A I (d.at_ I) d.en d.nd h2
    obtain ⟨k', e1, e2⟩ := akey_of h1
    have ek : k = nkey k' := Option.some.inj (ok.key.symm.trans e2)
    subst ek
    obtain ⟨z', rz, dz⟩ := getD_rel (look_A k' rel) ⟨.non, (rfl : RelV V.non Value.none), RD.non⟩
    exact call_meetsIn F.slot_dict_get dd.typeIs F.entry_dict_get (F.args_dict_get_2 _ _) (meets_dict_get (mixKind X.prog X.w) a (akey_rel r e1 ru) d.sys) ⟨_, dd.mapOf, h z' _ _ (I.tok _) rz dz⟩
  · obtain ⟨xs, dd, rel⟩ := dct_T I (d.at_ I) d.en d.nd h2
    obtain ⟨b, rfl, rfl⟩ := tu_ref r h1 ru
    obtain ⟨z', rz, dz⟩ := getD_rel (look_T k rel) ⟨.non, (rfl : RelV V.non Value.none), RD.non⟩
    exact call_meetsIn F.slot_dict_get dd.typeIs F.entry_dict_get (F.args_dict_get_2 _ _) (meetsH_dict_get (nestedKind X.prog X.w) a b d.sys)
      ⟨by show A.units + 1 + 8 < cLine; omega, k, xs, ⟨nested_of I r ok.key ru, ok.dp⟩, dd, h z' _ _ (I.tok _) rz dz⟩
/-- a dict's object, new -/
theorem raw_ok {P : Program} {w : World} {H' : Hp} {h' : Heap} {o : Obj} (h1 : h'.get? a = some o) : ObjOk P w H' h' a (rawO a o) :=
  ⟨h1, ⟨o, h1⟩, fun g1 g2 e k => k _ e⟩
theorem g_set {v : D} {z : V} {uv : Value} {Q : Unit → Shared → Prop} {o : Obj} (hu : A.units + 64 < cLine) (I : Inv X pins σ H s) (d : DAt X H a kvs es) (hH : H a = some (rawO a o)) (ok : KOk kvs kd k) (hz : kvs.length < sizeLine) (r : RD X.K H kd y) (ru : RelV y u) (rv : RD X.K H v z) (rvu : RelV z uv)
    (h : ∀ o' es' ep' s', Inv X pins σ (upd H a (rawO a o')) s' → o'.ExactDict → o'.data = .dict es'.toArray ep' → Paired (REn X.K X.w H) (putKD kvs kd k v) es' → Q () s') : wpAny (model X.prog X.w) A (setItem (.ref a) u uv) Q E s := by
  rcases ok.kd with ⟨h1, h2⟩ | ⟨h1, h2⟩
  · obtain ⟨vs, dd, rel⟩ := dct_A I (d.at_ I) d.en d.nd h2
    obtain ⟨k', e1, e2⟩ := akey_of h1
    have ek : k = nkey k' := Option.some.inj (ok.key.symm.trans e2)
    subst ek
    refine wpAny_setItem_pairs (hsz := by rw [← Paired.length rel]; omega) (akey_rel r e1 ru) dd fun h' dd' hs => ?_
    obtain ⟨o, es', ep, g1, g2, g3, g4, g5, g6⟩ := dd'
    exact h o es'.toList ep _ (d_write (t' := _) I (by rw [hH]; trivial) hs ⟨o, g1⟩ (raw_ok g1)) g2 (by rw [g3]) (fromA g5 (fun e he => g4 e (by simpa using he)) (put_A e1 rvu rv rel))
  · obtain ⟨xs, dd, rel⟩ := dct_T I (d.at_ I) d.en d.nd h2
    obtain ⟨b, rfl, rfl⟩ := tu_ref r h1 ru
    refine wpAny_setItem_heap (knd := nestedKind X.prog X.w) (hsz := by rw [← Paired.length rel]; omega) (by show A.units + 1 + 8 < cLine; omega) ⟨nested_of I r ok.key ru, ok.dp⟩ dd fun h' dd' hs => ?_
    obtain ⟨o, es', ep, g1, g2, g3, g4, g5, g6⟩ := dd'
    refine h o es'.toList ep _ (d_write (t' := _) I (by rw [hH]; trivial) hs ⟨o, g1⟩ (raw_ok g1)) g2 (by rw [g3]) ?_
    rw [g4]
    exact fromT (put_T ok.key ok.dp r rvu rv rel)
end
/-- the keys stay unlike -/
theorem put_nodup {kvs : List (D × D)} {kd : D} {k : NestedKey} {v : D} (hk : dkey kd = some k) (nd : (kvs.map fun p => dkey p.1).Nodup) : ((putKD kvs kd k v).map fun p => dkey p.1).Nodup := by
  unfold putKD
  by_cases q : hasK kvs k = true
  · rw [if_pos q, List.map_map]
    have e : ((fun p : D × D => dkey p.1) ∘ fun p => if dkey p.1 = some k then (p.1, v) else p) = fun p => dkey p.1 := by
      funext p
      show dkey (if dkey p.1 = some k then (p.1, v) else p).1 = dkey p.1
      split <;> rfl
    rw [e]; exact nd
  · rw [if_neg q, List.map_append, List.map_cons, List.map_nil]
    refine List.nodup_append.mpr ⟨nd, by simp, fun a ha b hb => ?_⟩
    rw [List.mem_singleton] at hb
    subst hb
    intro e
    obtain ⟨p, hp, e2⟩ := List.mem_map.mp ha
    refine q (List.any_eq_true.mpr ⟨p, hp, decide_eq_true ?_⟩)
    rw [e2, e, hk]
theorem put_mem {kvs : List (D × D)} {kd : D} {k : NestedKey} {v : D} {p : D × D} (h : p ∈ putKD kvs kd k v) : p.1 = kd ∨ ∃ q ∈ kvs, q.1 = p.1 := by
  unfold putKD at h
  by_cases q : hasK kvs k = true
  · rw [if_pos q] at h
    obtain ⟨r, hr, e⟩ := List.mem_map.mp h
    refine .inr ⟨r, hr, ?_⟩
    subst e
    split <;> rfl
  · rw [if_neg q] at h
    rcases List.mem_append.mp h with h | h
    · exact .inr ⟨p, h, rfl⟩
    · rw [List.mem_singleton] at h
      subst h
      exact .inl rfl
theorem put_uni {kvs : List (D × D)} {kd : D} {k : NestedKey} {v : D} (ok : KOk kvs kd k) : uni (putKD kvs kd k v) := by
  rcases ok.kd with ⟨h1, h2⟩ | ⟨h1, h2⟩
  · refine .inl fun p hp => ?_
    rcases put_mem hp with e | ⟨q, hq, e⟩
    · rw [e]; exact h1
    · rw [← e]; exact h2 q hq
  · refine .inr fun p hp => ?_
    rcases put_mem hp with e | ⟨q, hq, e⟩
    · rw [e]; exact h1
    · rw [← e]; exact h2 q hq
end Fg
/-! Fg4: items, slices, membership, built-in calls and methods over data. -/
namespace Fg
open PySem PySem.Spec L2
open PyProof.Rows hiding St
/-! ### items -/
def dIx : OD := fun x y M Q => match x with
  | .tup ds => ∃ i v, y = .int i ∧ atI ds i = some v ∧ Q v M
  | .rol ds => ∃ i v, y = .int i ∧ atI ds i = some v ∧ Q v M
  | .str z => ∃ i c, y = .int i ∧ z.length ≤ sizeLine ∧ atI z.cps.toList i = some c ∧ Q (.str ⟨#[c]⟩) M
  | .ref a => match M a with
    | some (.lst ds) => ∃ i v, y = .int i ∧ atI ds i = some v ∧ Q v M
    | some (.dct _ kvs) => ∃ k v, KOk kvs y k ∧ lookK kvs k = some v ∧ Q v M
    | _ => False
  | _ => False
theorem RDs.at {K : PySem.W.Frag} {H : Hp} {ds : List D} {vs : List V} (r : RDs K H ds vs) {i : Int} {d : D} (h : atI ds i = some d) : ∃ v, atI vs i = some v ∧ RD K H d v := by
  unfold atI at h ⊢
  rw [← r.length]
  cases e : ixN ds.length i with
  | none => rw [e] at h; cases h
  | some j =>
    rw [e] at h
    exact r.get h
section
variable {X : Cx}
theorem ix_dIx (hu : X.A.units + 64 < cLine) : IxR X (upO X dIx) := by
  intro value slice pins s σ H x y v u Q I rx ry h hs
  obtain ⟨d, f, M, Q0, r1, r2, m, t, q⟩ := h
  unfold dIx at t
  cases r1 with
  | @tup a vs ds h1 h2 =>
    obtain ⟨i, w, rfl, e, t⟩ := t
    cases r2
    obtain ⟨z, ez, dz⟩ := h2.at e
    exact ix_tup value slice pins s σ H _ _ v u Q I rx ry ⟨a, vs, i, z, rfl, rfl, h1, ez, q _ M t z H (Stb.refl H) dz m⟩ hs
  | @rol a vs ds h1 h2 =>
    obtain ⟨i, w, rfl, e, t⟩ := t
    cases r2
    obtain ⟨z, ez, dz⟩ := h2.at e
    exact ix_list value slice pins s σ H _ _ v u Q I rx ry ⟨a, vs, i, z, rfl, rfl, h1.sq, ez, q _ M t z H (Stb.refl H) dz m⟩ hs
  | str z =>
    obtain ⟨i, c, rfl, e1, e, t⟩ := t
    cases r2
    exact ix_str value slice pins s σ H _ _ v u Q I rx ry ⟨z, i, c, rfl, rfl, e1, e, q _ M t _ H (Stb.refl H) (.str _) m⟩ hs
  | ref a =>
    cases em : M a with
    | none => simp only [em] at t
    | some o =>
      cases o with
      | lst ds =>
        simp only [em] at t
        obtain ⟨i, w, rfl, e, t⟩ := t
        cases r2
        obtain ⟨vs, h1, h2⟩ := m a _ em
        obtain ⟨z, ez, dz⟩ := h2.at e
        exact ix_list value slice pins s σ H _ _ v u Q I rx ry ⟨a, vs, i, z, rfl, rfl, SqL.of h1, ez, q _ M t z H (Stb.refl H) dz m⟩ hs
      | dct ob kvs =>
        simp only [em] at t
        obtain ⟨k, w, ok, e, t⟩ := t
        obtain ⟨es, ep, da, hH, hx, hdd⟩ := dct_at m em
        have hT : s.TypeIs (.ref a) "dict" := let ⟨o, ep, h1, h2, _⟩ := da.at_ I; ⟨o, h1, h2.1⟩
        obtain rfl : v = Value.ref a := rx
        refine tail_any hT slot_dict_getitem.lookup (g_item hu I da ok r2 ry e fun z u' s' I' rz dz => ?_) hs
        exact ⟨z, H, I', rz, q _ M t z H (Stb.refl H) dz m⟩
      | ins _ _ => simp only [em] at t
      | xd _ _ => simp only [em] at t
  | _ => exact t.elim
end
/-! ### slices -/
def cutL (ds : List D) (lo hi : Option Int) : List D := (ds.drop (HT.sIx ds.length 0 lo)).take (HT.sIx ds.length ds.length hi - HT.sIx ds.length 0 lo)
theorem RDs.cut {K : PySem.W.Frag} {H : Hp} {ds : List D} {vs : List V} (r : RDs K H ds vs) (lo hi : Option Int) : RDs K H (cutL ds lo hi) (cutV vs lo hi) := by
  unfold cutL cutV
  rw [← r.length]
  exact (r.drop _).take _
abbrev SD := D → Option Int → Option Int → MM → QD → Prop
def dSl : SD := fun x lo hi M Q => match x with
  | .tup ds => Q (.tup (cutL ds lo hi)) M
  | .str z => z.length ≤ sizeLine ∧ Q (.str (cutS z lo hi)) M
  | x => ∃ ds, lstOf M x = some ds ∧ ∀ p, M p = none → Q (.ref p) (up M p (.lst (cutL ds lo hi)))
def upSl (X : Cx) (o : SD) : V → Option Int → Option Int → Hp → VK → Prop := fun x lo hi H Q => ∃ d M Q0, RD X.K H d x ∧ RMx X H M ∧ o d lo hi M Q0 ∧ ∀ z M', Q0 z M' → ∀ v H', Stb H H' → RD X.K H' z v → RMx X H' M' → Q v H'
theorem cut_whole {ds : List D} {lo hi : Option Int} (h : HT.sIx ds.length 0 lo = 0 ∧ HT.sIx ds.length ds.length hi = ds.length) : cutL ds lo hi = ds := by
  unfold cutL
  rw [h.1, h.2, List.drop_zero, Nat.sub_zero, List.take_length]
section
variable {X : Cx}
theorem sl_dSl : SlR X (upSl X dSl) := by
  intro pins s σ H x v vl vu lo hi sl Q I rx hs pl pu h
  obtain ⟨d, M, Q0, r, m, t, q⟩ := h
  have lists : ∀ {ds : List D}, lstOf M d = some ds → (∀ p, M p = none → Q0 (.ref p) (up M p (.lst (cutL ds lo hi)))) → ∃ T id, typeLookup (.type T) "__getitem__" = pure (some (.builtin id)) ∧ s.TypeIs v T ∧ wpAny (model X.prog X.w) X.A (getItem v (.ref sl)) (EP X pins σ Q) X.xe s := by
    intro ds e t
    obtain ⟨a, vs, rfl, h1, h2⟩ := lstOf_sq m r e
    refine sl_list pins s σ H _ v vl vu lo hi sl Q I rx hs pl pu ⟨a, vs, rfl, h1, fun p hp => ?_⟩
    exact q _ _ (t p (m.fresh hp)) _ _ (Stb.new hp) (.ref p) (m.new hp ⟨_, upd_same, RDs.stb (Stb.new hp) (h2.cut lo hi)⟩)
  unfold dSl at t
  cases r with
  | @tup a vs ds h1 h2 =>
    have t' : Q0 (.tup (cutL ds lo hi)) M := t
    cases rx
    obtain ⟨its, rv, ht, hz⟩ := I.tuple h1.t
    have hlen : its.toArray.size = vs.length := by rw [List.size_toArray]; exact rv.length.symm
    refine ⟨"tuple", _, PyProof.Rows.slot_tuple_getitem.lookup, ht.typeIs, ?_⟩
    by_cases hw : HT.sIx vs.length 0 lo = 0 ∧ HT.sIx vs.length vs.length hi = vs.length
    · rw [cut_whole (by rw [h2.length]; exact hw)] at t'
      exact getItem_tuple_whole ht hs pl pu (by rw [hlen]; exact hw) ⟨.ref a, H, I, rfl, q _ M t' _ H (Stb.refl H) (.tup h1 h2) m⟩
    · refine HT.getItem_tuple_cut ht hs pl pu (by rw [hlen]; exact hw) ?_ (by rw [hlen]; exact hz)
      rw [hlen]
      have hp := I.hok.fresh (Nat.le_refl s.heap.objs.size)
      have rc : Vals (cutV vs lo hi) ((its.drop (HT.sIx vs.length 0 lo)).take (HT.sIx vs.length vs.length hi - HT.sIx vs.length 0 lo)) := (rv.drop _).take _
      refine ⟨.ref s.heap.objs.size, _, I.laid (t' := s.toks) (fun c oc w => Heap.get?_push_of_some _ w) (Nat.le_refl _) (tup_ok (Heap.get?_push_size _ rfl) rc (Nat.le_trans (cutV_length vs lo hi) hz)), rfl, ?_⟩
      exact q _ M t' _ _ (Stb.new hp) (.tup sqN_new (RDs.stb (Stb.new hp) (h2.cut lo hi))) (m.laid hp)
  | str z =>
    exact sl_str pins s σ H _ v vl vu lo hi sl Q I rx hs pl pu ⟨z, rfl, t.1, q _ M t.2 _ H (Stb.refl H) (.str _) m⟩
  | ref a => obtain ⟨ds, e, t⟩ := t; exact lists e t
  | @rol a vs ds h1 h2 => obtain ⟨ds, e, t⟩ := t; exact lists e t
  | _ => obtain ⟨ds, e, t⟩ := t; cases e
end
/-! ### in -/
/-- one text in another -/
def inStr (i j : Str) : Bool := !(Builtin.Str.occurrences j i 0 j.length 1).isEmpty
theorem inStr_one (c : Nat) (z : Str) : inStr ⟨#[c]⟩ z = decide (c ∈ z.cps.toList) := (PySem.StrLaws.found_one z c)
def anyEq (ds : List D) (x : D) : Bool := ds.any fun y => eqD y x
def dIn : OD := fun x y M Q => match y with
  | .str j => ∃ i, x = .str i ∧ Q (.bl (inStr i j)) M
  | .tup ds => dat x = true ∧ dats ds = true ∧ min (deps ds) (dep x) ≤ 60 ∧ Q (.bl (anyEq ds x)) M
  | .rol ds => dat x = true ∧ dats ds = true ∧ min (deps ds) (dep x) ≤ 60 ∧ Q (.bl (anyEq ds x)) M
  | .ref a => match M a with
    | some (.lst ds) => dat x = true ∧ dats ds = true ∧ min (deps ds) (dep x) ≤ 60 ∧ Q (.bl (anyEq ds x)) M
    | some (.dct _ kvs) => ∃ k, KOk kvs x k ∧ Q (.bl (lookK kvs k).isSome) M
    | _ => False
  | _ => False
def dNotIn : OD := fun x y M Q => dIn x y M fun z M' => match z with
  | .bl b => Q (.bl (!b)) M'
  | _ => False
theorem any_toPs (ds : List D) (x : D) : ((toPs ds).any fun y => PyData.eqv y (toP x)) = anyEq ds x := by
  rw [toPs_map, List.any_map]; rfl
section
variable {X : Cx}
theorem in_run {op : CmpOp} {g : Bool → Bool} {o : OD} (ho : ∀ x y M Q, o x y M Q → dIn x y M fun z M' => match z with
      | .bl b => Q (.bl (g b)) M'
      | _ => False)
    (hS : ∀ (i j : Str) (t u : Tok) (Q : Value → Shared → Prop) (s : Shared), Q (.bool (g (inStr i j))) s → wpAny (model X.prog X.w) X.A (compareOp op (.str i t) (.str j u)) Q X.xe s)
    (hL : ∀ {c x : Value} {xs : List PyData} {d : PyData} {as bs : List Addr} {Q : Value → Shared → Prop} {s : Shared}, PySem.Reads s.heap c (.list xs) as → PySem.Reads s.heap x d bs → PyData.plainAll xs = true → d.plain = true →
      X.A.units + 1 + min (PyData.depthAll xs) d.depth < cLine → Q (.bool (g (xs.any fun y => PyData.eqv y d))) s → wpAny (model X.prog X.w) X.A (compareOp op x c) Q X.xe s)
    (hT : ∀ {c x : Value} {xs : List PyData} {d : PyData} {as bs : List Addr} {Q : Value → Shared → Prop} {s : Shared}, PySem.Reads s.heap c (.tuple xs) as → PySem.Reads s.heap x d bs → PyData.plainAll xs = true → d.plain = true →
      X.A.units + 1 + min (PyData.depthAll xs) d.depth < cLine → Q (.bool (g (xs.any fun y => PyData.eqv y d))) s → wpAny (model X.prog X.w) X.A (compareOp op x c) Q X.xe s)
    (hD : ∀ {pins : List (Addr × Obj)} {σ : St} {H : Hp} {s : Shared} {a : Addr} {kvs : List (D × D)} {es : List DictEntry} {kd : D} {k : NestedKey} {y : V} {u : Value} {Q : Value → Shared → Prop}, Inv X pins σ H s → DAt X H a kvs es → KOk kvs kd k → RD X.K H kd y → RelV y u →
      (∀ s', Inv X pins σ H s' → Q (.bool (g (lookK kvs k).isSome)) s') → wpAny (model X.prog X.w) X.A (compareOp op u (.ref a)) Q X.xe s)
    (hu : X.A.units + 64 < cLine) : OpR X (compareOp op) (upO X o) := by
  intro pins s σ H x y v u Q I rx ry h
  obtain ⟨d, f, M, Q0, r1, r2, m, t, q⟩ := h
  have t2 := ho _ _ _ _ t
  clear t
  have fin : ∀ (b : Bool) (s' : Shared), Inv X pins σ H s' → Q0 (.bl (g b)) M → EP X pins σ Q (.bool (g b)) s' := fun b s' I' z => ⟨.bl _, H, I', rfl, q _ M z _ H (Stb.refl H) (.bl _) m⟩
  have room : ∀ {ds : List D}, min (deps ds) (dep d) ≤ 60 → X.A.units + 1 + min (PyData.depthAll (toPs ds)) (toP d).depth < cLine := fun {ds} z => by
    rw [dep_toPs, dep_toP]; omega
  unfold dIn at t2
  cases r2 with
  | str j =>
    obtain ⟨i, rfl, t⟩ := t2
    cases r1
    obtain ⟨t1, rfl⟩ := rx
    obtain ⟨t2, rfl⟩ := ry
    exact hS i j _ _ _ _ (fin _ _ I t)
  | @tup a vs ds h1 h2 =>
    obtain ⟨e1, e2, e3, t⟩ := t2
    obtain ⟨as, q1⟩ := reads_of I r1 e1 rx
    obtain ⟨bs, q2⟩ := reads_of I (RD.tup h1 h2) (show dat (.tup ds) = true from e2) ry
    exact hT q2 q1 (plain_toPs ds) (plain_toP d) (room e3) (by rw [any_toPs]; exact fin _ _ I t)
  | @rol a vs ds h1 h2 =>
    obtain ⟨e1, e2, e3, t⟩ := t2
    obtain ⟨as, q1⟩ := reads_of I r1 e1 rx
    obtain ⟨bs, q2⟩ := reads_of I (RD.rol h1 h2) (show dat (.rol ds) = true from e2) ry
    exact hL q2 q1 (plain_toPs ds) (plain_toP d) (room e3) (by rw [any_toPs]; exact fin _ _ I t)
  | ref a =>
    cases em : M a with
    | none => simp only [em] at t2
    | some ob =>
      cases ob with
      | lst ds =>
        simp only [em] at t2
        obtain ⟨e1, e2, e3, t⟩ := t2
        obtain ⟨as, q1⟩ := reads_of I r1 e1 rx
        obtain ⟨bs, q2⟩ := asD_reads (e := .rol ds) I m (RD.ref a) (by unfold asD; rw [lstOf_ref em]; exact if_pos e2) ry
        exact hL q2 q1 (plain_toPs ds) (plain_toP d) (room e3) (by rw [any_toPs]; exact fin _ _ I t)
      | dct ob kvs =>
        simp only [em] at t2
        obtain ⟨k, ok, t⟩ := t2
        obtain ⟨es, ep, da, hH, hx, hdd⟩ := dct_at m em
        obtain rfl : u = Value.ref a := ry
        exact hD I da ok r1 rx fun s' I' => fin _ _ I' t
      | ins _ _ => simp only [em] at t2
      | xd _ _ => simp only [em] at t2
  | _ => exact t2.elim
theorem op_dIn (hu : X.A.units + 64 < cLine) : OpR X (compareOp .In) (upO X dIn) :=
  in_run (g := fun b => b) (fun x y M Q h => by
    have e : (fun z M' => match z with
      | .bl b => Q (.bl b) M'
      | _ => False) = fun (z : D) (M' : MM) => match z with
      | .bl b => Q (.bl b) M'
      | _ => False := rfl
    unfold dIn at h ⊢
    cases y with
    | ref a =>
      cases em : M a with
      | none => simp only [em] at h
      | some ob => cases ob <;> simp only [em] at h ⊢ <;> exact h
    | _ => exact h) (fun _ _ _ _ _ _ h => PyProof.Rows.in_str h) (fun a b c d e h => PySem.SeqAt.in_list_data a b c d e h) (fun a b c d e h => PySem.SeqAt.in_tuple_data a b c d e h) (fun I d ok r ru h => g_in hu I d ok r ru h) hu
theorem op_dNotIn (hu : X.A.units + 64 < cLine) : OpR X (compareOp .NotIn) (upO X dNotIn) :=
  in_run (g := fun b => !b) (fun x y M Q h => h) (fun _ _ _ _ _ _ h => PyProof.Rows.notIn_str h) (fun a b c d e h => PySem.SeqAt.notIn_list_data a b c d e h) (fun a b c d e h => PySem.SeqAt.notIn_tuple_data a b c d e h) (fun I d ok r ru h => g_notIn hu I d ok r ru h) hu
end
/-! ### o[i] = v -/
def dSetI (o i v : D) (M : MM) (Q : MM → Prop) : Prop := match o with
  | .ref a => match M a with
    | some (.lst ds) => ∃ k j, i = .int k ∧ ixN ds.length k = some j ∧ Q (up M a (.lst (ds.set j v)))
    | some (.dct _ kvs) => ∃ k, KOk kvs i k ∧ kvs.length < sizeLine ∧ ∀ o', Q (up M a (.dct o' (putKD kvs i k v)))
    | _ => False
  | _ => False
def upSet (X : Cx) : TSet := fun o i v H Q => ∃ od id vd M Q0, RD X.K H od o ∧ RD X.K H id i ∧ RD X.K H vd v ∧ RMx X H M ∧ dSetI od id vd M Q0 ∧ ∀ M', Q0 M' → ∀ H', Stb H H' → RMx X H' M' → Q H'
theorem set_dSetI {X : Cx} (hu : X.A.units + 64 < cLine) : PSet X (upSet X) := by
  intro pins s σ H o i v ov iv u Q I ro ri rv h
  obtain ⟨od, id, vd, M, Q0, r1, r2, r3, m, t, q⟩ := h
  unfold dSetI at t
  cases r1 with
  | ref a =>
    cases em : M a with
    | none => simp only [em] at t
    | some ob =>
      cases ob with
      | lst ds =>
        simp only [em] at t
        obtain ⟨k, j, rfl, e, t⟩ := t
        cases r2
        obtain ⟨vs, h1, h2⟩ := m a _ em
        refine set_list pins s σ H _ _ _ ov iv u Q I ro ri rv ⟨a, vs, k, j, rfl, rfl, h1, by rw [← h2.length]; exact e, ?_⟩
        have mu : Mut (H a) := by rw [h1]; trivial
        exact q _ t _ (Stb.mut mu) (m.mut mu ⟨_, upd_same, RDs.stb (Stb.mut mu) (h2.set r3 j)⟩)
      | dct ob kvs =>
        simp only [em] at t
        obtain ⟨k, ok, hz, t⟩ := t
        obtain ⟨es, ep, da, hH, hx, hdd⟩ := dct_at m em
        obtain rfl : ov = Value.ref a := ro
        refine g_set hu I da hH ok hz r2 ri r3 rv fun o' es' ep' s' I' x1 x2 p => ⟨_, I', ?_⟩
        have mu : Mut (H a) := by rw [hH]; trivial
        refine q _ (t o') _ (Stb.mut mu) (m.mut mu ⟨es', ep', upd_same, x1, x2, da.sys, ?_, put_uni ok, put_nodup ok.key da.nd, Paired.mapP p fun _ _ z => z.stb (Stb.mut mu)⟩)
        exact Nat.le_trans (putKD_length kvs id k vd) hz
      | ins _ _ => simp only [em] at t
      | xd _ _ => simp only [em] at t
  | _ => exact t.elim
/-! ### built-in calls -/
def cAbs : CD := fun xs M Q => ∃ i, xs = [.int i] ∧ Q (.int (if i < 0 then -i else i)) M
def cMax : CD := fun xs M Q => ∃ i j, xs = [.int i, .int j] ∧ Q (.int (if j > i then j else i)) M
def cMin : CD := fun xs M Q => ∃ i j, xs = [.int i, .int j] ∧ Q (.int (if j < i then j else i)) M
def cInt : CD := fun xs M Q => match xs with
  | [.int i] => Q (.int i) M
  | [.bl k] => Q (.int (if k then 1 else 0)) M
  | [.str a] => ∃ n, PySem.intText? a = some n ∧ a.length ≤ 640 ∧ Q (.int n) M
  | _ => False
def cStr : CD := fun xs M Q => match xs with
  | [.int i] => i.natAbs.log2 < 1920 ∧ Q (.str (toString i)) M
  | [.str a] => Q (.str a) M
  | _ => False
/-- how many -/
def lenD (M : MM) : D → Option Nat
  | .tup ds => some ds.length
  | .rol ds => some ds.length
  | .str z => if z.length ≤ sizeLine then some z.length else none
  | .ref a => match M a with
    | some (.lst ds) => some ds.length
    | some (.dct _ kvs) => some kvs.length
    | _ => none
  | _ => none
def cLen : CD := fun xs M Q => ∃ x n, xs = [x] ∧ lenD M x = some n ∧ Q (.int n) M
/-- what is walked: the items -/
def itemsOf (M : MM) : D → Option (List D)
  | .tup ds => some ds
  | .rol ds => some ds
  | .ref a => match M a with
    | some (.lst ds) => some ds
    | _ => none
  | _ => none
def cList : CD := fun xs M Q => ∃ x ds, xs = [x] ∧ itemsOf M x = some ds ∧ ∀ p, M p = none → Q (.ref p) (up M p (.lst ds))
def cTuple : CD := fun xs M Q => ∃ x ds, xs = [x] ∧ itemsOf M x = some ds ∧ Q (.tup ds) M
def cAll : CD := fun xs M Q => ∃ (x : D) (bs : List Bool), xs = [x] ∧ lstOf M x = some (bs.map D.bl) ∧ Q (.bl (bs.all id)) M
def cAny : CD := fun xs M Q => ∃ (x : D) (bs : List Bool), xs = [x] ∧ lstOf M x = some (bs.map D.bl) ∧ Q (.bl (bs.any id)) M
def cSum : CD := fun xs M Q => ∃ (x : D) (ns : List Int), xs = [x] ∧ lstOf M x = some (ns.map D.int) ∧ Q (.int ns.sum) M
/-- the type of a value -/
def tyOf (M : MM) : D → Option String
  | .non => some "NoneType"
  | .bl _ => some "bool"
  | .int _ => some "int"
  | .str _ => some "str"
  | .tup _ => some "tuple"
  | .rol _ => some "list"
  | .ref a => match M a with
    | some (.lst _) => some "list"
    | _ => none
  | .ty _ => none
def isTy (t n : String) : Bool := decide (t = n) || (decide (t = "bool") && decide (n = "int"))
def knownTy (n : String) : Bool := decide (n = "int") || (decide (n = "bool") || (decide (n = "str") || (decide (n = "list") || decide (n = "tuple"))))
theorem kit_known {t n : String} {M : MM} {d : D} (h : tyOf M d = some t) (hn : knownTy n = true) : kitB t n = some (isTy t n) := by
  have ht : t = "NoneType" ∨ t = "bool" ∨ t = "int" ∨ t = "str" ∨ t = "tuple" ∨ t = "list" := by
    cases d with
    | ref a =>
      unfold tyOf at h
      cases em : M a with
      | none => simp only [em] at h; cases h
      | some o => cases o <;> simp only [em] at h <;> first | (injection h with h; subst h; simp) | cases h
    | ty n => cases h
    | _ => injection h with h; subst h; simp
  have hn' : n = "int" ∨ n = "bool" ∨ n = "str" ∨ n = "list" ∨ n = "tuple" := by simpa [knownTy] using hn
  rcases ht with rfl | rfl | rfl | rfl | rfl | rfl <;> rcases hn' with rfl | rfl | rfl | rfl | rfl <;> decide +kernel
def cIsi : CD := fun xs M Q => match xs with
  | [x, .ty n] => knownTy n = true ∧ ∃ t, tyOf M x = some t ∧ Q (.bl (isTy t n)) M
  | _ => False
section
variable {X : Cx}
theorem tyx_of {H : Hp} {M : MM} (m : RMx X H M) {d : D} {v : V} {t : String} (r : RD X.K H d v) (h : tyOf M d = some t) : TyX X.K H v (.type t) := by
  cases r with
  | non => cases h; exact .base .non
  | bl b => cases h; exact .base (.bl b)
  | int i => cases h; exact .base (.int i)
  | str x => cases h; exact .base (.str x)
  | ty n => cases h
  | @tup a vs ds h1 h2 =>
    cases h
    rcases h1 with ⟨o, h1, _⟩ | ⟨o, its, n, h1, h2, _⟩
    · exact .fTuple h1
    · exact .kTuple h1 h2
  | @rol a vs ds h1 h2 =>
    cases h
    rcases h1 with ⟨o, h1⟩ | ⟨o, its, n, h1, h2, _⟩
    · exact .base (.frz h1)
    · exact .kList h1 h2
  | ref a =>
    unfold tyOf at h
    cases em : M a with
    | none => simp only [em] at h; cases h
    | some o =>
      cases o with
      | lst ds =>
        simp only [em] at h
        cases h
        obtain ⟨vs, h1, h2⟩ := m a _ em
        exact .base (.lst h1)
      | _ => simp only [em] at h; cases h
theorem call_up {f : Value} {o : CD} (h : ∀ (pins : List (Addr × Obj)) (s : Shared) (σ : St) (H : Hp) (M : MM) (ds : List D) (xs : List V) (us : List Value) (Q : VK) (Q0 : QD), Inv X pins σ H s → RMx X H M → RDs X.K H ds xs → Vals xs us → o ds M Q0 →
    (∀ z M', Q0 z M' → ∀ v H', Stb H H' → RD X.K H' z v → RMx X H' M' → Q v H') → wpAny (model X.prog X.w) X.A (call f us) (EP X pins σ Q) X.xe s) : CallR X f (upC X o) := by
  intro pins s σ H xs us Q I rv ⟨ds, M, Q0, rd, m, t, q⟩
  exact h pins s σ H M ds xs us Q Q0 I m rd rv t q
theorem rds1 {H : Hp} {x : D} {vs : List V} (r : RDs X.K H [x] vs) : ∃ v, vs = [v] ∧ RD X.K H x v := by
  cases r with
  | cons h t => cases t; exact ⟨_, rfl, h⟩
theorem rds2 {H : Hp} {x y : D} {vs : List V} (r : RDs X.K H [x, y] vs) : ∃ v w, vs = [v, w] ∧ RD X.K H x v ∧ RD X.K H y w := by
  cases r with
  | cons h t =>
    obtain ⟨w, rfl, h2⟩ := rds1 t
    exact ⟨_, _, rfl, h, h2⟩
theorem cr_cAbs : CallR X (.builtin "abs") (upC X cAbs) := call_up fun pins s σ H M ds xs us Q Q0 I m rd rv ⟨i, e, t⟩ q => by
  subst e
  obtain ⟨v, rfl, h⟩ := rds1 rd
  cases h
  exact call_abs pins s σ H _ us Q I rv ⟨i, rfl, q _ M t _ H (Stb.refl H) (.int _) m⟩
theorem cr_cMax (hc : X.calm = true) : CallR X (.builtin "max") (upC X cMax) := call_up fun pins s σ H M ds xs us Q Q0 I m rd rv ⟨i, j, e, t⟩ q => by
  subst e
  obtain ⟨v, w, rfl, h, h2⟩ := rds2 rd
  cases h
  cases h2
  exact call_max2 hc pins s σ H _ us Q I rv ⟨i, j, rfl, q _ M t _ H (Stb.refl H) (.int _) m⟩
theorem cr_cMin (hc : X.calm = true) : CallR X (.builtin "min") (upC X cMin) := call_up fun pins s σ H M ds xs us Q Q0 I m rd rv ⟨i, j, e, t⟩ q => by
  subst e
  obtain ⟨v, w, rfl, h, h2⟩ := rds2 rd
  cases h
  cases h2
  exact call_min2 hc pins s σ H _ us Q I rv ⟨i, j, rfl, q _ M t _ H (Stb.refl H) (.int _) m⟩
theorem cr_cInt : CallR X (.type "int") (upC X cInt) := call_up fun pins s σ H M ds xs us Q Q0 I m rd rv t q => by
  unfold cInt at t
  split at t
  · obtain ⟨v, rfl, h⟩ := rds1 rd
    cases h
    exact call_int1 pins s σ H _ us Q I rv (.inl ⟨_, rfl, q _ M t _ H (Stb.refl H) (.int _) m⟩)
  · obtain ⟨v, rfl, h⟩ := rds1 rd
    cases h
    exact call_int1 pins s σ H _ us Q I rv (.inr ⟨_, rfl, q _ M t _ H (Stb.refl H) (.int _) m⟩)
  · obtain ⟨v, rfl, h⟩ := rds1 rd
    cases h
    obtain ⟨n, e1, e2, t⟩ := t
    exact call_int_str pins s σ H _ us Q I rv ⟨_, n, rfl, e1, e2, q _ M t _ H (Stb.refl H) (.int _) m⟩
  · exact t.elim
theorem cr_cStr : CallR X (.type "str") (upC X cStr) := call_up fun pins s σ H M ds xs us Q Q0 I m rd rv t q => by
  unfold cStr at t
  split at t
  · obtain ⟨v, rfl, h⟩ := rds1 rd
    cases h
    exact call_str_int pins s σ H _ us Q I rv ⟨_, rfl, t.1, q _ M t.2 _ H (Stb.refl H) (.str _) m⟩
  · obtain ⟨v, rfl, h⟩ := rds1 rd
    cases h
    exact SkE.call_str_str pins s σ H _ us Q I rv ⟨_, rfl, q _ M t _ H (Stb.refl H) (.str _) m⟩
  · exact t.elim
theorem g_len {pins : List (Addr × Obj)} {σ : St} {H : Hp} {s : Shared} {a : Addr} {kvs : List (D × D)} {es : List DictEntry} {A : Around} {E : Value → Shared → Prop} {Q : Value → Shared → Prop} (I : Inv X pins σ H s) (d : DAt X H a kvs es) (h : ∀ t s', Inv X pins σ H s' → Q (.int kvs.length t) s') :
    wpAny (model X.prog X.w) A (call (.builtin "len") [.ref a]) Q E s := by
  have hz := d.sz
  rw [sizeLine_eq] at hz
  rcases d.un with hk | hk
  · obtain ⟨vs, dd, rel⟩ := dct_A I (d.at_ I) d.en d.nd hk
    have hl := Paired.length rel
    refine PySem.call_len_dict d.sys dd (by omega) ?_
    rw [← hl]
    exact h _ _ (I.tok _)
  · obtain ⟨xs, dd, rel⟩ := dct_T I (d.at_ I) d.en d.nd hk
    have hl := Paired.length rel
    refine PySem.call_len_dictH d.sys dd (by omega) ?_
    rw [← hl]
    exact h _ _ (I.tok _)
theorem cr_cLen : CallR X (.builtin "len") (upC X cLen) := call_up fun pins s σ H M ds xs us Q Q0 I m rd rv ⟨x, n, e, hn, t⟩ q => by
  subst e
  obtain ⟨v, rfl, h⟩ := rds1 rd
  have fin : ∀ k : Nat, LenV X.K v H k → k = n → wpAny (model X.prog X.w) X.A (call (.builtin "len") us) (EP X pins σ Q) X.xe s := fun k hk e => by
    subst e
    exact call_len pins s σ H _ us Q I rv ⟨v, k, rfl, hk, q _ M t _ H (Stb.refl H) (.int _) m⟩
  cases h with
  | @tup a vs ds h1 h2 => cases hn; exact fin vs.length (.inr ⟨_, h1, rfl⟩) h2.length.symm
  | @rol a vs ds h1 h2 => cases hn; exact fin vs.length (.inl ⟨_, h1.sq, rfl⟩) h2.length.symm
  | str z =>
    by_cases hz : z.length ≤ sizeLine
    · simp only [lenD, if_pos hz] at hn
      cases hn
      exact fin z.length ⟨hz, rfl⟩ rfl
    · simp only [lenD, if_neg hz] at hn; cases hn
  | ref a =>
    unfold lenD at hn
    cases em : M a with
    | none => simp only [em] at hn; cases hn
    | some o =>
      cases o with
      | lst ds =>
        simp only [em] at hn
        cases hn
        obtain ⟨vs, h1, h2⟩ := m a _ em
        exact fin vs.length (.inl ⟨_, SqL.of h1, rfl⟩) h2.length.symm
      | dct ob kvs =>
        simp only [em] at hn
        cases hn
        obtain ⟨es, ep, da, hH, hx, hdd⟩ := dct_at m em
        obtain ⟨u, rfl, ru⟩ := vals1 rv
        obtain rfl : u = Value.ref a := ru
        exact g_len I da fun t' s' I' => ⟨.int _, H, I', ⟨_, rfl⟩, q _ M t _ H (Stb.refl H) (.int _) m⟩
      | ins _ _ => simp only [em] at hn; cases hn
      | xd _ _ => simp only [em] at hn; cases hn
  | _ => cases hn
theorem items_sq {H : Hp} {M : MM} (m : RMx X H M) {x : D} {v : V} {ds : List D} (r : RD X.K H x v) (h : itemsOf M x = some ds) : ∃ a vs, v = .ref a ∧ (SqL X.K H a vs ∨ SqN X.K H a vs) ∧ RDs X.K H ds vs := by
  cases r with
  | @tup a vs ds h1 h2 => cases h; exact ⟨a, vs, rfl, .inr h1, h2⟩
  | @rol a vs ds h1 h2 => cases h; exact ⟨a, vs, rfl, .inl h1.sq, h2⟩
  | ref a =>
    unfold itemsOf at h
    cases em : M a with
    | none => simp only [em] at h; cases h
    | some o =>
      cases o with
      | lst es =>
        simp only [em] at h
        cases h
        obtain ⟨vs, h1, h2⟩ := m a _ em
        exact ⟨a, vs, rfl, .inl (SqL.of h1), h2⟩
      | _ => simp only [em] at h; cases h
  | _ => cases h
theorem cr_cList : CallR X (.type "list") (upC X cList) := call_up fun pins s σ H M ds xs us Q Q0 I m rd rv ⟨x, es, e, hn, t⟩ q => by
  subst e
  obtain ⟨v, rfl, h⟩ := rds1 rd
  obtain ⟨a, vs, rfl, h1, h2⟩ := items_sq m h hn
  refine call_list_of pins s σ H _ us Q I rv ⟨a, vs, rfl, h1.imp (fun h => h) SqN.t, fun p hp => ?_⟩
  exact q _ _ (t p (m.fresh hp)) _ _ (Stb.new hp) (.ref p) (m.new hp ⟨vs, upd_same, RDs.stb (Stb.new hp) h2⟩)
theorem cr_cTuple : CallR X (.type "tuple") (upC X cTuple) := call_up fun pins s σ H M ds xs us Q Q0 I m rd rv ⟨x, es, e, hn, t⟩ q => by
  subst e
  obtain ⟨v, rfl, h⟩ := rds1 rd
  obtain ⟨a, vs, rfl, h1, h2⟩ := items_sq m h hn
  rcases h1 with h1 | h1
  · obtain ⟨u, rfl, ru⟩ := vals1 rv
    cases ru
    obtain ⟨its, rw', pl, hz⟩ := I.list h1
    have hlen := rw'.length
    refine call_tuple_list pl.isList (fun h' kp => ?_) (by simp only [List.size_toArray] <;> omega)
    have J := I.kept (t' := s.toks) kp
    have hp := J.hok.fresh (Nat.le_refl h'.objs.size)
    refine ⟨.ref h'.objs.size, _, J.laid (t' := s.toks) (fun c oc w => Heap.get?_push_of_some _ w) (Nat.le_refl _) (tup_ok (Heap.get?_push_size _ rfl) rw' hz), rfl, ?_⟩
    exact q _ _ t _ _ (Stb.new hp) (.tup sqN_new (RDs.stb (Stb.new hp) h2)) (m.laid hp)
  · exact call_tuple_of pins s σ H _ us Q I rv ⟨a, vs, rfl, .inr ⟨h1, q _ _ t _ H (Stb.refl H) (.tup h1 h2) m⟩⟩
theorem cr_cAll (hc : X.calm = true) : CallR X (.builtin "all") (upC X cAll) := call_up fun pins s σ H M ds xs us Q Q0 I m rd rv ⟨x, bs, e, hn, t⟩ q => by
  subst e
  obtain ⟨v, rfl, h⟩ := rds1 rd
  obtain ⟨a, vs, rfl, h1, h2⟩ := lstOf_sq m h hn
  rw [h2.bls] at h1
  exact cr_all hc pins s σ H _ us Q I rv ⟨a, bs, rfl, h1, q _ _ t _ H (Stb.refl H) (.bl _) m⟩
theorem cr_cAny (hc : X.calm = true) : CallR X (.builtin "any") (upC X cAny) := call_up fun pins s σ H M ds xs us Q Q0 I m rd rv ⟨x, bs, e, hn, t⟩ q => by
  subst e
  obtain ⟨v, rfl, h⟩ := rds1 rd
  obtain ⟨a, vs, rfl, h1, h2⟩ := lstOf_sq m h hn
  rw [h2.bls] at h1
  exact cr_any hc pins s σ H _ us Q I rv ⟨a, bs, rfl, h1, q _ _ t _ H (Stb.refl H) (.bl _) m⟩
theorem cr_cSum (hc : X.calm = true) : CallR X (.builtin "sum") (upC X cSum) := call_up fun pins s σ H M ds xs us Q Q0 I m rd rv ⟨x, ns, e, hn, t⟩ q => by
  subst e
  obtain ⟨v, rfl, h⟩ := rds1 rd
  obtain ⟨a, vs, rfl, h1, h2⟩ := lstOf_sq m h hn
  rw [h2.intsV] at h1
  exact cr_sum hc pins s σ H _ us Q I rv ⟨a, ns, rfl, h1, q _ _ t _ H (Stb.refl H) (.int _) m⟩
theorem cr_cIsi : CallR X (.builtin "isinstance") (upC X cIsi) := call_up fun pins s σ H M ds xs us Q Q0 I m rd rv t q => by
  unfold cIsi at t
  split at t
  · obtain ⟨hk, ty, h1, t⟩ := t
    obtain ⟨v, w, rfl, r1, r2⟩ := rds2 rd
    cases r2
    exact call_isi pins s σ H _ us Q I rv ⟨v, _, _, _, _, rfl, .ty _, tyx_of m r1 h1, kit_ty (kit_known h1 hk), q _ _ t _ H (Stb.refl H) (.bl _) m⟩
  · exact t.elim
end
end Fg
/-! Fg5: tests, statements, loops, comprehensions, calls. -/
namespace Fg
open PySem PySem.Spec L2
open PyProof.Rows hiding St
/-! ### truth -/
def truD (M : MM) : D → Option Bool
  | .bl b => some b
  | .non => some false
  | .int i => some (i != 0)
  | .str x => if x.length ≤ sizeLine then some ((x.length : Int) != 0) else none
  | .tup ds => some !ds.isEmpty
  | .rol ds => some !ds.isEmpty
  | .ref a => match M a with
    | some (.lst ds) => some !ds.isEmpty
    | some (.dct _ kvs) => if kvs.all (fun p => isAt p.1) = true then some !kvs.isEmpty else none
    | _ => none
  | .ty _ => none
section
variable {X : Cx}
theorem isEmpty_rds {H : Hp} {ds : List D} {vs : List V} (r : RDs X.K H ds vs) : (!vs.isEmpty) = !ds.isEmpty := by cases r <;> rfl
theorem tru_truD : TruR X (fun x H Q => ∃ d M b, RD X.K H d x ∧ RMx X H M ∧ truD M d = some b ∧ Q b H) := by
  intro pins s σ H x v Q I rx h
  obtain ⟨d, M, b, r, m, e, q⟩ := h
  have fin : ∀ k, TruV X.K x H k → k = b → wpAny (model X.prog X.w) X.A (truthy v) (TP X pins σ Q) X.xe s := fun k hk ek => by
    subst ek
    exact tru_ok pins s σ H x v Q I rx ⟨k, hk, q⟩
  cases r with
  | non => cases e; exact fin false rfl rfl
  | bl k =>
    cases e
    cases rx
    exact wpAny_truthy_bool ⟨H, I, q⟩
  | int i => cases e; exact fin _ rfl rfl
  | str z =>
    by_cases hz : z.length ≤ sizeLine
    · simp only [truD, if_pos hz] at e
      cases e
      exact fin _ ⟨hz, rfl⟩ rfl
    · simp only [truD, if_neg hz] at e; cases e
  | ty n => cases e
  | @tup a vs ds h1 h2 => cases e; exact fin _ (.inr (.inl ⟨_, h1, rfl⟩)) (isEmpty_rds h2)
  | @rol a vs ds h1 h2 => cases e; exact fin _ (.inl ⟨_, h1.sq, rfl⟩) (isEmpty_rds h2)
  | ref a =>
    unfold truD at e
    cases em : M a with
    | none => simp only [em] at e; cases e
    | some o =>
      cases o with
      | lst ds =>
        simp only [em] at e
        cases e
        obtain ⟨vs, h1, h2⟩ := m a _ em
        exact fin _ (.inl ⟨_, SqL.of h1, rfl⟩) (isEmpty_rds h2)
      | dct ob kvs =>
        by_cases hk : kvs.all (fun p => isAt p.1) = true
        · simp only [em, if_pos hk] at e
          cases e
          obtain ⟨es, ep, da, hH, hx, hdd⟩ := dct_at m em
          obtain rfl : v = Value.ref a := rx
          have hz := da.sz
          rw [sizeLine_eq] at hz
          obtain ⟨vs, dd, rel⟩ := dct_A I (da.at_ I) da.en da.nd fun p hp => List.all_eq_true.mp hk p hp
          have hl := Paired.length rel
          refine PySem.wpAny_truthy_dict da.sys dd (by omega) ?_
          have e2 : vs.isEmpty = kvs.isEmpty := by cases rel <;> rfl
          rw [e2]
          exact ⟨H, I.tok _, q⟩
        · simp only [em, if_neg hk] at e; cases e
      | ins _ _ => simp only [em] at e; cases e
      | xd _ _ => simp only [em] at e; cases e
end

/-! ### tests -/
def wTru (wa : WE) : WB := fun ρ M Q E => wa ρ M (fun d M1 => ∃ b, truD M1 d = some b ∧ Q b M1) E
def wBl (wa : WE) : WB := fun ρ M Q E => wa ρ M (fun d M1 => match d with
  | .bl b => Q b M1
  | _ => False) E
def wAndB (a b : WB) : WB := fun ρ M Q E => a ρ M (fun k M1 => if k = true then b ρ M1 Q E else Q false M1) E
def wOrB (a b : WB) : WB := fun ρ M Q E => a ρ M (fun k M1 => if k = true then Q true M1 else b ρ M1 Q E) E
def wNotB (a : WB) : WB := fun ρ M Q E => a ρ M (fun k M1 => Q (!k) M1) E
section
variable {X : Cx} {W : WX} {e : Expr} {wa wb : WE} {ba bb : WB}
/-- what an expression's reading hands on -/
theorem upE_bl {σ : St} {H : Hp} {Q : Bool → Hp → Prop} (h : upB X W (wBl wa) σ H Q) : upE X W wa σ H (fun x H1 => ∃ k, x = .bl k ∧ Q k H1) := by
  obtain ⟨ρ, M, Q0, E0, r, m, t, q, xg⟩ := h
  refine ⟨ρ, M, _, E0, r, m, t, fun d M1 t1 y H1 s1 rd m1 => ?_, xg⟩
  cases d with
  | bl b =>
    cases rd
    exact ⟨b, rfl, q b M1 t1 H1 s1 m1⟩
  | _ => exact (show False from t1).elim
theorem ub_bl (h : PT X e (tTest (upE X W wa))) : PT X e (upB X W (wBl wa)) := h.imp fun σ H Q z => upE_bl z
/-- an expression of any kind as a test -/
theorem ub_tru (ha : PE X e (upE X W wa)) (he : ∀ whole, isTrue e X.env whole = (do let v ← whole; standAt e.pos; holding [v] (truthy v))) : PT X e (upB X W (wTru wa)) := by
  refine ⟨fun pins s σ H Q I hw => ?_⟩
  obtain ⟨ρ, M, Q0, E0, r, m, t, q, xg⟩ := hw
  refine isTrue_plain (thn (ha.run pins s σ H (fun x H1 => ∃ d M1 b, RD X.K H1 d x ∧ RMx X H1 M1 ∧ truD M1 d = some b ∧ Q b H1) I ⟨ρ, M, _, E0, r, m, t, fun d M1 t1 y H1 s1 rd m1 => ?_, xg⟩) fun v s1 hh => ?_) (he _)
  · obtain ⟨b, e1, t1⟩ := t1
    exact ⟨d, M1, b, rd, m1, e1, q b M1 t1 H1 s1 m1⟩
  · obtain ⟨x, H1, I1, r1, q1⟩ := hh
    exact tru_truD pins s1 σ H1 x v Q I1 r1 q1
theorem upB_and {σ : St} {H : Hp} {Q : Bool → Hp → Prop} (h : upB X W (wAndB ba bb) σ H Q) : tAnd (upB X W ba) (upB X W bb) σ H Q := by
  obtain ⟨ρ, M, Q0, E0, r, m, t, q, xg⟩ := h
  refine ⟨ρ, M, _, E0, r, m, t, fun k M1 t1 H1 s1 m1 => ?_, xg⟩
  cases k with
  | true => exact ⟨ρ, M1, Q0, E0, r.stb s1, m1, t1, fun b M2 t2 H2 s2 m2 => q b M2 t2 H2 (s1.trans s2) m2, xg.stb s1⟩
  | false => exact q false M1 t1 H1 s1 m1
theorem upB_or {σ : St} {H : Hp} {Q : Bool → Hp → Prop} (h : upB X W (wOrB ba bb) σ H Q) : tOr (upB X W ba) (upB X W bb) σ H Q := by
  obtain ⟨ρ, M, Q0, E0, r, m, t, q, xg⟩ := h
  refine ⟨ρ, M, _, E0, r, m, t, fun k M1 t1 H1 s1 m1 => ?_, xg⟩
  cases k with
  | false => exact ⟨ρ, M1, Q0, E0, r.stb s1, m1, t1, fun b M2 t2 H2 s2 m2 => q b M2 t2 H2 (s1.trans s2) m2, xg.stb s1⟩
  | true => exact q true M1 t1 H1 s1 m1
theorem upB_not {σ : St} {H : Hp} {Q : Bool → Hp → Prop} (h : upB X W (wNotB ba) σ H Q) : tNot (upB X W ba) σ H Q := by
  obtain ⟨ρ, M, Q0, E0, r, m, t, q, xg⟩ := h
  exact ⟨ρ, M, _, E0, r, m, t, fun k M1 t1 H1 s1 m1 => q (!k) M1 t1 H1 s1 m1, xg⟩
/-- a test's answer as a value -/
def wVal (a : WB) : WE := fun ρ M Q E => a ρ M (fun k M1 => Q (.bl k) M1) E
/-- a and b, a or b as values, by truth -/
def wAndV (wa wb : WE) : WE := fun ρ M Q E => wa ρ M (fun d M1 => ∃ k, truD M1 d = some k ∧ if k = true then wb ρ M1 Q E else Q d M1) E
def wOrV (wa wb : WE) : WE := fun ρ M Q E => wa ρ M (fun d M1 => ∃ k, truD M1 d = some k ∧ if k = true then Q d M1 else wb ρ M1 Q E) E
theorem ue_and {a b : Expr} {rest : List Expr} {pos : Pos} (ha : PE X a (upE X W wa)) (hb : PE X (.BoolOp .And (b :: rest) pos) (upE X W wb)) : PE X (.BoolOp .And (a :: b :: rest) pos) (upE X W (wAndV wa wb)) := by
  refine ⟨fun pins s σ H Q I h => ?_⟩
  obtain ⟨ρ, M, Q0, E0, r, m, t, q, xg⟩ := h
  refine BoolOp_and (thn (ha.run pins s σ H (fun x H1 => ∃ d M1 k, RD X.K H1 d x ∧ RMx X H1 M1 ∧ truD M1 d = some k ∧ (if k = true then upE X W wb σ H1 Q else Q x H1)) I ⟨ρ, M, _, E0, r, m, t, fun d M1 t1 y H1 s1 rd m1 => ?_, xg⟩) fun v s1 hh => ?_)
  · obtain ⟨k, e1, t1⟩ := t1
    refine ⟨d, M1, k, rd, m1, e1, ?_⟩
    cases k with
    | true => exact ⟨ρ, M1, Q0, E0, r.stb s1, m1, t1, fun d2 M2 t2 y2 H2 s2 rd2 m2 => q d2 M2 t2 y2 H2 (s1.trans s2) rd2 m2, xg.stb s1⟩
    | false => exact q d M1 t1 y H1 s1 rd m1
  · obtain ⟨x, H1, I1, r1, d, M1, k, rd, m1, e1, q1⟩ := hh
    refine thn (tru_truD pins s1 σ H1 x v (fun k' H2 => H2 = H1 ∧ k' = k) I1 r1 ⟨d, M1, k, rd, m1, e1, rfl, rfl⟩) fun k' s2 hk => ?_
    obtain ⟨H2, I2, rfl, rfl⟩ := hk
    cases k' with
    | true => exact hb.run pins s2 σ H2 Q I2 q1
    | false => exact ⟨x, H2, I2, r1, q1⟩
theorem ue_or {a b : Expr} {rest : List Expr} {pos : Pos} (ha : PE X a (upE X W wa)) (hb : PE X (.BoolOp .Or (b :: rest) pos) (upE X W wb)) : PE X (.BoolOp .Or (a :: b :: rest) pos) (upE X W (wOrV wa wb)) := by
  refine ⟨fun pins s σ H Q I h => ?_⟩
  obtain ⟨ρ, M, Q0, E0, r, m, t, q, xg⟩ := h
  refine BoolOp_or (thn (ha.run pins s σ H (fun x H1 => ∃ d M1 k, RD X.K H1 d x ∧ RMx X H1 M1 ∧ truD M1 d = some k ∧ (if k = true then Q x H1 else upE X W wb σ H1 Q)) I ⟨ρ, M, _, E0, r, m, t, fun d M1 t1 y H1 s1 rd m1 => ?_, xg⟩) fun v s1 hh => ?_)
  · obtain ⟨k, e1, t1⟩ := t1
    refine ⟨d, M1, k, rd, m1, e1, ?_⟩
    cases k with
    | false => exact ⟨ρ, M1, Q0, E0, r.stb s1, m1, t1, fun d2 M2 t2 y2 H2 s2 rd2 m2 => q d2 M2 t2 y2 H2 (s1.trans s2) rd2 m2, xg.stb s1⟩
    | true => exact q d M1 t1 y H1 s1 rd m1
  · obtain ⟨x, H1, I1, r1, d, M1, k, rd, m1, e1, q1⟩ := hh
    refine thn (tru_truD pins s1 σ H1 x v (fun k' H2 => H2 = H1 ∧ k' = k) I1 r1 ⟨d, M1, k, rd, m1, e1, rfl, rfl⟩) fun k' s2 hk => ?_
    obtain ⟨H2, I2, rfl, rfl⟩ := hk
    cases k' with
    | false => exact hb.run pins s2 σ H2 Q I2 q1
    | true => exact ⟨x, H2, I2, r1, q1⟩
/-- not a, as a value -/
def wNotV (wa : WE) : WE := fun ρ M Q E => wa ρ M (fun d M1 => ∃ k, truD M1 d = some k ∧ Q (.bl (!k)) M1) E
theorem ue_not {a : Expr} {pos : Pos} (ha : PE X a (upE X W wa)) : PE X (.UnaryOp .Not a pos) (upE X W (wNotV wa)) := by
  refine ⟨fun pins s σ H Q I h => ?_⟩
  obtain ⟨ρ, M, Q0, E0, r, m, t, q, xg⟩ := h
  refine UnaryOp_ (thn (ha.run pins s σ H (fun x H1 => ∃ d M1 k, RD X.K H1 d x ∧ RMx X H1 M1 ∧ truD M1 d = some k ∧ Q (.bl (!k)) H1) I ⟨ρ, M, _, E0, r, m, t, fun d M1 t1 y H1 s1 rd m1 => ?_, xg⟩) fun v s1 hh => ?_)
  · obtain ⟨k, e1, t1⟩ := t1
    exact ⟨d, M1, k, rd, m1, e1, q _ M1 t1 _ H1 s1 (.bl _) m1⟩
  · obtain ⟨x, H1, I1, r1, d, M1, k, rd, m1, e1, q1⟩ := hh
    refine not_of (thn (tru_truD pins s1 σ H1 x v (fun k' H2 => H2 = H1 ∧ k' = k) I1 r1 ⟨d, M1, k, rd, m1, e1, rfl, rfl⟩) fun k' s2 hk => ?_)
    obtain ⟨H2, I2, rfl, rfl⟩ := hk
    exact ⟨.bl (!k'), H2, I2, rfl, q1⟩
def wIte (c : WB) (wa wb : WE) : WE := fun ρ M Q E => c ρ M (fun k M1 => if k = true then wa ρ M1 Q E else wb ρ M1 Q E) E
theorem ue_ite {c a b : Expr} {pos : Pos} {wc : WB} (hc : PT X c (upB X W wc)) (ha : PE X a (upE X W wa)) (hb : PE X b (upE X W wb)) : PE X (.IfExp c a b pos) (upE X W (wIte wc wa wb)) := (pe_ifExp hc ha hb).imp fun σ H Q h => by
  obtain ⟨ρ, M, Q0, E0, r, m, t, q, xg⟩ := h
  refine ⟨ρ, M, _, E0, r, m, t, fun k M1 t1 H1 s1 m1 => ?_, xg⟩
  cases k with
  | true => exact ⟨ρ, M1, Q0, E0, r.stb s1, m1, t1, fun d2 M2 t2 y2 H2 s2 rd2 m2 => q d2 M2 t2 y2 H2 (s1.trans s2) rd2 m2, xg.stb s1⟩
  | false => exact ⟨ρ, M1, Q0, E0, r.stb s1, m1, t1, fun d2 M2 t2 y2 H2 s2 rd2 m2 => q d2 M2 t2 y2 H2 (s1.trans s2) rd2 m2, xg.stb s1⟩
/-- a chain of two comparisons -/
def wChain (o o' : OD) (wa wb wc : WE) : WE := fun ρ M Q E => wa ρ M (fun x M1 => wb ρ M1 (fun y M2 => o x y M2 fun z M3 => match z with
  | .bl k => if k = true then wc ρ M3 (fun z2 M4 => o' y z2 M4 Q) E else Q (.bl false) M3
  | _ => False) E) E
theorem ue_chain {o o' : OD} {op op' : CmpOp} {a b c : Expr} {pos : Pos} {wc : WE} (ho : OpR X (compareOp op) (upO X o)) (ho' : OpR X (compareOp op') (upO X o'))
    (h : PE X e (tChain (upO X o) (upO X o') (upE X W wa) (upE X W wb) (upE X W wc))) : PE X e (upE X W (wChain o o' wa wb wc)) := h.imp fun σ H Q h => by
  obtain ⟨ρ, M, Q0, E0, r, m, t, q, xg⟩ := h
  refine ⟨ρ, M, _, E0, r, m, t, fun d M1 t1 y H1 s1 rd m1 => ⟨ρ, M1, _, E0, r.stb s1, m1, t1, fun d2 M2 t2 y2 H2 s2 rd2 m2 => ?_, xg.stb s1⟩, xg⟩
  refine ⟨d, d2, M2, _, rd.stb s2, rd2, m2, t2, fun z M3 t3 v3 H3 s3 rz m3 => ?_⟩
  cases z with
  | bl k =>
    cases rz
    refine ⟨k, rfl, ?_⟩
    cases k with
    | true => exact ⟨ρ, M3, _, E0, ((r.stb s1).stb s2).stb s3, m3, t3, fun d4 M4 t4 y4 H4 s4 rd4 m4 => ⟨d2, d4, M4, Q0, (rd2.stb s3).stb s4, rd4, m4, t4, fun z M5 qz v5 H5 s5 rz5 m5 => q z M5 qz v5 H5 ((((s1.trans s2).trans s3).trans s4).trans s5) rz5 m5⟩, ((xg.stb s1).stb s2).stb s3⟩
    | false => exact q _ M3 t3 _ H3 ((s1.trans s2).trans s3) (.bl _) m3
  | _ => exact (show False from t3).elim
end
end Fg
/-! Fg6: statements, loops, comprehensions, calls. -/
namespace Fg
open PySem PySem.Spec L2
open PyProof.Rows hiding St
/-! ### statements -/
structure EndsD where
  nx : En → MM → Prop
  rt : QD
  bk : En → MM → Prop := fun _ _ => False
  ct : En → MM → Prop := fun _ _ => False
abbrev QS := Xn → En → MM → Prop
abbrev WS := En → MM → EndsD → QS → Prop
def Go (X : Cx) (H : Hp) (P : En → MM → Prop) (R : St → Hp → Prop) : Prop := ∀ ρ' M', P ρ' M' → ∀ σ' H', Stb H H' → RE X.K H' ρ' σ' → RMx X H' M' → R σ' H'
def XGoS (X : Cx) (W : WX) (H : Hp) (E0 : QS) : Prop := ∀ x ρ' M', E0 x ρ' M' → ∀ cls d σ' H', Stb H H' → RE X.K H' ρ' σ' → RX X.K H' M' x cls d → RMx X H' M' → W cls d σ' H'
structure GoE (X : Cx) (H : Hp) (N : EndsD) (B : Ends) : Prop where
  nx : Go X H N.nx B.nx
  rt : ∀ d M', N.rt d M' → ∀ y H', Stb H H' → RD X.K H' d y → RMx X H' M' → B.rt y H'
  bk : Go X H N.bk B.bk
  ct : Go X H N.ct B.ct
def upS (X : Cx) (W : WX) (t : WS) : TS := fun B σ H => ∃ ρ M N E0, RE X.K H ρ σ ∧ RMx X H M ∧ t ρ M N E0 ∧ GoE X H N B ∧ XGoS X W H E0
theorem Go.stb {X : Cx} {H H1 : Hp} {P : En → MM → Prop} {R : St → Hp → Prop} (h : Go X H P R) (s : Stb H H1) : Go X H1 P R := fun ρ M p σ' H' s' r m => h ρ M p σ' H' (s.trans s') r m
theorem XGoS.stb {X : Cx} {W : WX} {H H1 : Hp} {E0 : QS} (h : XGoS X W H E0) (s : Stb H H1) : XGoS X W H1 E0 := fun x ρ M p cls d σ' H' s' r x' m => h x ρ M p cls d σ' H' (s.trans s') r x' m
theorem GoE.stb {X : Cx} {H H1 : Hp} {N : EndsD} {B : Ends} (h : GoE X H N B) (s : Stb H H1) : GoE X H1 N B := ⟨h.nx.stb s, fun d M q y H' s' r m => h.rt d M q y H' (s.trans s') r m, h.bk.stb s, h.ct.stb s⟩
/-- an expression's exceptions within a statement -/
theorem XGoS.at_ {X : Cx} {W : WX} {H : Hp} {E0 : QS} {ρ : En} {σ : St} (h : XGoS X W H E0) (r : RE X.K H ρ σ) : XGo X W σ H (fun x M => E0 x ρ M) := fun x M p cls d H' s' x' m => h x ρ M p cls d σ H' s' (r.stb s') x' m
def wNext : WS := fun ρ M N _ => N.nx ρ M
def wSeq (t u : WS) : WS := fun ρ M N E => t ρ M { N with nx := fun ρ1 M1 => u ρ1 M1 N E } E
def wIfS (c : WB) (t u : WS) : WS := fun ρ M N E => c ρ M (fun k M1 => if k = true then t ρ M1 N E else u ρ M1 N E) (fun x M1 => E x ρ M1)
def wRet (w : WE) : WS := fun ρ M N E => w ρ M N.rt (fun x M1 => E x ρ M1)
def wRetN : WS := fun _ M N _ => N.rt .non M
def wBrk : WS := fun ρ M N _ => N.bk ρ M
def wCnt : WS := fun ρ M N _ => N.ct ρ M
def wDrop (w : WE) : WS := fun ρ M N E => w ρ M (fun _ M1 => N.nx ρ M1) (fun x M1 => E x ρ M1)
/-- a store -/
abbrev WG := D → En → MM → (En → MM → Prop) → QX → Prop
def wAsg (w : WE) (g : WG) : WS := fun ρ M N E => w ρ M (fun d M1 => g d ρ M1 N.nx (fun x M2 => E x ρ M2)) (fun x M1 => E x ρ M1)
/-- R: what a store leaves of the slots -/
abbrev SR := St → St → Prop
abbrev anyR : SR := fun _ _ => True
def upGR (X : Cx) (W : WX) (R : SR) (g : WG) : TG := fun v σ H Q => ∃ d ρ M Q0 E0, RD X.K H d v ∧ RE X.K H ρ σ ∧ RMx X H M ∧ g d ρ M Q0 E0 ∧ Go X H Q0 (fun σ' H' => R σ σ' → Q σ' H') ∧ XGo X W σ H E0
abbrev upG (X : Cx) (W : WX) (g : WG) : TG := upGR X W anyR g
section
variable {X : Cx} {W : WX} {st : Stmt} {rest : List Stmt} {t u : WS} {e : Expr} {w : WE} {pos : Pos}
theorem us_nil : PSs X [] (upS X W wNext) := pss_nil.imp fun B σ H ⟨ρ, M, N, E0, r, m, t, g, xg⟩ => g.nx ρ M t σ H (Stb.refl H) r m
theorem us_cons (h1 : PS X st (upS X W t)) (h2 : PSs X rest (upS X W u)) : PSs X (st :: rest) (upS X W (wSeq t u)) := (pss_cons h1 h2).imp fun B σ H ⟨ρ, M, N, E0, r, m, z, g, xg⟩ =>
  ⟨ρ, M, _, E0, r, m, z, ⟨fun ρ1 M1 z1 σ1 H1 s1 r1 m1 => ⟨ρ1, M1, N, E0, r1, m1, z1, g.stb s1, xg.stb s1⟩, g.rt, g.bk, g.ct⟩, xg⟩
theorem us_if {c : Expr} {a b : List Stmt} {wc : WB} (hc : PT X c (upB X W wc)) (ha : PSs X a (upS X W t)) (hb : PSs X b (upS X W u)) : PS X (.If c a b pos) (upS X W (wIfS wc t u)) := (ps_if hc ha hb).imp fun B σ H ⟨ρ, M, N, E0, r, m, z, g, xg⟩ => by
  refine ⟨ρ, M, _, _, r, m, z, fun k M1 z1 H1 s1 m1 => ?_, xg.at_ r⟩
  cases k with
  | true => exact ⟨ρ, M1, N, E0, r.stb s1, m1, z1, g.stb s1, xg.stb s1⟩
  | false => exact ⟨ρ, M1, N, E0, r.stb s1, m1, z1, g.stb s1, xg.stb s1⟩
theorem us_ret (he : PE X e (upE X W w)) : PS X (.Return (some e) pos) (upS X W (wRet w)) := (ps_ret he).imp fun B σ H ⟨ρ, M, N, E0, r, m, z, g, xg⟩ => ⟨ρ, M, _, _, r, m, z, g.rt, xg.at_ r⟩
theorem us_retN : PS X (.Return none pos) (upS X W wRetN) := ps_retN.imp fun B σ H ⟨ρ, M, N, E0, r, m, z, g, xg⟩ => g.rt _ M z _ H (Stb.refl H) .non m
theorem us_pass : PS X (.Pass pos) (upS X W wNext) := ps_pass.imp fun B σ H ⟨ρ, M, N, E0, r, m, z, g, xg⟩ => g.nx ρ M z σ H (Stb.refl H) r m
theorem us_brk : PS X (.Break pos) (upS X W wBrk) := ps_break.imp fun B σ H ⟨ρ, M, N, E0, r, m, z, g, xg⟩ => g.bk ρ M z σ H (Stb.refl H) r m
theorem us_cnt : PS X (.Continue pos) (upS X W wCnt) := ps_continue.imp fun B σ H ⟨ρ, M, N, E0, r, m, z, g, xg⟩ => g.ct ρ M z σ H (Stb.refl H) r m
theorem us_expr (he : PE X e (upE X W w)) (hs : swapsWith e none pos.line X.env = pure false) : PS X (.Expr e pos) (upS X W (wDrop w)) := (ps_expr he hs).imp fun B σ H ⟨ρ, M, N, E0, r, m, z, g, xg⟩ =>
  ⟨ρ, M, _, _, r, m, z, fun d M1 z1 y H1 s1 rd m1 => g.nx ρ M1 z1 σ H1 s1 (r.stb s1) m1, xg.at_ r⟩
/-! ### stores -/
def gNm (i : Nat) : WG := fun d ρ M Q _ => Q (ρ.set i (some d)) M
theorem ug_nm {R : SR} {i : Nat} {tg : Expr} (h : PG X tg (gName i)) (hR : ∀ σ v, R σ (σ.set i v)) : PG X tg (upGR X W R (gNm i)) := ⟨fun pins s σ H v u Q I rv ⟨d, ρ, M, Q0, E0, rd, r, m, z, g, xg⟩ =>
  h.run pins s σ H v u Q I rv (g _ M z _ H (Stb.refl H) (r.set rd) m (hR σ _))⟩
theorem us_asg {tg : Expr} {g : WG} (he : PE X e (upE X W w)) (hg : PG X tg (upG X W g)) (hs : swapsWithSole [tg] e pos.line X.env = pure false) (hw : swappedStores [tg] e X.env = pure none)
    (h1 : (assignEach [tg] X.env).map (·.2) = [assign tg X.env]) : PS X (.Assign [tg] e pos) (upS X W (wAsg w g)) := (ps_asg he hg hs hw h1).imp fun B σ H ⟨ρ, M, N, E0, r, m, z, g, xg⟩ =>
  ⟨ρ, M, _, _, r, m, z, fun d M1 z1 y H1 s1 rd m1 => ⟨d, ρ, M1, _, _, rd, r.stb s1, m1, z1, fun ρ2 M2 z2 σ2 H2 s2 r2 m2 _ => (g.nx.stb s1) ρ2 M2 z2 σ2 H2 s2 r2 m2, (xg.stb s1).at_ (r.stb s1)⟩, xg.at_ r⟩
theorem us_set {i : Nat} {x : Str} {pos' : Pos} (hN : X.N.Nodup) (hi : X.N[i]? = some x) (hx : Loc X.env.scope x) (he : PE X e (upE X W w)) (hs : swapsWith e (some (.Name x pos')) pos.line X.env = pure false) (hf : X.fn x = true ∨ X.env.scope.names.lookup x = some .local) :
    PS X (.Assign [.Name x pos'] e pos) (upS X W (wAsg w (gNm i))) := (ps_set hN hi hx he hs hf).imp fun B σ H ⟨ρ, M, N, E0, r, m, z, g, xg⟩ =>
  ⟨ρ, M, _, _, r, m, z, fun d M1 z1 y H1 s1 rd m1 => g.nx _ M1 z1 _ H1 s1 ((r.stb s1).set rd) m1, xg.at_ r⟩
/-- a, b = x, y -/
def wPar (i j : Nat) (wa wb : WE) : WS := fun ρ M N E => wa ρ M (fun x M1 => wb ρ M1 (fun y M2 => N.nx ((ρ.set i (some x)).set j (some y)) M2) (fun x M2 => E x ρ M2)) (fun x M1 => E x ρ M1)
theorem us_par {i j : Nat} {a b : Expr} {wa wb : WE} (h : PS X st (tPar i j (tCons (upE X W wa) (tCons (upE X W wb) tNil)))) : PS X st (upS X W (wPar i j wa wb)) := h.imp fun B σ H ⟨ρ, M, N, E0, r, m, z, g, xg⟩ =>
  ⟨ρ, M, _, _, r, m, z, fun d M1 z1 y H1 s1 rd m1 => ⟨ρ, M1, _, _, r.stb s1, m1, z1, fun d2 M2 z2 y2 H2 s2 rd2 m2 =>
    ⟨y, y2, rfl, g.nx _ M2 z2 _ H2 (s1.trans s2) ((((r.stb s1).stb s2).set (rd.stb s2)).set rd2) m2⟩, (xg.stb s1).at_ (r.stb s1)⟩, xg.at_ r⟩
/-- several names, one after another -/
def gMany : List WG → List D → En → MM → (En → MM → Prop) → QX → Prop
  | [], [], ρ, M, Q, _ => Q ρ M
  | g :: gs, d :: ds, ρ, M, Q, E => g d ρ M (fun ρ1 M1 => gMany gs ds ρ1 M1 Q E) E
  | _, _, _, _, _, _ => False
def upGs (X : Cx) (W : WX) (R : SR) (gs : List WG) : TGs := fun vs σ H Q => ∃ ds ρ M Q0 E0, RDs X.K H ds vs ∧ RE X.K H ρ σ ∧ RMx X H M ∧ gMany gs ds ρ M Q0 E0 ∧ Go X H Q0 (fun σ' H' => R σ σ' → Q σ' H') ∧ ∀ σ', XGo X W σ' H E0
theorem ugs_nil {R : SR} (hr : ∀ σ, R σ σ) : PGs X [] (upGs X W R []) := ⟨fun pins s σ H vs us Q I r ⟨ds, ρ, M, Q0, E0, rd, re, m, z, g, xg⟩ => by
  cases ds with
  | nil =>
    cases rd
    exact pgs_nil.run pins s σ H [] us Q I r ⟨rfl, g ρ M z σ H (Stb.refl H) re m (hr σ)⟩
  | cons d ds => exact (show False from z).elim⟩
theorem ugs_cons {R : SR} {es : List Expr} {g : WG} {gs : List WG} (ht : ∀ a b c, R a b → R b c → R a c) (h1 : PG X e (upGR X W R g)) (h2 : PGs X es (upGs X W R gs)) (hs : (assignEach (e :: es) X.env).map (·.2) = assign e X.env :: (assignEach es X.env).map (·.2)) : PGs X (e :: es) (upGs X W R (g :: gs)) :=
  ⟨fun pins s σ H vs us Q I r ⟨ds, ρ, M, Q0, E0, rd, re, m, z, gg, xg⟩ => by
    cases rd with
    | nil => exact (show False from z).elim
    | cons q1 q2 =>
      refine (pgs_cons h1 h2 hs).run pins s σ H _ us Q I r ⟨_, _, rfl, ⟨_, ρ, M, _, E0, q1, re, m, z, fun ρ1 M1 z1 σ1 H1 s1 r1 m1 hR => ?_, xg σ⟩⟩
      exact ⟨_, ρ1, M1, Q0, E0, q2.stb s1, r1, m1, z1, fun ρ2 M2 z2 σ2 H2 s2 r2 m2 hR2 => gg ρ2 M2 z2 σ2 H2 (s1.trans s2) r2 m2 (ht _ _ _ hR hR2), fun σ' => (xg σ').stb s1⟩⟩
/-- (a, b) = a tuple, a list; nothing that is stored into raises -/
def gTp (gs : List WG) : WG := fun d ρ M Q _ => ∃ ds, itemsOf M d = some ds ∧ ds.length = gs.length ∧ gMany gs ds ρ M Q (fun _ _ => False)
theorem ug_tp {R : SR} {es : List Expr} {k : Nat} {gs : List WG} (hc : X.calm = true) (h : PGs X es (upGs X W R gs)) (hn : (assignEach es X.env).length = gs.length) (hst : (assignEach es X.env).findIdx? (·.1) = none) :
    PG X (.Tuple es k pos) (upGR X W R (gTp gs)) := ⟨fun pins s σ H v u Q I rv ⟨d, ρ, M, Q0, E0, rd, re, m, ⟨ds, h1, h2, z⟩, g, xg⟩ => by
  obtain ⟨a, vs, rfl, hs, q⟩ := items_sq m rd h1
  have hl := q.length
  rcases hs with hs | hs
  · exact (pg_lst hc h hn hst).run pins s σ H _ u Q I rv ⟨a, vs, rfl, hs, by rw [← hl, h2], ds, ρ, M, Q0, _, q, re, m, z, g, fun _ _ _ k => k.elim⟩
  · exact (pg_tup hc h hn hst).run pins s σ H _ u Q I rv ⟨a, vs, rfl, hs, by rw [← hl, h2], ds, ρ, M, Q0, _, q, re, m, z, g, fun _ _ _ k => k.elim⟩⟩
/-- o[i] = -/
def gSubD (wo wi : WE) : WG := fun d ρ M Q E => wo ρ M (fun o M1 => wi ρ M1 (fun i M2 => dSetI o i d M2 fun M3 => Q ρ M3) E) E
theorem ug_sub {tg : Expr} {wo wi : WE} (h : PG X tg (gSub (upE X W wo) (upE X W wi) (upSet X))) : PG X tg (upG X W (gSubD wo wi)) := ⟨fun pins s σ H v u Q I rv ⟨d, ρ, M, Q0, E0, rd, re, m, z, g, xg⟩ =>
  h.run pins s σ H v u Q I rv ⟨ρ, M, _, E0, re, m, z, fun d1 M1 z1 y1 H1 s1 rd1 m1 => ⟨ρ, M1, _, E0, re.stb s1, m1, z1, fun d2 M2 z2 y2 H2 s2 rd2 m2 =>
    ⟨d1, d2, d, M2, _, rd1.stb s2, rd2, (rd.stb s1).stb s2, m2, z2, fun M3 z3 H3 s3 m3 => g ρ M3 z3 σ H3 ((s1.trans s2).trans s3) (((re.stb s1).stb s2).stb s3) m3 trivial⟩, xg.stb s1⟩, xg⟩⟩
end
/-! ### attributes -/
def fget (fs : List (Str × D)) (f : Str) : Option D := fs.lookup f
def fput (f : Str) (d : D) : List (Str × D) → List (Str × D)
  | [] => [(f, d)]
  | (g, e) :: r => if g = f then (g, d) :: r else (g, e) :: fput f d r
theorem rfl_get {K : PySem.W.Frag} {H : Hp} {f : Str} {d : D} : ∀ {fs : List (Str × D)} {vs : List (Str × V)}, RFl K H fs vs → fget fs f = some d → ∃ y, vs.lookup f = some y ∧ RD K H d y
  | _, _, .nil, e => by cases e
  | _, _, .cons (a := p) (b := q) h t, e => by
    obtain ⟨g, d'⟩ := p
    obtain ⟨g', y⟩ := q
    obtain ⟨e1, e2⟩ := h
    dsimp only at e1 e2
    subst e1
    unfold fget at e
    rw [List.lookup_cons] at e ⊢
    cases c : (f == g) with
    | true =>
      rw [c] at e
      cases e
      exact ⟨y, rfl, e2⟩
    | false =>
      rw [c] at e
      exact rfl_get t e
theorem rfl_none {K : PySem.W.Frag} {H : Hp} {f : Str} : ∀ {fs : List (Str × D)} {vs : List (Str × V)}, RFl K H fs vs → fget fs f = none → vs.lookup f = none
  | _, _, .nil, e => rfl
  | _, _, .cons (a := p) (b := q) h t, e => by
    obtain ⟨g, d'⟩ := p
    obtain ⟨g', y⟩ := q
    obtain ⟨e1, e2⟩ := h
    dsimp only at e1 e2
    subst e1
    unfold fget at e
    rw [List.lookup_cons] at e ⊢
    cases c : (f == g) with
    | true => rw [c] at e; cases e
    | false =>
      rw [c] at e
      exact rfl_none t e
theorem rfl_put {K : PySem.W.Frag} {H : Hp} {f : Str} {d : D} {y : V} (r : RD K H d y) : ∀ {fs : List (Str × D)} {vs : List (Str × V)}, RFl K H fs vs → RFl K H (fput f d fs) (putF f y vs)
  | _, _, .nil => .cons ⟨rfl, r⟩ .nil
  | _, _, .cons (a := p) (b := q) h t => by
    obtain ⟨g, d'⟩ := p
    obtain ⟨g', y'⟩ := q
    obtain ⟨e1, e2⟩ := h
    dsimp only at e1 e2
    subst e1
    unfold fput putF
    by_cases c : g = f
    · rw [if_pos c, if_pos c]; exact .cons ⟨rfl, r⟩ t
    · rw [if_neg c, if_neg c]; exact .cons ⟨rfl, e2⟩ (rfl_put r t)
theorem RFl.length {K : PySem.W.Frag} {H : Hp} {fs : List (Str × D)} {vs : List (Str × V)} (h : RFl K H fs vs) : fs.length = vs.length := Paired.length h
/-- what a class of the text must have for an attribute -/
structure AtOk (K : PySem.W.Frag) (c f : Str) : Prop where
  cls : Cls K (He.ga K c)
  no : NoAttr K (He.ga K c) f
def wAtt (c f : Str) (wo : WE) : WE := fun ρ M Q E => wo ρ M (fun o M1 => match o with
  | .ref a => ∃ fs d, M1 a = some (.ins c fs) ∧ fget fs f = some d ∧ Q d M1
  | _ => False) E
def gAtt (c f : Str) (wo : WE) : WG := fun d ρ M Q E => wo ρ M (fun o M1 => match o with
  | .ref a => ∃ fs, M1 a = some (.ins c fs) ∧ fs.length < 1000 ∧ Q ρ (up M1 a (.ins c (fput f d fs)))
  | _ => False) E
section
variable {X : Cx} {W : WX} {e : Expr} {pos : Pos}
theorem ue_att {c f : Str} {wo : WE} (k : AtOk X.K c f) (h : PE X e (tFld X.K (upE X W wo) f)) : PE X e (upE X W (wAtt c f wo)) := h.imp fun σ H Q ⟨ρ, M, Q0, E0, r, m, t, q, xg⟩ => by
  refine ⟨ρ, M, _, E0, r, m, t, fun d M1 t1 y H1 s1 rd m1 => ?_, xg⟩
  cases d with
  | ref a =>
    obtain ⟨fs, d', h1, h2, t1⟩ := t1
    obtain ⟨dx, vs, h3, h4⟩ := m1 a _ h1
    obtain ⟨z, h5, h6⟩ := rfl_get h4 h2
    cases rd
    exact ⟨a, _, dx, vs, z, rfl, h3, k.cls, k.no, h5, q d' M1 t1 z H1 s1 h6 m1⟩
  | _ => exact (show False from t1).elim
theorem us_att {c f : Str} {wo w : WE} {st : Stmt} (k : AtOk X.K c f) (h : PS X st (sFld X.K (upE X W wo) (upE X W w) f)) : PS X st (upS X W (wAsg w (gAtt c f wo))) := h.imp fun B σ H ⟨ρ, M, N, E0, r, m, z, g, xg⟩ => by
  refine ⟨ρ, M, _, _, r, m, z, fun d M1 z1 y H1 s1 rd m1 => ⟨ρ, M1, _, _, r.stb s1, m1, z1, fun o M2 z2 y2 H2 s2 ro m2 => ?_, (xg.stb s1).at_ (r.stb s1)⟩, xg.at_ r⟩
  cases o with
  | ref a =>
    obtain ⟨fs, h1, h2, z2⟩ := z2
    obtain ⟨dx, vs, h3, h4⟩ := m2 a _ h1
    cases ro
    refine ⟨a, _, dx, vs, rfl, h3, k.cls, k.no, by rw [← h4.length]; exact h2, ?_⟩
    have mu : Mut (H2 a) := by rw [h3]; trivial
    have s3 : Stb H2 (upd H2 a (.ins (He.ga X.K c) dx (putF f y vs))) := Stb.mut mu
    exact g.nx _ _ z2 _ _ ((s1.trans s2).trans s3) (((r.stb s1).stb s2).stb s3) (m2.mut mu ⟨dx, _, upd_same, RFl.stb s3 (rfl_put (rd.stb s2) h4)⟩)
  | _ => exact (show False from z2).elim
end
end Fg
/-! Fg7: loops, comprehensions, calls. -/
namespace Fg
open PySem PySem.Spec L2
open PyProof.Rows hiding St
/-! ### walking -/
/-- an iterator that yields just these, while stay is so -/
def Wk (X : Cx) (J : It) (H0 : Hp) (ds : List D) (stay : MM → Prop) : Prop := ∀ (i : Nat) (H : Hp) (M : MM), Stb H0 H → RMx X H M → stay M →
  (i = ds.length → J.stop i H) ∧ ∀ d, ds[i]? = some d → J.go i H ∧ ∀ x H', J.yld i H x H' → Stb H H' ∧ RMx X H' M ∧ RD X.K H' d x
abbrev WI := En → MM → (List D → (MM → Prop) → MM → Prop) → QX → Prop
def upI (X : Cx) (W : WX) (t : WI) : TI := fun σ H R => ∃ ρ M K0 E0, RE X.K H ρ σ ∧ RMx X H M ∧ t ρ M K0 E0 ∧
  (∀ ds stay M', K0 ds stay M' → ∀ J H', Stb H H' → RMx X H' M' → Wk X J H' ds stay → R J H') ∧ XGo X W σ H E0
theorem _root_.L2.PI.imp {X : Cx} {tg e : Expr} {t t' : TI} (h : PI X tg e t) (q : ∀ σ H R, t' σ H R → t σ H R) : PI X tg e t' := ⟨fun pins s σ H R I z => h.run pins s σ H R I (q σ H R z)⟩
section
variable {X : Cx} {W : WX} {tg e : Expr} {w : WE}
theorem wk_list {H : Hp} {a : Addr} {vs : List V} {ds : List D} {M : MM} {x : D} (stayL : ∀ M' H', RMx X H' M' → Stb H H' → itemsOf M' x = some ds → ∃ vs', SqL X.K H' a vs' ∧ RDs X.K H' ds vs') : Wk X (Itl X.K a) H ds (fun M' => itemsOf M' x = some ds) := by
  intro i H' M' s m st
  obtain ⟨vs', h1, h2⟩ := stayL M' H' m s st
  refine ⟨fun e => ⟨vs', h1, by rw [← h2.length]; omega⟩, fun d hd => ?_⟩
  obtain ⟨y, h3, h4⟩ := h2.get hd
  refine ⟨⟨vs', y, h1, h3⟩, fun x' H2 hy => ?_⟩
  obtain ⟨e, hy⟩ := hy
  subst e
  have h5 := hy vs' h1
  rw [h3] at h5
  cases h5
  exact ⟨Stb.refl _, m, h4⟩
theorem wk_tup {H : Hp} {a : Addr} {vs : List V} {ds : List D} {stay : MM → Prop} (h1 : SqT X.K H a vs) (h2 : RDs X.K H ds vs) : Wk X (Itt X.K a) H ds stay := by
  intro i H' M' s m st
  have h1 := SqT.stb s h1
  have h2 := RDs.stb s h2
  refine ⟨fun e => ⟨vs, h1, by rw [← h2.length]; omega⟩, fun d hd => ?_⟩
  obtain ⟨y, h3, h4⟩ := h2.get hd
  refine ⟨⟨vs, y, h1, h3⟩, fun x' H2 hy => ?_⟩
  obtain ⟨e, hy⟩ := hy
  subst e
  have h5 := hy vs h1
  rw [h3] at h5
  cases h5
  exact ⟨Stb.refl _, m, h4⟩
/-- a list or a tuple -/
def wWalk (w : WE) : WI := fun ρ M K E => w ρ M (fun x M1 => ∃ ds, itemsOf M1 x = some ds ∧ K ds (fun M' => itemsOf M' x = some ds) M1) E
theorem ui_walk (he : PE X e (upE X W w)) : PI X tg e (upI X W (wWalk w)) := by
  refine ⟨fun pins s σ H R I h => ?_⟩
  obtain ⟨ρ, M, K0, E0, r, m, t, q, xg⟩ := h
  refine thn (he.run pins s σ H (fun x H1 => ∃ d M1 ds, RD X.K H1 d x ∧ RMx X H1 M1 ∧ itemsOf M1 d = some ds ∧ Stb H H1 ∧ K0 ds (fun M' => itemsOf M' d = some ds) M1) I ⟨ρ, M, _, E0, r, m, t, fun d M1 t1 y H1 s1 rd m1 => ?_, xg⟩) fun v s1 hh => ?_
  · obtain ⟨ds, h1, h2⟩ := t1
    exact ⟨d, M1, ds, rd, m1, h1, s1, h2⟩
  · obtain ⟨x, H1, I1, r1, d, M1, ds, rd, m1, h1, sH, h2⟩ := hh
    obtain ⟨a, vs, rfl, hs, hr⟩ := items_sq m1 rd h1
    cases r1
    have hn : H1 s1.heap.objs.size = none := I1.hok.fresh (Nat.le_refl _)
    rcases hs with hs | hs
    · obtain ⟨its, rv, p, hz⟩ := I1.list hs
      refine wpAny_pyIter_list p.isList ?_
      refine ⟨s1.heap.objs.size, [s1.heap.objs.size], _, _, H1, rfl, I1.kept (t' := s1.toks) fun b o e => Heap.get?_push_of_some _ e, turn_list a _, ⟨_, Heap.get?_push_size _ rfl, rfl, rfl⟩, fun b hb => ?_, q ds _ M1 h2 _ H1 sH m1 (wk_list (vs := vs) (M := M1) fun M' H' m' s' st => ?_)⟩
      · have e : b = s1.heap.objs.size := by simpa using hb
        subst e
        exact I1.fpOk (Nat.le_refl _) hn
      · obtain ⟨a', vs', e', hs', hr'⟩ := items_sq m' (rd.stb s') st
        cases e'
        rcases hs' with hs' | hs'
        · exact ⟨vs', hs', hr'⟩
        · cases rd with
          | @tup _ vs2 ds2 g1 g2 =>
            exfalso
            obtain ⟨_, _, ⟨o, e1, e2, _⟩, _⟩ := I1.tuple g1.t
            obtain ⟨_, _, ⟨o2, n2, e3, e4, _⟩, _⟩ := I1.list hs
            rw [e1] at e3
            cases e3
            rw [e2] at e4
            injection e4 with e4
            exact absurd e4 (by decide)
          | @rol _ vs2 ds2 g1 g2 => cases st; exact ⟨vs2, (g1.stb s').sq, g2.stb s'⟩
          | ref _ =>
            unfold itemsOf at st
            cases em : M' a with
            | none => simp only [em] at st; cases st
            | some o =>
              cases o with
              | lst es =>
                simp only [em] at st
                cases st
                obtain ⟨vs3, g1, g2⟩ := m' a _ em
                exact ⟨vs3, SqL.of g1, g2⟩
              | _ => simp only [em] at st; cases st
    · obtain ⟨its, rv, p, hz⟩ := I1.tuple hs.t
      refine wpAny_pyIter_tuple (show s1.heap.IsTuple a its.toArray from p) ?_
      refine ⟨s1.heap.objs.size, [s1.heap.objs.size], _, _, H1, rfl, I1.kept (t' := s1.toks) fun b o e => Heap.get?_push_of_some _ e, turn_tuple a _, ⟨_, Heap.get?_push_size _ rfl, rfl, rfl⟩, fun b hb => ?_, q ds _ M1 h2 _ H1 sH m1 (wk_tup hs hr)⟩
      have e : b = s1.heap.objs.size := by simpa using hb
      subst e
      exact I1.fpOk (Nat.le_refl _) hn
/-- lo, lo + 1, .. -/
def upTo (lo : Int) (n : Nat) : List D := (List.range n).map fun (i : Nat) => D.int (lo + (i : Int))
theorem wk_rng {H : Hp} {lo : Int} {n : Nat} {stay : MM → Prop} : Wk X (Itr lo n) H (upTo lo n) stay := by
  intro i H' M' s m st
  have hl : (upTo lo n).length = n := by unfold upTo; simp
  refine ⟨fun e => ?_, fun d hd => ?_⟩
  · show n ≤ i
    omega
  · have hi : i < n := by
      have := (List.getElem?_eq_some_iff.mp hd).1
      omega
    have ed : d = D.int (lo + (i : Int)) := by
      unfold upTo at hd
      rw [List.getElem?_map, List.getElem?_range hi] at hd
      cases hd; rfl
    refine ⟨hi, fun x' H2 hy => ?_⟩
    obtain ⟨e, hy⟩ := hy
    subst e hy ed
    exact ⟨Stb.refl _, m, .int _⟩
def wRng1 (wa : WA) : WI := fun ρ M K E => wa ρ M (fun xs M1 => ∃ j : Int, xs = [.int j] ∧ -(2 ^ 62) ≤ j ∧ j < 2 ^ 62 ∧ K (upTo 0 j.toNat) (fun _ => True) M1) E
def wRng2 (wa : WA) : WI := fun ρ M K E => wa ρ M (fun xs M1 => ∃ i j : Int, xs = [.int i, .int j] ∧ (-(2 ^ 62) ≤ i ∧ i < 2 ^ 62 ∧ -(2 ^ 62) ≤ j ∧ j < 2 ^ 62) ∧ K (upTo i (j - i).toNat) (fun _ => True) M1) E
theorem rng1_up {wa : WA} (σ : St) (H : Hp) (R : It → Hp → Prop) : upI X W (wRng1 wa) σ H R → iRng1 (upA X W wa) σ H R := fun ⟨ρ, M, K0, E0, r, m, t, q, xg⟩ => by
  refine ⟨ρ, M, _, E0, r, m, t, fun ds M1 t1 ys H1 s1 rd m1 => ?_, xg⟩
  obtain ⟨j, rfl, h1, h2, t1⟩ := t1
  obtain ⟨v, rfl, hv⟩ := rds1 rd
  cases hv
  exact ⟨j, rfl, h1, h2, q _ _ M1 t1 _ H1 s1 m1 wk_rng⟩
theorem ui_rng1 {wa : WA} (h : PI X tg e (iRng1 (upA X W wa))) : PI X tg e (upI X W (wRng1 wa)) := h.imp rng1_up
theorem ui_rng2 {wa : WA} (h : PI X tg e (iRng2 (upA X W wa))) : PI X tg e (upI X W (wRng2 wa)) := h.imp fun σ H R ⟨ρ, M, K0, E0, r, m, t, q, xg⟩ => by
  refine ⟨ρ, M, _, E0, r, m, t, fun ds M1 t1 ys H1 s1 rd m1 => ?_, xg⟩
  obtain ⟨i, j, rfl, h1, t1⟩ := t1
  obtain ⟨v, w, rfl, hv, hw⟩ := rds2 rd
  cases hv
  cases hw
  exact ⟨i, j, rfl, h1, q _ _ M1 t1 _ H1 s1 m1 wk_rng⟩
end
/-! ### for -/
/-- the loop over these items -/
def loopD (stay : MM → Prop) (g : WG) (b : WS) : List D → WS
  | [] => fun ρ M N _ => stay M ∧ N.nx ρ M
  | d :: ds => fun ρ M N E => stay M ∧ g d ρ M (fun ρ1 M1 => b ρ1 M1 { nx := fun ρ2 M2 => loopD stay g b ds ρ2 M2 N E, ct := fun ρ2 M2 => loopD stay g b ds ρ2 M2 N E, bk := N.nx, rt := N.rt } E) (fun x M1 => E x ρ M1)
def wFor (wi : WI) (g : WG) (b : WS) : WS := fun ρ M N E => wi ρ M (fun ds stay M1 => loopD stay g b ds ρ M1 N E) (fun x M1 => E x ρ M1)
theorem loopD_stay {stay : MM → Prop} {g : WG} {b : WS} {ds : List D} {ρ : En} {M : MM} {N : EndsD} {E : QS} (h : loopD stay g b ds ρ M N E) : stay M := by
  cases ds with
  | nil => exact h.1
  | cons d ds => exact h.1
section
variable {X : Cx} {W : WX} {tg iter : Expr} {body : List Stmt} {wi : WI} {g : WG} {b : WS} {pos : Pos}
theorem us_for (hp : PassesOwn (model X.prog X.w) X.A X.env X.xe) (hc : X.calm = true) (hi : PI X tg iter (upI X W wi)) (hg : PG X tg (upG X W g)) (hb : PSs X body (upS X W b)) (hs : ∀ x, foldedSetIterable iter X.env x = pure x) :
    PS X (.For tg iter body [] pos) (upS X W (wFor wi g b)) := (ps_for hp hc hi hg hb hs).imp fun B σ H ⟨ρ, M, N, E0, r, m, z, gg, xg⟩ => by
  refine ⟨ρ, M, _, _, r, m, z, fun ds stay M1 z1 J H1 s1 m1 wk => ?_, xg.at_ r⟩
  refine ⟨fun i k σ' H' => i ≤ ds.length ∧ k = ds.length - i ∧ ∃ ρ' M', RE X.K H' ρ' σ' ∧ RMx X H' M' ∧ Stb H1 H' ∧ loopD stay g b (ds.drop i) ρ' M' N E0, ⟨_, Nat.zero_le _, rfl, ρ, M1, r.stb s1, m1, Stb.refl _, z1⟩, ?_⟩
  rintro i k σ' H' ⟨hi, rfl, ρ', M', r', m', s', z'⟩
  have st := loopD_stay z'
  obtain ⟨w1, w2⟩ := wk i H' M' s' m' st
  by_cases hlt : i < ds.length
  · have hd : ds[i]? = some ds[i] := by simp [hlt]
    obtain ⟨go, yl⟩ := w2 _ hd
    rw [List.drop_eq_getElem_cons hlt] at z'
    refine .inr ⟨go, fun σ2 H2 => ∃ ρ2 M2, RE X.K H2 ρ2 σ2 ∧ RMx X H2 M2 ∧ Stb H1 H2 ∧ loopD stay g b (ds.drop (i + 1)) ρ2 M2 N E0, fun σ2 H2 ⟨ρ2, M2, a1, a2, a3, a4⟩ => ⟨ds.length - (i + 1), by omega, hlt, rfl, ρ2, M2, a1, a2, a3, a4⟩, fun x H2 hy => ?_⟩
    obtain ⟨s2, m2, rd⟩ := yl x H2 hy
    obtain ⟨_, z'⟩ := z'
    have s12 := s'.trans s2
    refine ⟨_, ρ', M', _, _, rd, r'.stb s2, m2, z', fun ρ3 M3 z3 σ3 H3 s3 r3 m3 _ => ?_, (xg.stb ((s1.trans s12))).at_ (r'.stb s2)⟩
    have s13 := s12.trans s3
    refine ⟨ρ3, M3, _, E0, r3, m3, z3, ⟨fun ρ4 M4 z4 σ4 H4 s4 r4 m4 => ⟨ρ4, M4, r4, m4, s13.trans s4, z4⟩, (gg.stb (s1.trans s13)).rt, (gg.stb (s1.trans s13)).nx, fun ρ4 M4 z4 σ4 H4 s4 r4 m4 => ⟨ρ4, M4, r4, m4, s13.trans s4, z4⟩⟩, xg.stb (s1.trans s13)⟩
  · have e : i = ds.length := by omega
    subst e
    rw [List.drop_length] at z'
    exact .inl ⟨w1 rfl, gg.nx _ _ z'.2 _ _ (s1.trans s') r' m'⟩
/-! ### while: so many turns at most -/
def whileD (c : WB) (b : WS) : Nat → WS
  | 0 => fun _ _ _ _ => False
  | n + 1 => fun ρ M N E => c ρ M (fun k M1 => if k = true then b ρ M1 { nx := fun ρ2 M2 => whileD c b n ρ2 M2 N E, ct := fun ρ2 M2 => whileD c b n ρ2 M2 N E, bk := N.nx, rt := N.rt } E else N.nx ρ M1) (fun x M1 => E x ρ M1)
def wWhile (c : WB) (b : WS) : WS := fun ρ M N E => ∃ n, whileD c b n ρ M N E
theorem us_while {c : Expr} {wc : WB} (hp : PassesOwn (model X.prog X.w) X.A X.env X.xe) (hc : PT X c (upB X W wc)) (hb : PSs X body (upS X W b)) : PS X (.While c body [] pos) (upS X W (wWhile wc b)) := (ps_while hp hc hb).imp fun B σ H ⟨ρ, M, N, E0, r, m, ⟨n, z⟩, gg, xg⟩ => by
  refine ⟨fun k σ' H' => ∃ ρ' M', RE X.K H' ρ' σ' ∧ RMx X H' M' ∧ Stb H H' ∧ whileD wc b k ρ' M' N E0, ⟨n, ρ, M, r, m, Stb.refl _, z⟩, ?_⟩
  rintro k σ' H' ⟨ρ', M', r', m', s', z'⟩
  cases k with
  | zero => exact (show False from z').elim
  | succ k =>
    refine ⟨ρ', M', _, _, r', m', z', fun j M1 z1 H1 s1 m1 => ?_, (xg.stb s').at_ r'⟩
    cases j with
    | true =>
      have s2 := s'.trans s1
      exact ⟨fun σ2 H2 => ∃ ρ2 M2, RE X.K H2 ρ2 σ2 ∧ RMx X H2 M2 ∧ Stb H H2 ∧ whileD wc b k ρ2 M2 N E0, fun σ2 H2 h => ⟨k, Nat.lt_succ_self _, h⟩,
        ρ', M1, _, E0, r'.stb s1, m1, z1, ⟨fun ρ4 M4 z4 σ4 H4 s4 r4 m4 => ⟨ρ4, M4, r4, m4, s2.trans s4, z4⟩, (gg.stb s2).rt, (gg.stb s2).nx, fun ρ4 M4 z4 σ4 H4 s4 r4 m4 => ⟨ρ4, M4, r4, m4, s2.trans s4, z4⟩⟩, xg.stb s2⟩
    | false => exact gg.nx _ _ z1 _ _ (s'.trans s1) (r'.stb s1) m1
end
/-! ### comprehensions -/
def wipeD (ρ : En) : List Nat → En
  | [] => ρ
  | v :: vs => (wipeD ρ vs).set v none
abbrev noX : QX := fun _ _ => False
theorem RE.clear {K : PySem.W.Frag} {H : Hp} {ρ : En} {σ : St} (i : Nat) (h : RE K H ρ σ) : RE K H (ρ.set i none) (σ.set i none) := by
  refine ⟨by rw [List.length_set, List.length_set]; exact h.1, fun j e q => ?_⟩
  by_cases hj : i = j
  · subst hj
    by_cases hl : i < ρ.length
    · rw [List.getElem?_set_self hl] at q; cases q
    · rw [List.getElem?_eq_none (by simpa using hl)] at q; cases q
  · rw [List.getElem?_set_ne hj] at q
    obtain ⟨z, h1, h2⟩ := h.2 j e q
    exact ⟨z, by rw [List.getElem?_set_ne hj]; exact h1, h2⟩
theorem RE.wipe {K : PySem.W.Frag} {H : Hp} {ρ : En} {σ : St} (h : RE K H ρ σ) : ∀ vs : List Nat, RE K H (wipeD ρ vs) (wipe σ vs)
  | [] => h
  | v :: vs => (RE.wipe h vs).clear v
/-- the items taken one by one, the list at p growing -/
def lcD (stay : MM → Prop) (p : Addr) (ρ0 : En) (g : WG) (tt : WB) (te : WE) : List D → List D → MM → (MM → Prop) → Prop
  | [], acc, M, K => stay M ∧ M p = some (.lst acc) ∧ K M
  | d :: ds, acc, M, K => stay M ∧ g d ρ0 M (fun ρ1 M1 => tt ρ1 M1 (fun k M2 => if k = true then te ρ1 M2 (fun y M3 => M3 p = some (.lst acc) ∧ acc.length < sizeLine ∧ lcD stay p ρ0 g tt te ds (acc ++ [y]) (up M3 p (.lst (acc ++ [y]))) K) noX
      else lcD stay p ρ0 g tt te ds acc M2 K) noX) noX
def wLc (wi : WI) (own : List Nat) (g : WG) (tt : WB) (te : WE) : WE := fun ρ M Q E => wi ρ M (fun ds stay M1 => ∀ p, M1 p = none → lcD stay p (wipeD ρ own) g tt te ds [] (up M1 p (.lst [])) fun M2 => Q (.ref p) M2) E
theorem lcD_stay {stay : MM → Prop} {p : Addr} {ρ0 : En} {g : WG} {tt : WB} {te : WE} {ds acc : List D} {M : MM} {K : MM → Prop} (h : lcD stay p ρ0 g tt te ds acc M K) : stay M := by
  cases ds with
  | nil => exact h.1
  | cons d ds => exact h.1
/-- the wishes within a block: nothing leaves -/
abbrev W0 : WX := fun _ _ _ _ => False
theorem XGo.no {X : Cx} {σ : St} {H : Hp} : XGo X W0 σ H noX := fun _ _ h => h.elim
section
variable {X : Cx} {W : WX}
/-- what a store within a comprehension leaves of the slots -/
abbrev ownR (own : List Nat) : SR := fun σ σ' => wipe σ' own = wipe σ own
theorem wipe_get {σ : St} : ∀ {vs : List Nat} {i : Nat}, (wipe σ vs)[i]? = if i ∈ vs then (σ[i]?).map fun _ => none else σ[i]?
  | [], i => by simp [wipe]
  | v :: vs, i => by
    unfold wipe
    by_cases h : v = i
    · subst h
      by_cases hl : v < (wipe σ vs).length
      · rw [List.getElem?_set_self hl, if_pos List.mem_cons_self]
        rw [wipe_length] at hl
        rw [List.getElem?_eq_getElem hl]; rfl
      · rw [List.getElem?_eq_none (by simpa using hl), if_pos List.mem_cons_self]
        rw [wipe_length] at hl
        rw [List.getElem?_eq_none (by omega)]; rfl
    · rw [List.getElem?_set_ne h, wipe_get]
      have e : (i ∈ v :: vs) = (i ∈ vs) := by
        rw [List.mem_cons]
        exact propext ⟨fun z => z.resolve_left fun q => h q.symm, .inr⟩
      simp only [e]
theorem wipe_wipe (σ : St) (vs : List Nat) : wipe (wipe σ vs) vs = wipe σ vs := by
  apply List.ext_getElem?
  intro i
  rw [wipe_get, wipe_get]
  by_cases h : i ∈ vs
  · rw [if_pos h, if_pos h]
    cases σ[i]? <;> rfl
  · rw [if_neg h, if_neg h]
theorem ownR_set {own : List Nat} {i : Nat} (h : i ∈ own) (σ : St) (v : Option V) : ownR own σ (σ.set i v) := by
  apply List.ext_getElem?
  intro j
  rw [wipe_get, wipe_get]
  by_cases hj : j ∈ own
  · rw [if_pos hj, if_pos hj]
    by_cases e : i = j
    · subst e
      by_cases hl : i < σ.length
      · rw [List.getElem?_set_self hl, List.getElem?_eq_getElem hl]; rfl
      · rw [List.getElem?_eq_none (by simpa using hl), List.getElem?_eq_none (by omega)]
    · rw [List.getElem?_set_ne e]
  · rw [if_neg hj, if_neg hj, List.getElem?_set_ne (fun (e : i = j) => hj (e ▸ h))]
theorem tLc_of {wi : WI} {own : List Nat} {g : WG} {tt : WB} {te : WE} {σ : St} {H : Hp} {Q : VK} (h : upE X W (wLc wi own g tt te) σ H Q) : tLc (upI X W wi) (upGR X W0 (ownR own) g) (upB X W0 tt) (upE X W0 te) own σ H Q := by
  obtain ⟨ρ, M, Q0, E0, r, m, t, q, xg⟩ := h
  refine ⟨ρ, M, _, E0, r, m, t, fun ds stay M1 t1 J H1 s1 m1 wk => ?_, xg⟩
  intro p hp
  have z0 := t1 p (m1.fresh hp)
  have sN : Stb H1 (upd H1 p (.lst [])) := Stb.new hp
  refine ⟨fun i k H' => i ≤ ds.length ∧ k = ds.length - i ∧ ∃ acc M', RMx X H' M' ∧ Stb (upd H1 p (.lst [])) H' ∧ lcD stay p (wipeD ρ own) g tt te (ds.drop i) acc M' fun M2 => Q0 (.ref p) M2, ⟨_, Nat.zero_le _, rfl, [], _, m1.new (o := .lst []) hp ⟨[], upd_same, .nil⟩, Stb.refl _, z0⟩, ?_⟩
  rintro i k H' ⟨hi, rfl, acc, M', m', s', z'⟩
  have st := lcD_stay z'
  have sT := sN.trans s'
  obtain ⟨w1, w2⟩ := wk i H' M' sT m' st
  by_cases hlt : i < ds.length
  · have hd : ds[i]? = some ds[i] := by simp [hlt]
    obtain ⟨go, yl⟩ := w2 _ hd
    rw [List.drop_eq_getElem_cons hlt] at z'
    refine .inr ⟨go, fun H2 => ∃ acc M2, RMx X H2 M2 ∧ Stb (upd H1 p (.lst [])) H2 ∧ lcD stay p (wipeD ρ own) g tt te (ds.drop (i + 1)) acc M2 fun M2 => Q0 (.ref p) M2, fun H2 ⟨acc, M2, a2, a3, a4⟩ => ⟨ds.length - (i + 1), by omega, hlt, rfl, acc, M2, a2, a3, a4⟩, fun x H2 hy => ?_⟩
    obtain ⟨s2, m2, rd⟩ := yl x H2 hy
    obtain ⟨_, z'⟩ := z'
    have rw_ : RE X.K H2 (wipeD ρ own) (wipe σ own) := (((r.stb s1).stb sT).stb s2).wipe own
    refine ⟨_, _, M', _, noX, rd, rw_, m2, z', fun ρ3 M3 z3 σ3 H3 s3 r3 m3 hR => ⟨by rw [show wipe σ3 own = wipe (wipe σ own) own from hR, wipe_wipe], ?_⟩, XGo.no⟩
    refine ⟨ρ3, M3, _, noX, r3, m3, z3, fun b M4 z4 H4 s4 m4 => ?_, XGo.no⟩
    have s14 := s'.trans ((s2.trans s3).trans s4)
    cases b with
    | false => exact ⟨acc, M4, m4, s14, z4⟩
    | true =>
      refine ⟨ρ3, M4, _, noX, r3.stb s4, m4, z4, fun y M5 z5 v H5 s5 rd5 m5 => ?_, XGo.no⟩
      obtain ⟨h1, h2, h5⟩ := z5
      obtain ⟨vs, h3, h4⟩ := m5 p _ h1
      have mu : Mut (H5 p) := by rw [h3]; trivial
      refine ⟨vs, h3, by rw [← h4.length]; exact h2, _, _, m5.mut (o := .lst (acc ++ [y])) mu ⟨vs ++ [v], upd_same, RDs.stb (Stb.mut mu) (h4.append (.cons rd5 .nil))⟩, (s14.trans s5).trans (Stb.mut mu), h5⟩
  · have e : i = ds.length := by omega
    subst e
    rw [List.drop_length] at z'
    exact .inl ⟨w1 rfl, q _ _ z'.2.2 _ _ (s1.trans sT) (.ref p) m'⟩
end
end Fg
/-! Fg8: displays, calls of the text's own defs and methods, of built-ins and their methods. -/
namespace Fg
open PySem PySem.Spec L2
open PyProof.Rows hiding St
/-! ### side conditions by form -/
def isCall0 : Expr → Bool
  | .Call (.Name _ _) [] [] _ => true
  | _ => false
theorem base_of {o : Expr} {a : Str} {env : PySem.Env} {w : Sem Value} (h : isCall0 o = false) : attributeBase o a env w = w := by
  unfold attributeBase
  cases o <;> try rfl
  rename_i f as ks p
  cases f <;> try rfl
  cases as <;> try rfl
  cases ks <;> try rfl
  cases h
def noStar : Expr → Bool
  | .Starred _ _ => false
  | _ => true
theorem star_cons {e : Expr} {es : List Expr} {env : PySem.Env} (h : noStar e = true) : starEach (e :: es) env = (false, eval e env) :: starEach es env := by
  cases e <;> first | rfl | cases h
theorem star_plain {env : PySem.Env} {pos : Pos} : ∀ {es : List Expr}, es.all noStar = true → (backTo pos (starEach es env)).any (·.1) = false
  | [], _ => rfl
  | e :: es, h => by
    rw [List.all_cons, Bool.and_eq_true] at h
    rw [star_cons h.1]
    show (false || (backTo pos (starEach es env)).any (·.1)) = false
    rw [star_plain h.2]; rfl
theorem star_allN {env : PySem.Env} {pos : Pos} : ∀ {es : List Expr}, es.all noStar = true → (backTo pos (starEach es env)).all (fun x => !x.1) = true
  | [], _ => rfl
  | e :: es, h => by
    rw [List.all_cons, Bool.and_eq_true] at h
    rw [star_cons h.1]
    show (true && (backTo pos (starEach es env)).all (fun x => !x.1)) = true
    rw [star_allN h.2]; rfl
def isComp : Expr → Bool
  | .ListComp _ _ _ _ => true
  | .SetComp _ _ _ _ => true
  | .DictComp _ _ _ _ _ => true
  | _ => false
theorem swap_no {e : Expr} {t : Option Expr} {l : Nat} {env : PySem.Env} (h : isComp e = false) : swapsWith e t l env = pure false := by
  cases e <;> first | rfl | cases h
def isSet : Expr → Bool
  | .Set _ _ _ => true
  | _ => false
theorem fold_no {e : Expr} {env : PySem.Env} (h : isSet e = false) (x : Value) : foldedSetIterable e env x = pure x := by
  cases e <;> first | rfl | cases h
section
variable {X : Cx} {W : WX} {e : Expr} {es : List Expr} {pos : Pos}
/-! ### displays -/
def wTup (wa : WA) : WE := fun ρ M Q E => wa ρ M (fun ds M1 => ds.length ≤ sizeLine ∧ Q (.tup ds) M1) E
def wLst (wa : WA) : WE := fun ρ M Q E => wa ρ M (fun ds M1 => ds.length ≤ sizeLine ∧ ∀ p, M1 p = none → Q (.ref p) (up M1 p (.lst ds))) E
theorem ue_tup {wa : WA} {k : Nat} (h : PA X es (upA X W wa)) : PE X (.Tuple es k pos) (upE X W (wTup wa)) := by
  refine ⟨fun pins s σ H Q I ⟨ρ, M, Q0, E0, r, m, t, q, xg⟩ => ?_⟩
  refine wpAny_Tuple_spliced (thn (h.run pos pins s σ H (fun ys H1 => ∃ ds M1, RDs X.K H1 ds ys ∧ RMx X H1 M1 ∧ Stb H H1 ∧ ds.length ≤ sizeLine ∧ Q0 (.tup ds) M1) I ⟨ρ, M, _, E0, r, m, t, fun ds M1 t1 ys H1 s1 rd m1 => ⟨ds, M1, rd, m1, s1, t1.1, t1.2⟩, xg⟩) fun us s1 ⟨xs, H1, I1, rv, ds, M1, rd, m1, sH, z, t1⟩ => ?_)
  have z' : xs.length ≤ sizeLine := by rw [← rd.length]; exact z
  have hp := I1.hok.fresh (Nat.le_refl s1.heap.objs.size)
  refine ⟨by rw [← rv.length]; exact z', .ref s1.heap.objs.size, _, I1.laid (t' := s1.toks) (fun c oc w => Heap.get?_push_of_some _ w) (Nat.le_refl _) (tup_ok (Heap.get?_push_size _ rfl) rv z'), rfl, ?_⟩
  exact q _ _ t1 _ _ (sH.trans (Stb.new hp)) (.tup sqN_new (RDs.stb (Stb.new hp) rd)) (m1.laid hp)
theorem ue_lst {wa : WA} (h : PA X es (upA X W wa)) : PE X (.List es pos) (upE X W (wLst wa)) := (pe_lst h).imp fun σ H Q ⟨ρ, M, Q0, E0, r, m, t, q, xg⟩ =>
  ⟨ρ, M, _, E0, r, m, t, fun ds M1 t1 ys H1 s1 rd m1 => ⟨by rw [← rd.length]; exact t1.1, fun p hp => q _ _ (t1.2 p (m1.fresh hp)) _ _ (s1.trans (Stb.new hp)) (.ref p) (m1.new (o := .lst ds) hp ⟨ys, upd_same, RDs.stb (Stb.new hp) rd⟩)⟩, xg⟩
def dct0 : Obj := { cls := .type "dict", data := .dict #[] }
theorem raw_empty {P : Program} {w : World} {H : Hp} (h : Heap) : ObjOk P w (upd H h.objs.size (rawO h.objs.size dct0)) (h.push dct0) h.objs.size (rawO h.objs.size dct0) :=
  raw_ok (Heap.get?_push_size _ rfl)
theorem sys_no {pins : List (Addr × Obj)} {σ : St} {H : Hp} {s : Shared} (I : Inv X pins σ H s) {a : Addr} (h : s.heap.objs.size ≤ a) : (a == sysModules) = false := by
  have hb := I.big
  rw [beq_eq_false_iff_ne]
  intro z
  rw [z] at h
  exact absurd (Nat.lt_of_lt_of_le hb h) (Nat.lt_irrefl _)
/-- {} -/
def wDct0 : WE := fun _ M Q _ => ∀ p, M p = none → Q (.ref p) (up M p (.dct dct0 []))
theorem ue_dct0 : PE X (.Dict [] [] pos) (upE X W wDct0) := ⟨fun pins s σ H Q I ⟨ρ, M, Q0, E0, r, m, t, q, xg⟩ => by
  have hp : H s.heap.objs.size = none := I.hok.fresh (Nat.le_refl _)
  refine wpAny_Dict_empty ⟨.ref s.heap.objs.size, _, I.laid (a := s.heap.objs.size) (o := rawO s.heap.objs.size dct0) (t' := s.toks) (fun _ _ q => Heap.get?_push_of_some _ q) (Nat.le_refl _) (raw_empty s.heap), rfl, ?_⟩
  exact q _ _ (t _ (m.fresh hp)) _ _ (Stb.new hp) (.ref _) (m.new (o := .dct dct0 []) hp ⟨[], 0, upd_same, ⟨rfl, rfl, rfl⟩, rfl, sys_no I (Nat.le_refl _), Nat.zero_le _, .inl (fun p h => nomatch h), List.nodup_nil, .nil⟩)⟩
end
/-! ### defs of the text -/
/-- a def's promise over data -/
abbrev SpD := List D → MM → QD → QX → Prop
def upSp (K : PySem.W.Frag) (w : World) (sp : SpD) : Sp := fun vs H Q E => ∃ ds M Q0 E0, RDs K H ds vs ∧ RM K w H M ∧ sp ds M Q0 E0 ∧ (∀ d M', Q0 d M' → ∀ y H', Stb H H' → RD K H' d y → RM K w H' M' → Q y H') ∧
  ∀ x M', E0 x M' → ∀ cls d H', Stb H H' → RX K H' M' x cls d → RM K w H' M' → E cls d H'
/-- what a text's def needs to be called: k its level -/
def FnAt (P : Program) (w : World) (K : PySem.W.Frag) (mg : Str → Option Value) (base : Heap) (k : Nat) (f : Addr) (sp : SpD) : Prop :=
  ∃ fd ps, FnOk P w K mg base (L2N.CX P w) k f fd ps (upSp K w sp) ∧ PySem.W.keepIn K (.ref f) = true ∧ Binds K fd ps []
def FnHas (P : Program) (w : World) (K : PySem.W.Frag) (mg : Str → Option Value) (base : Heap) (k : Nat) (x : Str) (sp : SpD) : Prop := ∃ f, mg x = some (.ref f) ∧ FnAt P w K mg base k f sp
/-- a method m of the class c -/
def MtHas (P : Program) (w : World) (K : PySem.W.Frag) (mg : Str → Option Value) (base : Heap) (k : Nat) (c m : Str) (sp : SpD) : Prop := Cls K (He.ga K c) ∧ ∃ f, Meth K (He.ga K c) m f ∧ FnAt P w K mg base k f sp
/-- a class c, made by its __init__ -/
def MkHas (P : Program) (w : World) (K : PySem.W.Frag) (mg : Str → Option Value) (base : Heap) (k : Nat) (c : Str) (sp : SpD) : Prop := mg c = some (.ref (He.ga K c)) ∧ ∃ f, Mk K (He.ga K c) f ∧ FnAt P w K mg base k f sp
def wCall (sp : SpD) (wa : WA) : WE := fun ρ M Q E => wa ρ M (fun ds M1 => sp ds M1 Q E) E
def wMeth (m : Str) (alts : List (Str × SpD)) (wo : WE) (wa : WA) : WE := fun ρ M Q E => wo ρ M (fun o M1 => match o with
  | .ref a => ∃ p ∈ alts, ∃ fs, M1 a = some (.ins p.1 fs) ∧ fget fs m = none ∧ wa ρ M1 (fun ds M2 => p.2 (.ref a :: ds) M2 Q E) E
  | _ => False) E
def wMake (c : Str) (sp : SpD) (wa : WA) : WE := fun ρ M Q E => wa ρ M (fun ds M1 => ∀ p, M1 p = none → sp (.ref p :: ds) (up M1 p (.ins c [])) (fun d M2 => d = .non ∧ Q (.ref p) M2) E) E
section
variable {X : Cx} {W : WX} {e o : Expr} {es : List Expr} {pos p apos : Pos} {x m : Str} {k : Nat} {sp : SpD} {wa : WA}
theorem upSp_of {H : Hp} {σ : St} {Q : VK} {ys : List V} {ds : List D} {M1 : MM} {Q0 : QD} {E0 : QX} (rd : RDs X.K H ds ys) (m1 : RMx X H M1) (t1 : sp ds M1 Q0 E0) (q : ∀ d M', Q0 d M' → ∀ y H', Stb H H' → RD X.K H' d y → RMx X H' M' → Q y H') (xg : XGo X W σ H E0) :
    upSp X.K X.w sp ys H Q (L2.WE W σ) := ⟨ds, M1, Q0, E0, rd, m1, t1, q, fun x M' hx cls d H' s' rx m' => xg x M' hx cls d H' s' rx m'⟩
/-- a callee runs -/
theorem run_at {pins : List (Addr × Obj)} {σ : St} {H : Hp} {s : Shared} {Q : VK} {us : List Value} {vs : List V} {f : Addr} (hf : FnAt X.prog X.w X.K X.mg X.base k f sp) (hr : Room k X.A) (tk : L2N.Takes X W) (I : Inv X pins σ H s) (r : Vals vs us)
    (h : upSp X.K X.w sp vs H Q (L2.WE W σ)) : wpAny (model X.prog X.w) X.A (call (.ref f) us) (EP X pins σ Q) X.xe s := by
  obtain ⟨fd, ps, F, kp, bd⟩ := hf
  exact run_fnSD (E := L2.WE W) (dvs := []) F hr bd .nil (L2N.passAt tk σ) I r (by rw [List.append_nil]; exact h)
theorem ue_call (hf : FnHas X.prog X.w X.K X.mg X.base k x sp) (hr : Room k X.A) (tk : L2N.Takes X W) (hg : Gl X x) (hdb : (x == ("__debug__" : Str)) = false) (ha : PA X (e :: es) (upA X W wa)) (hs : (e :: es).all noStar = true) :
    PE X (.Call (.Name x p) (e :: es) [] pos) (upE X W (wCall sp wa)) := by
  obtain ⟨f, hm, hf⟩ := hf
  obtain ⟨fd, ps, F, kp, bd⟩ := id hf
  refine ⟨fun pins s σ H Q I h => ?_⟩
  obtain ⟨ρ, M, Q0, E0, r, m, t, q, xg⟩ := h
  have run : ∀ {H1 : Hp} {s1 : Shared} {vs : List V} {us : List Value}, Inv X pins σ H1 s1 → Vals vs us → upSp X.K X.w sp vs H1 Q (L2.WE W σ) → wpAny (model X.prog X.w) X.A (call (.ref f) us) (EP X pins σ Q) X.xe s1 := fun I1 rv z => run_at hf hr tk I1 rv z
  have pas : upA X W wa σ H fun ys H1 => upSp X.K X.w sp ys H1 Q (L2.WE W σ) := ⟨ρ, M, _, E0, r, m, t, fun ds M1 t1 ys H1 s1 rd m1 => upSp_of rd m1 t1 (fun d M' qd y H' s' => q d M' qd y H' (s1.trans s')) (xg.stb s1), xg⟩
  refine wpAny_Call_Name_kw (ld_glob I hg hm ?_ hdb)
  rw [List.all_cons, Bool.and_eq_true] at hs
  exact PySem.W.callWith_K (h₀ := X.base) I.ok.mod.kin kp (thn (ha.run pos pins s σ H _ I pas) fun us s1 ⟨vs, H1, I1, rv, z⟩ => ⟨I1.kIn, run I1 rv z⟩) (star_cons hs.1) (star_plain hs.2)
theorem ue_call0 (hf : FnHas X.prog X.w X.K X.mg X.base k x sp) (hr : Room k X.A) (tk : L2N.Takes X W) (hg : Gl X x) (hdb : (x == ("__debug__" : Str)) = false) :
    PE X (.Call (.Name x p) [] [] pos) (upE X W (wCall sp wNil)) := by
  obtain ⟨f, hm, hf⟩ := hf
  obtain ⟨fd, ps, F, kp, bd⟩ := id hf
  refine ⟨fun pins s σ H Q I ⟨ρ, M, Q0, E0, r, m, t, q, xg⟩ => ?_⟩
  refine wpAny_Call_Name_kw (ld_glob I hg hm ?_ hdb)
  exact PySem.W.callWith_K0 I.kIn kp (run_at hf hr tk I .nil (upSp_of .nil m t (fun d M' qd y H' s' => q d M' qd y H' s') xg))
/-- how o.m(..) is evaluated -/
theorem meth_eq {env : PySem.Env} (hb : isCall0 o = false) (hs : es.all noStar = true) (hn : es.length < 29) (hl : (apos.endLine == pos.line) = true) :
    eval (.Call (.Attribute o m apos) es [] pos) env = (do
      let ov ← eval o env
      standAt apos.atName
      let (f, first) ← holding [ov] (getMethod ov m (do return (← importBound o env).getD true))
      callWith pos f first (backTo pos (starEach es env)) (backToKw pos (keywordEach [] env))) := by
  have hform : methodCallForm (es.length + ([] : List Keyword).length) (backTo pos (starEach es env)) (backToKw pos (keywordEach [] env)) = true := by
    unfold methodCallForm
    rw [star_allN hs]
    simp [keywordEach, backToKw]
    omega
  have hpos : methodCallPos true o env apos pos = pure pos := by unfold methodCallPos; simp [hl]
  rw [arm_eval_Call, base_of hb]
  unfold methodCall calleeOf
  rw [hform, hpos]
  simp
theorem ue_meth {wo : WE} {alts : List (Str × SpD)} (hf : ∀ q ∈ alts, MtHas X.prog X.w X.K X.mg X.base k q.1 m q.2) (hr : Room k X.A) (tk : L2N.Takes X W) (ho : PE X o (upE X W wo)) (ha : PA X (e :: es) (upA X W wa)) (hs : (e :: es).all noStar = true)
    (hb : isCall0 o = false) (hn : (e :: es).length < 29) (hl : (apos.endLine == pos.line) = true) : PE X (.Call (.Attribute o m apos) (e :: es) [] pos) (upE X W (wMeth m alts wo wa)) := by
  have hs' := hs
  refine ⟨fun pins s σ H Q I h => ?_⟩
  obtain ⟨ρ, M, Q0, E0, r, mm, t, q, xg⟩ := h
  refine PySem.W.methodCall_KW (thn (ho.run pins s σ H (fun y H1 => ∃ a M1 sp c fs f, y = .ref a ∧ RMx X H1 M1 ∧ Stb H H1 ∧ M1 a = some (.ins c fs) ∧ fget fs m = none ∧ Cls X.K (He.ga X.K c) ∧ Meth X.K (He.ga X.K c) m f ∧ FnAt X.prog X.w X.K X.mg X.base k f sp ∧
    wa ρ M1 (fun ds M2 => sp (.ref a :: ds) M2 Q0 E0) E0) I ⟨ρ, M, _, E0, r, mm, t, fun d M1 t1 y H1 s1 rd m1 => ?_, xg⟩) fun u s1 hh => ?_) (meth_eq hb hs' hn hl)
  · cases d with
    | ref a =>
      obtain ⟨pr, hp, fs, h1, h2, t1⟩ := t1
      obtain ⟨c1, f, c2, c3⟩ := hf pr hp
      cases rd
      exact ⟨a, M1, pr.2, pr.1, fs, f, rfl, m1, s1, h1, h2, c1, c2, c3, t1⟩
    | _ => exact (show False from t1).elim
  · obtain ⟨y, H1, I1, ry, a, M1, sp, c, fs, f, rfl, m1, s1', h1, h2, c1, c2, c3, t1⟩ := hh
    obtain rfl : u = Value.ref a := ry
    obtain ⟨dx, vs, h3, h4⟩ := m1 a _ h1
    refine getmeth_ok I1 h3 c1 c2 (rfl_none h4 h2) ?_
    have pas : upA X W wa σ H1 fun ys H2 => upSp X.K X.w sp (.ref a :: ys) H2 Q (L2.WE W σ) := ⟨ρ, M1, _, E0, r.stb s1', m1, t1, fun ds M2 t2 ys H2 s2 rd m2 => upSp_of (.cons (.ref a) rd) m2 t2 (fun d M' qd y H' s' => q d M' qd y H' ((s1'.trans s2).trans s')) (xg.stb (s1'.trans s2)), xg.stb s1'⟩
    have run : ∀ {H2 : Hp} {s2 : Shared} {vs : List V} {us : List Value}, Inv X pins σ H2 s2 → Vals vs us → upSp X.K X.w sp (.ref a :: vs) H2 Q (L2.WE W σ) → wpAny (model X.prog X.w) X.A (call (.ref f) (.ref a :: us)) (EP X pins σ Q) X.xe s2 := fun {H2 s2 zs us} I2 rv z =>
      run_at (vs := .ref a :: zs) (us := .ref a :: us) c3 hr tk I2 (.cons (rfl : RelV (V.ref a) (Value.ref a)) rv) z
    rw [List.all_cons, Bool.and_eq_true] at hs
    exact PySem.W.callWith_K (first := [.ref a]) (h₀ := X.base) I.ok.mod.kin c2.kp (thn (ha.run pos pins s1 σ H1 _ I1 pas) fun us s2 ⟨vs, H2, I2, rv, z⟩ => ⟨I2.kIn, run I2 rv z⟩) (star_cons hs.1) (star_plain hs.2)
theorem ue_meth0 {wo : WE} {alts : List (Str × SpD)} (hf : ∀ q ∈ alts, MtHas X.prog X.w X.K X.mg X.base k q.1 m q.2) (hr : Room k X.A) (tk : L2N.Takes X W) (ho : PE X o (upE X W wo)) 
    (hb : isCall0 o = false) (hl : (apos.endLine == pos.line) = true) : PE X (.Call (.Attribute o m apos) [] [] pos) (upE X W (wMeth m alts wo wNil)) := by
  refine ⟨fun pins s σ H Q I h => ?_⟩
  obtain ⟨ρ, M, Q0, E0, r, mm, t, q, xg⟩ := h
  refine PySem.W.methodCall_KW (thn (ho.run pins s σ H (fun y H1 => ∃ a M1 sp c fs f, y = .ref a ∧ RMx X H1 M1 ∧ Stb H H1 ∧ M1 a = some (.ins c fs) ∧ fget fs m = none ∧ Cls X.K (He.ga X.K c) ∧ Meth X.K (He.ga X.K c) m f ∧ FnAt X.prog X.w X.K X.mg X.base k f sp ∧
    wNil ρ M1 (fun ds M2 => sp (.ref a :: ds) M2 Q0 E0) E0) I ⟨ρ, M, _, E0, r, mm, t, fun d M1 t1 y H1 s1 rd m1 => ?_, xg⟩) fun u s1 hh => ?_) (meth_eq hb rfl (by decide) hl)
  · cases d with
    | ref a =>
      obtain ⟨pr, hp, fs, h1, h2, t1⟩ := t1
      obtain ⟨c1, f, c2, c3⟩ := hf pr hp
      cases rd
      exact ⟨a, M1, pr.2, pr.1, fs, f, rfl, m1, s1, h1, h2, c1, c2, c3, t1⟩
    | _ => exact (show False from t1).elim
  · obtain ⟨y, H1, I1, ry, a, M1, sp, c, fs, f, rfl, m1, s1', h1, h2, c1, c2, c3, t1⟩ := hh
    obtain rfl : u = Value.ref a := ry
    obtain ⟨dx, vs, h3, h4⟩ := m1 a _ h1
    refine getmeth_ok I1 h3 c1 c2 (rfl_none h4 h2) ?_
    exact PySem.W.callWith_K0 (first := [.ref a]) I1.kIn c2.kp (run_at (vs := [.ref a]) c3 hr tk I1 (.cons (rfl : RelV (V.ref a) (Value.ref a)) .nil) (upSp_of (.cons (.ref a) .nil) m1 t1 (fun d M' qd y H' s' => q d M' qd y H' (s1'.trans s')) (xg.stb s1')))
end
end Fg
/-! Fg9: the same by form, for any context that bears the def's names: side conditions over the text alone. -/
namespace Fg
open PySem PySem.Spec L2
open PyProof.Rows hiding St
/-- what stays through a law -/
structure Ud where
  P : Program
  w : World
  K : PySem.W.Frag
  mg : Str → Option Value
  base : Heap
theorem takes0N {X : Cx} : L2N.Takes X (fun _ _ _ _ => False) := fun _ _ ⟨_, _, _, _, _, _, _, _, _, _, _, _, _, _, _, _, w⟩ => w.elim
/-- a def's names, its scope, the cells that are its own -/
structure Nm where
  N : List Str
  sc : Scope
  F : Str → Bool
  /-- within an except suite -/
  hot : Bool := false
  /-- the exception that it holds: where, what, its dict -/
  ex : Option (Addr × Xn × Addr) := none
  /-- a def's own frame -/
  top : Bool := false
structure Gd (U : Ud) (k : Nat) (n : Nm) (X : Cx) (W : WX) : Prop where
  eP : X.prog = U.P
  eW : X.w = U.w
  eK : X.K = U.K
  eM : X.mg = U.mg
  eB : X.base = U.base
  eN : X.N = n.N
  eS : X.env.scope = n.sc
  nd : n.N.Nodup
  calm : n.hot = false → X.calm = true
  room : n.hot = false → Room k X.A
  hu : X.A.units + 64 < cLine
  tk : L2N.Takes X W
  po : n.hot = false → PassesOwn (model X.prog X.w) X.A X.env X.xe
  xc : ∀ a x dd, n.ex = some (a, x, dd) → ∃ oe, L2N.Zn (.ref (He.ga U.K x.c)) (some dd) oe ∧ (∃ vs, oe.data = .fields vs) ∧ (a, oe) ∈ X.pn
  hotc : n.hot = true → (∃ p : Addr × Obj, L2H.Hot1 X.A p ∧ p ∈ X.pn) ∧ L2H.RoomH k X.A
  stk : n.top = true → X.stack = X.env :: X.outer ∧ X.env.frame = some X.env.locals
  fn : ∀ x, n.F x = true → X.fn x = true
section
variable {U : Ud} {k : Nat} {n : Nm} {X : Cx} {W : WX}
theorem Gd.gl (g : Gd U k n X W) {x : Str} (h : n.sc.names.lookup x = some .globalImplicit) : Gl X x := by
  unfold Gl PySem.Env.kindOf
  rw [g.eS]; exact h
theorem Gd.vis (g : Gd U k n X W) {x : Str} (h : Vis n.sc x) : Vis X.env.scope x := by rw [g.eS]; exact h
theorem Gd.loc (g : Gd U k n X W) {x : Str} (h : Loc n.sc x) : Loc X.env.scope x := by rw [g.eS]; exact h
theorem Gd.ix (g : Gd U k n X W) {i : Nat} {x : Str} (h : n.N[i]? = some x) : X.N[i]? = some x := by rw [g.eN]; exact h
theorem Gd.nm (g : Gd U k n X W) : X.N.Nodup := by rw [g.eN]; exact g.nd
/-- a name that is stored -/
def Sto (n : Nm) (x : Str) : Prop := n.sc.names.lookup x = some .local ∨ (n.sc.names.lookup x = some .cell ∧ n.F x = true)
theorem Sto.loc {x : Str} (h : Sto n x) : Loc n.sc x := h.imp (fun h => h) fun h => h.1
theorem Gd.st (g : Gd U k n X W) {x : Str} (h : Sto n x) : X.fn x = true ∨ X.env.scope.names.lookup x = some .local := by
  rcases h with h | h
  · exact .inr (by rw [g.eS]; exact h)
  · exact .inl (g.fn x h.2)
theorem Gd.mgN (g : Gd U k n X W) {x : Str} (h : U.mg x = none) : X.mg x = none := by rw [g.eM]; exact h
end
/-! ### judgements -/
def JE (U : Ud) (k : Nat) (n : Nm) (e : Expr) (w : WE) : Prop := ∀ X W, Gd U k n X W → PE X e (upE X W w)
def JA (U : Ud) (k : Nat) (n : Nm) (es : List Expr) (w : WA) : Prop := ∀ X W, Gd U k n X W → PA X es (upA X W w)
def JT (U : Ud) (k : Nat) (n : Nm) (e : Expr) (w : WB) : Prop := ∀ X W, Gd U k n X W → PT X e (upB X W w)
def JW (U : Ud) (k : Nat) (n : Nm) (e : Expr) (w : WB) : Prop := ∀ X W, Gd U k n X W → PW X e (upB X W w)
def JI (U : Ud) (k : Nat) (n : Nm) (tg e : Expr) (w : WI) : Prop := ∀ X W, Gd U k n X W → PI X tg e (upI X W w)
def JG (U : Ud) (k : Nat) (n : Nm) (R : SR) (tg : Expr) (w : WG) : Prop := ∀ X W, Gd U k n X W → PG X tg (upGR X W R w)
def JGs (U : Ud) (k : Nat) (n : Nm) (R : SR) (tg : List Expr) (w : List WG) : Prop := ∀ X W, Gd U k n X W → PGs X tg (upGs X W R w)
def JS (U : Ud) (k : Nat) (n : Nm) (st : Stmt) (w : WS) : Prop := ∀ X W, Gd U k n X W → PS X st (upS X W w)
def JSs (U : Ud) (k : Nat) (n : Nm) (st : List Stmt) (w : WS) : Prop := ∀ X W, Gd U k n X W → PSs X st (upS X W w)
def JC (op : CmpOp) (o : OD) : Prop := ∀ U k n X W, Gd U k n X W → OpR X (compareOp op) (upO X o)
def JB (op : Operator) (o : OD) : Prop := ∀ X, OpR X (binaryOp op) (upO X o)
theorem c_eq : JC .Eq dEq := fun _ _ _ _ _ g => op_dEq g.hu
theorem c_ne : JC .NotEq dNe := fun _ _ _ _ _ g => op_dNe g.hu
theorem c_lt : JC .Lt dLt := fun _ _ _ _ _ g => op_dLt g.hu
theorem c_le : JC .LtE dLe := fun _ _ _ _ _ g => op_dLe g.hu
theorem c_gt : JC .Gt dGt := fun _ _ _ _ _ g => op_dGt g.hu
theorem c_ge : JC .GtE dGe := fun _ _ _ _ _ g => op_dGe g.hu
theorem c_is : JC .Is dIs := fun _ _ _ _ _ _ => op_dIs
theorem c_isn : JC .IsNot dIsNot := fun _ _ _ _ _ _ => op_dIsNot
theorem c_in : JC .In dIn := fun _ _ _ _ _ g => op_dIn g.hu
theorem c_nin : JC .NotIn dNotIn := fun _ _ _ _ _ g => op_dNotIn g.hu
theorem b_add : JB .Add dAdd := fun _ => op_dAdd
theorem b_sub : JB .Sub dSub := fun _ => op_dSub
theorem b_mul : JB .Mult dMul := fun _ => op_dMul
theorem b_div : JB .FloorDiv dDiv := fun _ => op_dDiv
theorem b_mod : JB .Mod dMod := fun _ => op_dMod
theorem b_pow : JB .Pow dPow := fun _ => op_dPow
theorem b_and : JB .BitAnd dAnd := fun _ => op_dAnd
/-- a global that is a constant -/
def GC (U : Ud) (x : Str) (d : D) : Prop := ∃ u v, U.mg x = some u ∧ RelV v u ∧ ∀ H, RD U.K H d v
section
variable {U : Ud} {k : Nat} {n : Nm} {e a b c : Expr} {es : List Expr} {pos p apos : Pos} {x m : Str} {wa wb wc w : WE} {ws : WA}
/-! ### expressions -/
theorem n_var (i : Nat) (hN : n.N[i]? = some x) (hv : Vis n.sc x) (hd : (x == ("__debug__" : Str)) = false) (hcd : (x == ("__classdict__" : Str)) = false) : JE U k n (.Name x pos) (wVar i) :=
  fun X W g => ue_var (pe_var (g.ix hN) (g.vis hv) hd hcd)
theorem n_int {i : Int} {j : Nat} : JE U k n (.Constant (.int i) j pos) (wCst (.int i)) := fun X W g => ue_cst pe_int fun _ => .int _
theorem n_str {y : Str} {j : Nat} : JE U k n (.Constant (.str y) j pos) (wCst (.str y)) := fun X W g => ue_cst pe_str fun _ => .str _
theorem n_bl {y : Bool} {j : Nat} : JE U k n (.Constant (.bool y) j pos) (wCst (.bl y)) := fun X W g => ue_cst pe_bl fun _ => .bl _
theorem n_non {j : Nat} : JE U k n (.Constant .none j pos) (wCst .non) := fun X W g => ue_cst pe_non fun _ => .non
theorem n_gc {d : D} (h : GC U x d) (hg : n.sc.names.lookup x = some .globalImplicit) (hd : (x == ("__debug__" : Str)) = false) : JE U k n (.Name x pos) (wCst d) := fun X W g => by
  obtain ⟨u, v, h1, h2, h3⟩ := h
  refine ue_cst (pe_glob (g.gl hg) (by rw [g.eM]; exact h1) h2 hd) fun H => ?_
  rw [g.eK]; exact h3 H
theorem n_ty {T : String} (hg : n.sc.names.lookup x = some .globalImplicit) (hm : U.mg x = none) (hv : bootBuiltins x = some (.type T)) (hn : x ≠ "__name__") (hd : (x == ("__debug__" : Str)) = false) : JE U k n (.Name x pos) (wCst (.ty T)) := fun X W g =>
  ue_cst (pe_bltn (v := .ty T) (g.gl hg) (g.mgN hm) hv rfl hn hd) fun _ => .ty _
theorem n_bin {op : Operator} {o : OD} (ho : JB op o) (ha : JE U k n a wa) (hb : JE U k n b wb) : JE U k n (.BinOp a op b pos) (wOp o wa wb) := fun X W g => ue_op (fun _ _ _ _ h => h) (pe_op (ho X) (ha X W g) (hb X W g))
theorem n_cmp {op : CmpOp} {o : OD} (ho : JC op o) (ha : JE U k n a wa) (hb : JE U k n b wb) (hm : behindInMarks op b = false) : JE U k n (.Compare a [op] [b] pos) (wOp o wa wb) := fun X W g =>
  ue_op (fun _ _ _ _ h => h) (pe_cmpR (ho _ _ _ X W g) (ha X W g) (hb X W g) hm)
theorem n_chain {op op' : CmpOp} {o o' : OD} (ho : JC op o) (ho' : JC op' o') (ha : JE U k n a wa) (hb : JE U k n b wb) (hc : JE U k n c wc) (hm : lastMarks [op, op'] [b, c] = false) :
    JE U k n (.Compare a [op, op'] [b, c] pos) (wChain o o' wa wb wc) := fun X W g =>
  ue_chain (a := a) (b := b) (c := c) (pos := pos) (ho _ _ _ X W g) (ho' _ _ _ X W g) (pe_chain (ho _ _ _ X W g) (ho' _ _ _ X W g) (ha X W g) (hb X W g) (hc X W g) hm)
theorem n_neg (ha : JE U k n a wa) : JE U k n (.UnaryOp .USub a pos) (wUn dNeg wa) := fun X W g => ue_un (pe_un un_dNeg (ha X W g))
theorem n_not (ha : JE U k n a wa) : JE U k n (.UnaryOp .Not a pos) (wNotV wa) := fun X W g => ue_not (ha X W g)
theorem n_one {op : BoolOp} (ha : JE U k n a wa) : JE U k n (.BoolOp op [a] pos) wa := fun X W g => pe_one (ha X W g)
theorem n_and (ha : JE U k n a wa) (hb : JE U k n (.BoolOp .And (b :: es) pos) wb) : JE U k n (.BoolOp .And (a :: b :: es) pos) (wAndV wa wb) := fun X W g => ue_and (ha X W g) (hb X W g)
theorem n_or (ha : JE U k n a wa) (hb : JE U k n (.BoolOp .Or (b :: es) pos) wb) : JE U k n (.BoolOp .Or (a :: b :: es) pos) (wOrV wa wb) := fun X W g => ue_or (ha X W g) (hb X W g)
theorem n_ite {t : WB} (hc : JT U k n c t) (ha : JE U k n a wa) (hb : JE U k n b wb) : JE U k n (.IfExp c a b pos) (wIte t wa wb) := fun X W g => ue_ite (hc X W g) (ha X W g) (hb X W g)
theorem a_nil : JA U k n [] wNil := fun X W g => ua_nil
theorem a_cons (ha : JE U k n e wa) (hr : JA U k n es ws) (hs : noStar e = true) : JA U k n (e :: es) (wCons wa ws) := fun X W g => ua_cons (ha X W g) (hr X W g) (star_cons hs)
theorem n_tup {kk : Nat} (ha : JA U k n es ws) : JE U k n (.Tuple es kk pos) (wTup ws) := fun X W g => ue_tup (ha X W g)
theorem n_lst (ha : JA U k n es ws) : JE U k n (.List es pos) (wLst ws) := fun X W g => ue_lst (ha X W g)
theorem n_dct0 : JE U k n (.Dict [] [] pos) wDct0 := fun X W g => ue_dct0
theorem n_ix (ha : JE U k n a wa) (hb : JE U k n b wb) (hs : PlainIx b) : JE U k n (.Subscript a b pos) (wOp dIx wa wb) := fun X W g => ue_op (fun _ _ _ _ h => h) (pe_ix (ix_dIx g.hu) (ha X W g) (hb X W g) hs)
theorem n_call {sp : SpD} {j : Nat} (hf : FnHas U.P U.w U.K U.mg U.base j x sp) (hh : n.hot = false) (hj : j ≤ k) (hg : n.sc.names.lookup x = some .globalImplicit) (hdb : (x == ("__debug__" : Str)) = false) (ha : JA U k n (e :: es) ws) (hs : (e :: es).all noStar = true) :
    JE U k n (.Call (.Name x p) (e :: es) [] pos) (wCall sp ws) := fun X W g => by
  refine ue_call (k := j) ?_ ((g.room hh).mono hj) g.tk (g.gl hg) hdb (ha X W g) hs
  rw [g.eP, g.eW, g.eK, g.eM, g.eB]; exact hf
theorem n_call0 {sp : SpD} {j : Nat} (hf : FnHas U.P U.w U.K U.mg U.base j x sp) (hh : n.hot = false) (hj : j ≤ k) (hg : n.sc.names.lookup x = some .globalImplicit) (hdb : (x == ("__debug__" : Str)) = false) :
    JE U k n (.Call (.Name x p) [] [] pos) (wCall sp wNil) := fun X W g => by
  refine ue_call0 (k := j) ?_ ((g.room hh).mono hj) g.tk (g.gl hg) hdb
  rw [g.eP, g.eW, g.eK, g.eM, g.eB]; exact hf
theorem n_meth {alts : List (Str × SpD)} {j : Nat} (hf : ∀ q ∈ alts, MtHas U.P U.w U.K U.mg U.base j q.1 m q.2) (hh : n.hot = false) (hj : j ≤ k) (ho : JE U k n a wa) (ha : JA U k n (e :: es) ws) (hs : (e :: es).all noStar = true)
    (hb : isCall0 a = false) (hn : (e :: es).length < 29) (hl : (apos.endLine == pos.line) = true) : JE U k n (.Call (.Attribute a m apos) (e :: es) [] pos) (wMeth m alts wa ws) := fun X W g => by
  refine ue_meth (k := j) ?_ ((g.room hh).mono hj) g.tk (ho X W g) (ha X W g) hs hb hn hl
  rw [g.eP, g.eW, g.eK, g.eM, g.eB]; exact hf
theorem n_meth0 {alts : List (Str × SpD)} {j : Nat} (hf : ∀ q ∈ alts, MtHas U.P U.w U.K U.mg U.base j q.1 m q.2) (hh : n.hot = false) (hj : j ≤ k) (ho : JE U k n a wa)
    (hb : isCall0 a = false) (hl : (apos.endLine == pos.line) = true) : JE U k n (.Call (.Attribute a m apos) [] [] pos) (wMeth m alts wa wNil) := fun X W g => by
  refine ue_meth0 (k := j) ?_ ((g.room hh).mono hj) g.tk (ho X W g) hb hl
  rw [g.eP, g.eW, g.eK, g.eM, g.eB]; exact hf
/-- a built-in function, a built-in type, called -/
theorem n_blt {id : String} {o : CD} (hc : ∀ X W, Gd U k n X W → CallR X (.builtin id) (upC X o)) (hg : n.sc.names.lookup x = some .globalImplicit) (hm : U.mg x = none) (hv : bootBuiltins x = some (.builtin id)) (hn : x ≠ "__name__") (hd : (x == ("__debug__" : Str)) = false)
    (ha : JA U k n (e :: es) ws) (hs : (e :: es).all noStar = true) : JE U k n (.Call (.Name x p) (e :: es) [] pos) (wCl o ws) := fun X W g => by
  rw [List.all_cons, Bool.and_eq_true] at hs
  exact ue_cl (fun _ _ _ h => h) (pe_callB (hc X W g) (g.gl hg) (g.mgN hm) hv (ha X W g) hn hd (star_cons hs.1) (star_plain hs.2))
theorem n_bty {T : String} {o : CD} (hc : ∀ X W, Gd U k n X W → CallR X (.type T) (upC X o)) (hg : n.sc.names.lookup x = some .globalImplicit) (hm : U.mg x = none) (hv : bootBuiltins x = some (.type T)) (hn : x ≠ "__name__") (hd : (x == ("__debug__" : Str)) = false)
    (ha : JA U k n (e :: es) ws) (hs : (e :: es).all noStar = true) : JE U k n (.Call (.Name x p) (e :: es) [] pos) (wCl o ws) := fun X W g => by
  rw [List.all_cons, Bool.and_eq_true] at hs
  exact ue_cl (fun _ _ _ h => h) (pe_callTy (hc X W g) (g.gl hg) (g.mgN hm) hv (ha X W g) hn hd (star_cons hs.1) (star_plain hs.2))
/-! ### tests -/
theorem t_val (ha : JE U k n e wa) (he : ∀ env whole, isTrue e env whole = (do let v ← whole; standAt e.pos; holding [v] (truthy v))) : JT U k n e (wTru wa) := fun X W g => ub_tru (ha X W g) (he _)
theorem t_cmp {op : CmpOp} {o : OD} (ho : JC op o) (ha : JE U k n a wa) (hb : JE U k n b wb) (hm : behindInMarks op b = false) : JT U k n (.Compare a [op] [b] pos) (wBl (wOp o wa wb)) := fun X W g =>
  ub_bl ((pt_cmpR (r := upO X o) (ho _ _ _ X W g) (ha X W g) (hb X W g) hm).imp fun σ H Q z => by
    obtain ⟨ρ, M, Q0, E0, r, m, t, q, xg⟩ := z
    exact ⟨ρ, M, _, E0, r, m, t, fun d M1 t1 y H1 s1 rd m1 => ⟨ρ, M1, _, E0, r.stb s1, m1, t1, fun d2 M2 t2 y2 H2 s2 rd2 m2 => ⟨d, d2, M2, Q0, rd.stb s2, rd2, m2, t2, fun z M' qz v H' s' rz mz => q z M' qz v H' ((s1.trans s2).trans s') rz mz⟩, xg.stb s1⟩, xg⟩)
theorem t_not {t : WB} (ha : JT U k n e t) : JT U k n (.UnaryOp .Not e pos) (wNotB t) := fun X W g => (pt_not (ha X W g)).imp fun σ H Q z => upB_not z
theorem w_and1 {t : WB} (ha : JT U k n e t) : JW U k n (.BoolOp .And [e] pos) t := fun X W g => pw_and1 (ha X W g)
theorem w_or1 {t : WB} (ha : JT U k n e t) : JW U k n (.BoolOp .Or [e] pos) t := fun X W g => pw_or1 (ha X W g)
theorem w_and {t u : WB} (ha : JT U k n a t) (hb : JW U k n (.BoolOp .And (b :: es) pos) u) : JW U k n (.BoolOp .And (a :: b :: es) pos) (wAndB t u) := fun X W g => (pw_and (ha X W g) (hb X W g)).imp fun σ H Q z => upB_and z
theorem w_or {t u : WB} (ha : JT U k n a t) (hb : JW U k n (.BoolOp .Or (b :: es) pos) u) : JW U k n (.BoolOp .Or (a :: b :: es) pos) (wOrB t u) := fun X W g => (pw_or (ha X W g) (hb X W g)).imp fun σ H Q z => upB_or z
theorem t_w {t : WB} (h : JW U k n e t) : JT U k n e t := fun X W g => ⟨fun pins s σ H Q I z => (h X W g).run _ pins s σ H Q I z⟩
end
end Fg
/-! Fg10: statements, targets, walks, comprehensions by form; a def of the text keeps its promise. -/
namespace Fg
open PySem PySem.Spec L2
open PyProof.Rows hiding St
section
variable {U : Ud} {k : Nat} {n : Nm} {e a b c tg iter elt : Expr} {es : List Expr} {pos pos' p apos : Pos} {x m f cl : Str} {wa wb wc w : WE} {ws : WA} {st : Stmt} {sts body : List Stmt} {t u : WS} {wi : WI} {g : WG} {gs : List WG} {i j : Nat} {R : SR}
/-! ### attributes -/
theorem n_att (h : AtOk U.K cl f) (ha : JE U k n e wa) (hb : isCall0 e = false) : JE U k n (.Attribute e f pos) (wAtt cl f wa) := fun X W g => ue_att (by rw [g.eK]; exact h) (pe_fld (ha X W g) (base_of hb))
/-! ### targets -/
theorem g_nm (hi : n.N[i]? = some x) (hx : Sto n x) (hR : ∀ σ v, R σ (σ.set i v)) : JG U k n R (.Name x pos) (gNm i) := fun X W g => ug_nm (pg_name g.nm (g.ix hi) (g.loc hx.loc) (g.st hx)) hR
theorem gs_nil (hr : ∀ σ, R σ σ) : JGs U k n R [] [] := fun X W g => ugs_nil hr
theorem gs_cons (ht : ∀ a b c, R a b → R b c → R a c) (h1 : JG U k n R e g) (h2 : JGs U k n R es gs) (hs : ∀ env, (assignEach (e :: es) env).map (·.2) = assign e env :: (assignEach es env).map (·.2)) : JGs U k n R (e :: es) (g :: gs) := fun X W g => ugs_cons ht (h1 X W g) (h2 X W g) (hs _)
theorem g_tp {kk : Nat} (hh : n.hot = false) (h : JGs U k n R es gs) (hn : ∀ env, (assignEach es env).length = gs.length) (hst : ∀ env, (assignEach es env).findIdx? (·.1) = none) : JG U k n R (.Tuple es kk pos) (gTp gs) := fun X W g => ug_tp (g.calm hh) (h X W g) (hn _) (hst _)
theorem g_sub (ha : JE U k n a wa) (hb : JE U k n b wb) (hf : ∀ env v, assign (.Subscript a b pos) env v = (do
      let ov ← holding [v] (eval a env)
      let iv ← holding [v, ov] (eval b env)
      standAt pos
      holding [v, ov, iv] (setItem ov iv v)
      release [v, ov, iv] [])) : JG U k n anyR (.Subscript a b pos) (gSubD wa wb) := fun X W g => ug_sub (pg_sub (ha X W g) (hb X W g) (set_dSetI g.hu) (hf _))
/-! ### walks -/
theorem i_walk (h : JE U k n e w) : JI U k n tg e (wWalk w) := fun X W g => ui_walk (h X W g)
theorem i_rng1 (hg : n.sc.names.lookup ("range" : Str) = some .globalImplicit) (hm : U.mg "range" = none) (h : JA U k n [a] ws) (hs : noStar a = true) : JI U k n tg (.Call (.Name "range" p) [a] [] pos) (wRng1 ws) := fun X W g => ui_rng1 (pi_range1 (g.gl hg) (g.mgN hm) (h X W g) (star_cons hs))
theorem i_rng2 (hg : n.sc.names.lookup ("range" : Str) = some .globalImplicit) (hm : U.mg "range" = none) (h : JA U k n [a, b] ws) (hs : noStar a = true) (hs2 : noStar b = true) : JI U k n tg (.Call (.Name "range" p) [a, b] [] pos) (wRng2 ws) := fun X W g =>
  ui_rng2 (pi_range2 (g.gl hg) (g.mgN hm) (h X W g) ((star_cons hs).trans (congrArg _ (star_cons hs2))) (star_cons hs2))
/-! ### statements -/
theorem s_nil : JSs U k n [] wNext := fun X W g => us_nil
theorem s_cons (h1 : JS U k n st t) (h2 : JSs U k n sts u) : JSs U k n (st :: sts) (wSeq t u) := fun X W g => us_cons (h1 X W g) (h2 X W g)
theorem s_if {t' : WB} (hc : JT U k n c t') (ha : JSs U k n sts t) (hb : JSs U k n body u) : JS U k n (.If c sts body pos) (wIfS t' t u) := fun X W g => us_if (hc X W g) (ha X W g) (hb X W g)
theorem s_ret (h : JE U k n e w) : JS U k n (.Return (some e) pos) (wRet w) := fun X W g => us_ret (h X W g)
theorem s_retN : JS U k n (.Return none pos) wRetN := fun X W g => us_retN
theorem s_pass : JS U k n (.Pass pos) wNext := fun X W g => us_pass
theorem s_brk : JS U k n (.Break pos) wBrk := fun X W g => us_brk
theorem s_cnt : JS U k n (.Continue pos) wCnt := fun X W g => us_cnt
theorem s_expr (h : JE U k n e w) (hs : isComp e = false) : JS U k n (.Expr e pos) (wDrop w) := fun X W g => us_expr (h X W g) (swap_no hs)
theorem s_set (hi : n.N[i]? = some x) (hx : Sto n x) (h : JE U k n e w) (hs : isComp e = false) : JS U k n (.Assign [.Name x pos'] e pos) (wAsg w (gNm i)) := fun X W g => us_set g.nm (g.ix hi) (g.loc hx.loc) (h X W g) (swap_no hs) (g.st hx)
theorem s_asg (h : JE U k n e w) (hg : JG U k n anyR tg g) (hs : ∀ env, swapsWithSole [tg] e pos.line env = pure false) (hw : ∀ env, swappedStores [tg] e env = pure none) (h1 : ∀ env, (assignEach [tg] env).map (·.2) = [assign tg env]) :
    JS U k n (.Assign [tg] e pos) (wAsg w g) := fun X W g => us_asg (h X W g) (hg X W g) (hs _) (hw _) (h1 _)
theorem s_att (hk : AtOk U.K cl f) (ha : JE U k n a wa) (h : JE U k n e w) (hs : isComp e = false) : JS U k n (.Assign [.Attribute a f pos'] e pos) (wAsg w (gAtt cl f wa)) := fun X W g => us_att (by rw [g.eK]; exact hk) (ps_fld (ha X W g) (h X W g) (swap_no hs))
theorem s_for (hh : n.hot = false) (hi : JI U k n tg iter wi) (hg : JG U k n anyR tg g) (hb : JSs U k n body t) (hs : isSet iter = false) : JS U k n (.For tg iter body [] pos) (wFor wi g t) := fun X W g => us_for (g.po hh) (g.calm hh) (hi X W g) (hg X W g) (hb X W g) (fold_no hs)
theorem s_while {t' : WB} (hh : n.hot = false) (hc : JT U k n c t') (hb : JSs U k n body t) : JS U k n (.While c body [] pos) (wWhile t' t) := fun X W g => us_while (g.po hh) (hc X W g) (hb X W g)
/-! ### comprehensions -/
def Nm.blk (n : Nm) (scope : Scope) : Nm := ⟨n.N, relS scope n.sc, fun x => scope.names.lookup x == some .cell, false, none, false⟩
theorem Gd.blk {X : Cx} {W : WX} (g : Gd U k n X W) (hh : n.hot = false) (s : Shared) (H : Hp) (scope : Scope) (C : Addr) (cl : List (Str × Addr)) (fp : List Addr) : Gd U k (n.blk scope) (X.blk s H scope (compEnvC scope cl C X.env) fp) W0 := by
  have e : (compEnvC scope cl C X.env).scope = relS scope X.env.scope := rfl
  refine ⟨g.eP, g.eW, g.eK, g.eM, g.eB, g.eN, by rw [e, g.eS]; rfl, g.nd, fun _ => g.calm hh, fun _ => g.room hh, g.hu, takes0N, fun _ _ _ h => h.elim, fun _ _ _ h => (nomatch h), fun h => (nomatch h), fun h => (nomatch h), fun _ h => h⟩
/-- a clause's test -/
def JTs (U : Ud) (k : Nat) (n : Nm) (ts : List Expr) (w : WB) : Prop := ∀ X W, Gd U k n X W → PTs X ts (upB X W w)
def wYes : WB := fun _ M Q _ => Q true M
theorem ts_nil : JTs U k n [] wYes := fun X W g => ⟨fun pins s σ H Q I ⟨ρ, M, Q0, E0, r, m, t, q, xg⟩ => pts_nil.run pins s σ H Q I (q true M t H (Stb.refl H) m)⟩
theorem ts_one {t : WB} (h : JT U k n c t) : JTs U k n [c] t := fun X W g => pts_one (h X W g)
/-- whether the name is stored ahead of the block's end -/
def swB (sc scope : Scope) (x : Str) (py p : Pos) : Bool :=
  (if sc.kind.isAnnotationScope then ScopeKind.function else sc.kind) == ScopeKind.function && sc.names.lookup x == some NameKind.local && py.line == p.line && !(scope.names.any fun (n, k) => n == x && (k == NameKind.local || k == NameKind.cell))
theorem swap_lc {gs : List Comprehension} {scope : Scope} {py : Pos} {l : Nat} {env : PySem.Env} (h : env.scope = n.sc) : swapsWith (.ListComp elt gs scope pos) (some (.Name x py)) l env = pure (swB n.sc scope x py pos) := by
  unfold swapsWith swB PySem.Env.blockKind PySem.Env.kindOf
  rw [h]
  rfl
theorem swap_lcN {gs : List Comprehension} {scope : Scope} {l : Nat} {env : PySem.Env} {o : Expr} (h : (match o with | .Name _ _ => false | _ => true) = true) : swapsWith (.ListComp elt gs scope pos) (some o) l env = pure false := by
  cases o <;> first | rfl | cases h
section
variable {scope : Scope} {own : List (Str × Nat)} {tt : WB}
theorem n_lc (hh : n.hot = false) (ok : blkC n.N n.sc scope own = true) (hi : JI U k n tg iter wi) (hg : JG U k (n.blk scope) (ownR (own.map (·.2))) tg g) (ht : JTs U k (n.blk scope) es tt) (he : JE U k (n.blk scope) elt w) (hs : isSet iter = false) :
    JE U k n (.ListComp elt [⟨tg, iter, es, 0⟩] scope pos) (wLc wi (own.map (·.2)) g tt w) := fun X W g' =>
  (pe_lc (g := upGR X W0 (ownR (own.map fun (p : Str × Nat) => p.2)) g) (tt := upB X W0 tt) (te := upE X W0 w) (g'.calm hh) g'.nm (hi X W g') (by have := blkOk_by ok; rw [← g'.eN, ← g'.eS] at this; exact this) (fun s H C cl fp => hg _ _ (g'.blk hh s H scope C cl fp)) (fun s H C cl fp => ht _ _ (g'.blk hh s H scope C cl fp)) (fun s H C cl fp => he _ _ (g'.blk hh s H scope C cl fp)) (fold_no hs)).imp
    fun σ H Q z => tLc_of z
theorem s_lc {py spos : Pos} (hh : n.hot = false) (hi : n.N[i]? = some x) (hx : n.sc.names.lookup x = some .local) (hsw : swB n.sc scope x py pos = true) (ok : blkC n.N n.sc scope own = true) (hw : JI U k n tg iter wi) (hg : JG U k (n.blk scope) (ownR (own.map (·.2))) tg g)
    (ht : JTs U k (n.blk scope) es tt) (he : JE U k (n.blk scope) elt w) (hs : isSet iter = false) :
    JS U k n (.Assign [.Name x py] (.ListComp elt [⟨tg, iter, es, 0⟩] scope pos) spos) (wAsg (wLc wi (own.map (·.2)) g tt w) (gNm i)) := fun X W g' => by
  have hb : BlkOk X.N X.env.scope scope own := by have := blkOk_by ok; rw [← g'.eN, ← g'.eS] at this; exact this
  have hsw' : swapsWith (.ListComp elt [⟨tg, iter, es, 0⟩] scope pos) (some (.Name x py)) spos.line X.env = pure true := (swap_lc g'.eS).trans (congrArg _ hsw)
  refine (ps_setLc (g := upGR X W0 (ownR (own.map fun (p : Str × Nat) => p.2)) g) (tt := upB X W0 tt) (te := upE X W0 w) (g'.calm hh) g'.nm (g'.ix hi) (by rw [g'.eS]; exact hx) hsw' (hw X W g') hb (fun s H C cl fp => hg _ _ (g'.blk hh s H scope C cl fp)) (fun s H C cl fp => ht _ _ (g'.blk hh s H scope C cl fp)) (fun s H C cl fp => he _ _ (g'.blk hh s H scope C cl fp)) (fold_no hs)).imp fun B σ H z => ?_
  obtain ⟨ρ, M, N, E0, r, m, z, gg, xg⟩ := z
  exact tLc_of (X := X) (W := W) ⟨ρ, M, _, _, r, m, z, fun d M1 z1 y H1 s1 rd m1 => gg.nx _ M1 z1 _ H1 s1 ((r.stb s1).set rd) m1, xg.at_ r⟩
/-- .. the name a cell, or on another line -/
theorem s_lc' {py spos : Pos} (hi : n.N[i]? = some x) (hx : Sto n x) (hsw : swB n.sc scope x py pos = false) (he : JE U k n (.ListComp elt [⟨tg, iter, es, 0⟩] scope pos) w) :
    JS U k n (.Assign [.Name x py] (.ListComp elt [⟨tg, iter, es, 0⟩] scope pos) spos) (wAsg w (gNm i)) := fun X W g' =>
  us_set g'.nm (g'.ix hi) (g'.loc hx.loc) (he X W g') ((swap_lc g'.eS).trans (congrArg _ hsw)) (g'.st hx)
end
end
/-! ### a def's promise -/
def startD (N : List Str) (ds : List D) : En := ds.map some ++ List.replicate (N.length - ds.length) none
theorem re_start {K : PySem.W.Frag} {H : Hp} {N : List Str} {ds : List D} {vs : List V} (h : RDs K H ds vs) : RE K H (startD N ds) (L2.start N vs) := by
  have hl := h.length
  refine ⟨by simp [startD, L2.start, hl], fun i d e => ?_⟩
  unfold startD at e
  unfold L2.start
  by_cases hi : i < ds.length
  · rw [List.getElem?_append_left (by simpa using hi), List.getElem?_map] at e
    cases q : ds[i]? with
    | none => rw [q] at e; cases e
    | some d' =>
      rw [q] at e
      cases e
      obtain ⟨v, h1, h2⟩ := h.get q
      exact ⟨v, by rw [List.getElem?_append_left (by simpa using hl ▸ hi), List.getElem?_map, h1]; rfl, h2⟩
  · rw [List.getElem?_append_right (by simpa using hi), List.getElem?_replicate] at e
    split at e <;> cases e
def spW (N : List Str) (m : Nat) (w : WS) : SpD := fun ds M Q E => ds.length = m ∧ w (startD N ds) M { nx := fun _ M' => Q .non M', rt := Q } fun x _ M' => E x M'
section
variable {U : Ud} {k : Nat} {N ps : List Str} {x qual : Str} {params : Arguments} {body : List Stmt} {scope : Scope} {f : Addr} {fd : FuncData} {w : WS}
theorem fn_okD (F : FunD U.K x qual params body scope [] [] f fd) (S : FnScope N ps scope) (h : JSs U k ⟨N, scope, fun _ => true, false, none, true⟩ body w) :
    FnOk U.P U.w U.K U.mg U.base (L2N.CX U.P U.w) (k + 1) f fd ps (upSp U.K U.w (spW N ps.length w)) := by
  refine F.ok S (fun vs H Q E z => ?_) (fun cdv A outer s H vs Q E hr z => ?_)
  · obtain ⟨ds, M, Q0, E0, rd, m, z, q, xg⟩ := z
    rw [← rd.length]; exact z.1
  · obtain ⟨ds, M, Q0, E0, rd, m, z, q, xg⟩ := z
    refine ⟨_, h (cxOf (L2N.CX U.P U.w) U.P U.w U.K U.mg U.base N qual scope f cdv A outer s H E) (fun cls d _ H => E cls d H) ⟨rfl, rfl, rfl, rfl, rfl, rfl, rfl, S.nd, fun _ => rfl, fun _ => hr, Nat.lt_of_le_of_lt (show (A.deeper (envOfC qual scope s.heap.objs.size f cdv)).units + 64 ≤ _ by omega) hr.un, L2N.takes_of rfl rfl rfl rfl, fun _ => passes_of rfl, fun _ _ _ h => (nomatch h), fun h => (nomatch h), fun _ => ⟨rfl, rfl⟩, fun _ _ => rfl⟩, ?_⟩
    exact ⟨_, M, _, _, re_start rd, m, z.2, ⟨fun ρ' M' z σ' H' s' r' m' => q _ M' z _ H' s' .non m', fun d M' z y H' s' rd' m' => q d M' z y H' s' rd' m', fun _ _ z => z.elim, fun _ _ z => z.elim⟩, fun x ρ' M' z cls d σ' H' s' r' x' m' => xg x M' z cls d H' s' x' m'⟩
theorem fn_at (F : FunD U.K x qual params body scope [] [] f fd) (S : FnScope N ps scope) (hb : ∀ (kV doc pm : Value) (an : Option Addr) (cdv ct : Value) (us : List Value), us.length = ps.length → bindArgs (PySem.W.fnOf x qual params body scope .none kV doc pm an cdv ct) ⟨us, []⟩ = pure (ps.zip us))
    (h : JSs U k ⟨N, scope, fun _ => true, false, none, true⟩ body w) : FnAt U.P U.w U.K U.mg U.base (k + 1) f (spW N ps.length w) :=
  ⟨fd, ps, fn_okD F S h, F.kp, F.bindsN hb⟩
end
end Fg
/-! Fg11: an exception of one's own that is made by super().__init__(text); self.f = x. -/
namespace Fg
open PySem PySem.Spec L2
open PyProof.Rows hiding St
/-- what its __init__ is in words -/
structure InitW where
  qual : Str
  sf : Arg
  ar : Arg
  p0 : Pos
  p1 : Pos
  p2 : Pos
  p3 : Pos
  p4 : Pos
  p5 : Pos
  p6 : Pos
  p7 : Pos
  p8 : Pos
  p9 : Pos
  z : Str
  j : Nat
  f : Str
  scope : Scope
def InitW.params (W : InitW) : Arguments := { posonlyargs := [], args := [W.sf, W.ar], vararg := none, kwonlyargs := [], kw_defaults := [], kwarg := none, defaults := [] }
def InitW.body (W : InitW) : List Stmt :=
  [.Expr (.Call (.Attribute (.Call (.Name "super" W.p0) [] [] W.p1) "__init__" W.p2) [.Constant (.str W.z) W.j W.p3] [] W.p4) W.p5,
   .Assign [.Attribute (.Name W.sf.arg W.p6) W.f W.p7] (.Name W.ar.arg W.p8) W.p9]
structure ExI (P : Program) (K : PySem.W.Frag) (mg : Str → Option Value) (C : Addr) (W : InitW) : Prop where
  cls : PySem.W.excInitIn K C PySem.ESX.exTail "Exception.__new__" = true
  dct : (PySem.W.clsIn K C).any (·.hasDict) = true
  sa : (PySem.W.findIn K (.ref C) "__setattr__") = some (some (.builtin "object.__setattr__"))
  noat : PySem.W.findIn K (.ref C) W.f = some none
  exC : (PySem.W.subIn K (.ref C) (.type "BaseException")) = some true
  exE : PySem.W.subIn K (.ref C) (.type "Exception") = some true
  slf : PySem.W.mroIn K C (.ref C) = some true
  tyC : (PySem.W.typeIn K (.ref C)) = some (.type "type")
  kC : (PySem.W.keepIn K (.ref C)) = true
  sup : PySem.W.ks_superIn K C C "__init__" = some (some (.builtin "Exception.__init__"))
  sup0 : mg "super" = none
  sta : PySem.W.nsIn K cStatics "thirdparty.any" = some none
  top : (P.main.scope.names.lookup ("super" : Str)).isSome = false
  kind : W.scope.kind = .function
  co : W.scope.isCoroutine = false
  gen : W.scope.isGenerator = false
  nocell : ∀ y ∈ W.scope.names, y.2 ≠ .cell
  ksf : W.scope.names.lookup W.sf.arg = some .local
  kar : W.scope.names.lookup W.ar.arg = some .local
  ksu : W.scope.names.lookup ("super" : Str) = some .globalImplicit
  kcl : W.scope.names.lookup ("__class__" : Str) = some .free
  ne : W.sf.arg ≠ W.ar.arg
  d1 : (W.sf.arg == ("__debug__" : Str)) = false
  d2 : (W.ar.arg == ("__debug__" : Str)) = false
  ln : (W.p2.endLine == W.p4.line) = true
  fn : ∃ (fI cc cda : Addr) (kV doc pm ct oc occ ocl : Value) (an od odc odl : Option Addr) (osl osc osk : Array (Option Value)) (vs : Array Value) (file : Str) (tf : Tok),
    PySem.W.findIn K (.ref C) "__init__" = some (some (.ref fI)) ∧ PySem.W.typeIn K (.ref fI) = some (.type "function") ∧
    K.lookup fI = some ⟨oc, od, .func (PySem.W.ksFn "__init__" W.qual W.params W.body W.scope .none kV doc pm an (.ref cda) ct cc), osl⟩ ∧ PySem.W.codeIn K (.ref cda) W.qual = true ∧
    K.lookup cc = some ⟨ocl, odl, .cell (some (.ref C)), osk⟩ ∧ K.lookup cda = some ⟨occ, odc, .fields vs, osc⟩ ∧ vs[2]? = some (.str file tf) ∧ ((P.main.file : Str) == file) = true
/-- how o.m(..) is evaluated, o of any form -/
theorem meth_eq0 {o : Expr} {m : Str} {es : List Expr} {apos pos : Pos} {env : PySem.Env} (hs : es.all noStar = true) (hn : es.length < 29) (hl : (apos.endLine == pos.line) = true) :
    eval (.Call (.Attribute o m apos) es [] pos) env = (do
      let ov ← attributeBase o m env (eval o env)
      standAt apos.atName
      let (f, first) ← holding [ov] (getMethod ov m (do return (← importBound o env).getD true))
      callWith pos f first (backTo pos (starEach es env)) []) := by
  have hform : methodCallForm (es.length + ([] : List Keyword).length) (backTo pos (starEach es env)) (backToKw pos (keywordEach [] env)) = true := by
    unfold methodCallForm
    rw [star_allN hs]
    simp [keywordEach, backToKw]
    omega
  have hpos : methodCallPos true o env apos pos = pure pos := by unfold methodCallPos; simp [hl]
  rw [arm_eval_Call]
  unfold methodCall calleeOf
  rw [hform, hpos]
  simp [keywordEach, backToKw]
section
variable {prog : Program} {w : World} {A : Around} {R : Result → Shared → Prop} {g : Array GenState} {dr : Drawn} {n : Nat} {os : OsState} {h0 : Heap}
/-- what a first field leaves: the object at x has a dict of its own, the rest stands -/
structure Put (C x : Addr) (fv : Array Value) (f : Str) (v : Value) (h0 h1 : Heap) (dx : Addr) : Prop where
  rest : ∀ b o, b ≠ x → h0.get? b = some o → h1.get? b = some o
  far : h0.objs.size ≤ dx
  ne : dx ≠ x
  obj : h1.get? x = some { cls := .ref C, dict := some dx, data := .fields fv }
  ns : h1.Ns1 dx fun y => if y = f then some v else none
/-- self.f = v, the first one, over any own classes and Exception -/
theorem osa_first {K : PySem.W.Frag} {f : Str} {tk : Tok} {v : Value} {x C : Addr} {fv : Array Value} {cd : ClassData} {up : List Value} (X : K.In h0) (at_ : h0.get? x = some { cls := .ref C, data := .fields fv }) (cl : PySem.W.clsIn K C = some cd)
    (m1 : cd.mro = .ref C :: up) (m2 : PySem.W.excTail PySem.ESX.exTail up = true) (dct : cd.hasDict = true) (no : PySem.W.findIn K (.ref C) f = some none) (then_ : ∀ h1 t1 dx, Put C x fv f v h0 h1 dx → R (.ok (.ret .none)) ⟨h1, g, dr, t1, os⟩) :
    codeAny (model prog w) A (.call (.builtin "object.__setattr__") ⟨[.ref x, .str f tk, v], []⟩) R ⟨h0, g, dr, n, os⟩ := by
  have inst : PySem.W.InstAt h0 x { cls := .ref C, data := .fields fv } C none := ⟨at_, rfl, rfl, trivial⟩
  have facts := F.store_object
  have isObj : cd.mro.contains (.type "object") = true := by
    have up1 : up.contains (.type "object") = true := (PySem.W.excTail_contains "object" _ m2).trans (by decide +kernel)
    rw [m1, List.contains_cons, up1, Bool.or_true]
  have passes : refuseLoop (.ref x) "__setattr__" cd.mro = pure () := by
    rw [m1, refuseLoop_ref, PySem.W.excTail_pass _ (F.store_Exception.passes _) _ m2]
  have apart : x ≠ h0.objs.size := Nat.ne_of_lt (Heap.lt_size at_)
  have subObj : PySem.W.Looks (model prog w) h0 (isInstance (.ref x) (.type "object")) true := inst.type.andThen (PySem.W.looks_mroIn X (by unfold PySem.W.mroIn; rw [cl, Option.bind_some, if_neg (by rw [m1]; exact Bool.false_ne_true), isObj]))
  have lookC : PySem.W.Looks (model prog w) h0 (classData C) cd := PySem.W.looks_clsIn X cl
  have lookM : PySem.W.Looks (model prog w) h0 (mroOf (.ref C)) cd.mro := lookC.andThen .now
  refine codeAny_call_builtin facts.slot.plain facts.entry (@PySem.W.check_slot (model prog w) _ _ ⟨h0, g, dr, n, os⟩ "object.__setattr__" "object" "__setattr__" (.ref x) [.str f tk, v] [] _ facts.kind facts.split subObj (facts.args (.ref x) (.str f tk) v) ?_)
  rw [PySem.W.osa_eq, refuse_eq]
  have later := show PySem.W.Looks (model prog w) h0 (Builtin.ObjectAttr.storeTaker? none) none from .now
  apply wpAny_bind
  refine wpAny_bind (inst.type.at (wpAny_bind (lookM.at ?step)))
  rw [passes]
  refine wpAny_pure (wpAny_bind (inst.type.at (wpAny_bind ((PySem.W.looks_findIn X no).at (wpAny_bind (later.at ?own))))))
  case own =>
    show wpAny _ _ (Builtin.ObjectAttr.storeInOwnDict (.ref x) (.ref C) (.str f tk) f v false) _ _ _
    cases cd with
    | mk c1 c2 c3 c4 c5 c6 c7 c8 c9 c10 c11 =>
      cases (show c6 = true from dct)
      unfold Builtin.ObjectAttr.storeInOwnDict Builtin.ObjectAttr.ownDictForStores
      repeat (first | with_reducible refine PySem.HandSPX.store_in_new ?_ ?_ | with_reducible refine wpAny_loadPart_at at_ ?_ | with_reducible refine lookC.at ?_ | wp_step)
      · exact ⟨_, #[], _, (Heap.get?_update_ne _ _ _ _ (Ne.symm apart)).trans (Heap.get?_push_at rfl rfl), rfl, fun e he => absurd he (by simp), fun _ => rfl⟩
      · intro h1 t1 ns1 same
        have pushed : (h0.push { cls := .type "dict", data := .dict #[] }).get? x = some { cls := .ref C, data := .fields fv } := Heap.get?_push_of_some _ at_
        exact then_ h1 t1 _ ⟨fun b o hb ho => ((same.2 b (Nat.ne_of_lt (Heap.lt_size ho))).trans ((Heap.get?_update_ne _ _ _ _ hb).trans (Heap.get?_push_of_some _ ho))), Nat.le_refl _, Ne.symm apart, (same.2 x apart).trans (Heap.get?_update_self _ pushed rfl), ns1⟩
end
section
variable {P : Program} {w : World} {A : Around} {R : Result → Shared → Prop} {hp : Heap} {g : Array GenState} {d : Drawn} {t : Nat} {os : OsState} {K : PySem.W.Frag} {mg mb : Str → Option Value} {C e t0 : Addr} {W : InitW} {u : Value}
theorem binds2 {a b : Arg} {v u : Value} (n1 n2 : Str) (n4 : FuncBody) (n5 : Scope) (n6 : Addr) (n7 : List (Str × Addr)) (n9 n10 n11 : Value) (n12 : Option Addr) (n13 n14 : Value) (n15 : Addr) (hne : a.arg ≠ b.arg) :
    bindArgs { name := n1, qualname := n2, params := { posonlyargs := [], args := [a, b], vararg := none, kwonlyargs := [], kw_defaults := [], kwarg := none, defaults := [] }, body := n4, scope := n5, globals := n6, closure := n7, defaults := .none, kwdefaults := n9, doc := n10, pyModule := n11, annotations := n12, code := n13, closureTuple := n14, builtins := n15 } ⟨[v, u], []⟩ = pure [(a.arg, v), (b.arg, u)] := by
  have e2 : (b.arg == a.arg) = false := beq_eq_false_iff_ne.mpr (Ne.symm hne)
  have e0 : seqItems? Value.none = pure none := rfl
  simp [bindArgs, e0, List.lookup, e2]
theorem exc_cls {K : PySem.W.Frag} {C : Addr} {ups : List Value} {new : String} (q : PySem.W.excInitIn K C ups new = true) : ∃ cd r, PySem.W.clsIn K C = some cd ∧ cd.mro = .ref C :: r ∧ PySem.W.excTail ups r = true := by
  unfold PySem.W.excInitIn at q
  split at q <;> try cases q
  rename_i _ cd _ lk
  split at q <;> try cases q
  rename_i D r _ _ _ _ _ _ em _
  have z := He.ba q
  have e : D = C := beq_iff_eq.mp (He.ba (He.ba z.1).1).1
  exact ⟨cd, r, by unfold PySem.W.clsIn; rw [lk], by rw [em, e], z.2⟩
theorem ld_loc {M : Model} {E : Value → Shared → Prop} {s : Shared} {env : PySem.Env} {m : Str → Option Value} {x : Str} {pos : Pos} {v : Value} {Q : Value → Shared → Prop} (hk : env.scope.kind = .function) (hl : env.kindOf x = some .local) (hn : s.heap.Ns env.locals m) (hv : m x = some v) (hd : (x == ("__debug__" : Str)) = false)
    (h : Q v s) : wpAny M A (eval (.Name x pos) env) Q E s := wpAny_Name (wpAny_loadName_local hk hl hn hv h) hd
/-- __init__ runs -/
theorem init_run (T : ExI P K mg C W) (X : K.In hp) (hlim : hp.NoLimit) (hroom : A.depth < recursionLimit) (he : hp.get? e = some (PySem.HandSPX.excO C t0)) (hKe : K.lookup e = none) (hg : hp.Ns mainGlobals mg) (hb : hp.Ns builtinsNs mb) (hmb : ∀ x : Str, x ≠ "__name__" → mb x = bootBuiltins x) {fI : Addr}
    (hf : PySem.W.findIn K (.ref C) "__init__" = some (some (.ref fI)))
    (hq : ∀ h' t' dx t1, (∀ b o, b ≠ e → hp.get? b = some o → h'.get? b = some o) → hp.objs.size ≤ dx → dx ≠ e → h'.get? e = some ({ cls := .ref C, dict := some dx, data := .fields #[.ref t1, .none, .none, .none, .bool false, .none] } : Obj) →
      h'.Ns1 dx (fun y => if y = W.f then some u else none) → R (.ok (.ret .none)) ⟨h', g, d, t', os⟩) :
    codeAny (model P w) A (.call (.ref fI) ⟨[.ref e, u], []⟩) R ⟨hp, g, d, t, os⟩ := by
  obtain ⟨fI', cc, cda, kV, doc, pm, ct, oc, occ, ocl, an, od, odc, odl, osl, osc, osk, vs, file, tf, f1, f2, f3, f4, f5, f6, f7, f8⟩ := T.fn
  obtain rfl : fI' = fI := by
    have z := f1.symm.trans hf
    injection z with z
    injection z with z
    injection z
  have ho := X _ _ f3
  refine PySem.ks_codeAny_call_defAt (binds := [(W.sf.arg, .ref e), (W.ar.arg, u)]) hroom ho rfl hlim (PySem.W.codeRec_of X f4) rfl (BindsTo.of_eq (binds2 _ _ _ _ _ _ _ _ _ _ _ _ _ T.ne)) T.nocell (fun y hy => ?_) (fun h0 hns k0 => ?_) T.co T.gen T.kind
  · rcases List.mem_cons.mp hy with rfl | hy
    · exact T.ksf
    · rcases List.mem_cons.mp hy with rfl | hy
      · exact T.kar
      · cases hy
  have nsL : ∀ {b : Addr} {o : Obj}, hp.get? b = some o → b ≠ hp.objs.size := fun q => Nat.ne_of_lt (Heap.lt_size q)
  generalize hL : hp.objs.size = L at *
  have X0 : K.In h0 := X.keeps k0
  have v1 : ([(W.sf.arg, Value.ref e), (W.ar.arg, u)] : List (Str × Value)).reverse.lookup W.sf.arg = some (.ref e) := by
    have e2 : (W.sf.arg == W.ar.arg) = false := beq_eq_false_iff_ne.mpr T.ne
    simp [List.lookup, e2]
  have v2 : ([(W.sf.arg, Value.ref e), (W.ar.arg, u)] : List (Str × Value)).reverse.lookup W.ar.arg = some u := by
    simp [List.lookup]
  have I0 : PySem.W.InstAt h0 e (PySem.HandSPX.excO C t0) C none := ⟨k0 _ _ he, rfl, rfl, trivial⟩
  obtain ⟨nm, N', qn, bs, bm, hdct, sn, sub, ab, col, dd, k0', k1, k2, k3, k5, hC, hT⟩ := PySem.W.excInit_of X0 T.cls
  obtain ⟨cd, hcd, hal⟩ := Option.bind_eq_some_iff.mp T.sup
  have sz : ∀ {h : Heap}, (∀ b o, h0.get? b = some o → h.get? b = some o) → L < h.objs.size := fun k => by
    obtain ⟨oL, es, ep, hLo, _⟩ := hns
    exact Heap.lt_size (k _ _ hLo)
  have hint : interactive (PySem.W.ksEnv W.qual W.scope L fI' (.ref cda) cc) = false := by
    unfold interactive
    rw [show (PySem.W.ksEnv W.qual W.scope L fI' (.ref cda) cc).scope.kind = .function from T.kind]
    rfl
  refine PySem.ks_wpAt_execs_cons (PySem.ks_wpAt_Expr_any (PySem.ks_wpAt_MethodCall ?_ (meth_eq0 rfl (by show 1 < 29; decide) T.ln)) hint rfl)
  refine PySem.ks_wpAt_super_base (env := PySem.W.ksEnv W.qual W.scope L fI' (.ref cda) cc) T.ksu T.kcl (by decide) rfl (X0 _ _ f3) rfl rfl rfl (X0 _ _ f6) rfl f7 f8 T.top ?_
  refine PySem.W.ks_loadName_global T.kind T.ksu (Calls.loadGlobal_builtin (hg.keeps k0) T.sup0 (hb.keeps k0) ((hmb _ (by decide)).trans (show bootBuiltins "super" = some (.type "super") by decide +kernel)) ⟨rfl, ?_⟩)
  refine wpAny_loadName_free T.kind T.kcl rfl ⟨_, X0 _ _ f5, rfl⟩ ?_
  refine wpAny_loadName_local T.kind T.ksf hns v1 ?_
  refine ks_wpAny_isType_cls hC rfl ⟨rfl, ?_⟩
  refine ks_wpAny_call_super hC rfl I0.at_ I0.cls (fun c z => nomatch z) (PySem.W.looks_mroIn X0 T.slf) (fun h1 e1 k1 => ?_)
  have X1 : K.In h1 := X0.keeps k1
  have hec : e ≠ C := fun z => by
    have z2 := I0.at_
    rw [z, hC] at z2
    cases z2
  refine PySem.W.kxs_getMethod PySem.W.kxs_Exception e1 (PySem.W.looks_opaque X1 T.sta) (l₀ := cd.mro) ((PySem.W.looks_clsIn X1 hcd).andThen .now) rfl X1 hal ?_ hec (by decide) ?_
  · exact (PySem.W.InstAt.type (h := h1) (od := none) ⟨k1 _ _ I0.at_, rfl, rfl, trivial⟩).andThen (PySem.W.looks_subIn X1 T.exE)
  show wpAny _ _ (callWith W.p4 (.ref h1.objs.size) [] (backTo W.p4 (starEach [.Constant (.str W.z) W.j W.p3] (PySem.W.ksEnv W.qual W.scope L fI' (.ref cda) cc))) []) _ _ _
  refine PySem.ESX.callWith_bound (x := e) (first := []) (PyProof.Rows.spliced_more (wpAny_Constant_str (PyProof.Rows.spliced_none ⟨Heap.get?_push_size h1 rfl, ?_⟩)))
  have k2' : ∀ b o, h1.get? b = some o → (h1.push (PySem.ESX.bw e)).get? b = some o := fun b o q => Heap.get?_push_of_some _ q
  refine PySem.ESX.call_bw (k2' _ _ (k1 _ _ hC)) (k2' _ _ (k1 _ _ I0.at_)) (Heap.get?_push_size h1 rfl) (by show 1 ≤ sizeLine; rw [sizeLine_eq]; decide) (fun h2 t1 k3' he2 => ?_)
  have kk : ∀ b o, b ≠ e → h0.get? b = some o → h2.get? b = some o := fun b o hb q => k3' b o hb (k2' _ _ (k1 _ _ q))
  have hns2 : h2.Ns L (fun y => ([(W.sf.arg, Value.ref e), (W.ar.arg, u)] : List (Str × Value)).reverse.lookup y) := by
    obtain ⟨oL, es, ep, hLo, r⟩ := hns
    exact ⟨oL, es, ep, kk _ _ (Ne.symm (nsL he)) hLo, r⟩
  have X2 : K.In h2 := fun a o q => kk a o (fun z => by rw [z, hKe] at q; cases q) (X0 _ _ q)
  obtain ⟨cd2, bmr, c1, c2, c3⟩ := exc_cls T.cls
  have hdc : cd2.hasDict = true := by
    have z := T.dct
    rw [c1] at z
    exact z
  show PySem.wpAt _ _ _ (execs [_] _) _ _ _
  refine PySem.ks_wpAt_execs_cons (PySem.ks_wpAt_Assign_Attr (wpAt_of_wpAny (ld_loc T.kind T.kar hns2 v2 T.d2 (ld_loc T.kind T.ksf hns2 v1 T.d1 ?_))) rfl)
  refine PySem.W.set_plain (od := none) X2 ⟨he2, rfl, rfl, trivial⟩ T.sa (osa_first X2 he2 c1 c2 c3 hdc T.noat (fun h3 tk3 dx ⟨k4, g4, ne4, he3, hn3⟩ => ?_))
  refine wpAt_of_wpAny (wpAny_execs_nil ?_)
  refine hq h3 tk3 dx t1 (fun b o hb q => k4 b o hb (kk b o hb (k0 _ _ q))) (Nat.le_trans (Nat.le_of_lt ?_) g4) ne4 he3 hn3
  obtain ⟨oL, es, ep, hLo, r⟩ := hns2
  exact Heap.lt_size hLo
end
/-- C(e) -/
theorem pmk_exi {X : Cx} {C : Addr} {W : InitW} {x : Str} {a : Expr} {te : TE} {p pos : Pos} (T : ExI X.prog X.K X.mg C W) (hr : Room 1 X.A) (hg : Gl X x) (hm : X.mg x = some (.ref C)) (hdb : (x == ("__debug__" : Str)) = false) (ha : PE X a te) (hs : noStar a = true) :
    L2N.PMk X (.Call (.Name x p) [a] [] pos) (fun σ H Q => te σ H fun y H1 => ∀ d, H1 d = none → Q (.ref C) (some d) (upd H1 d (.xd [(W.f, y)]))) := by
  intro pins s σ H Q I h
  have hst : starEach [a] X.env = (false, eval a X.env) :: starEach [] X.env := star_cons hs
  refine wpAny_Call_Name_kw (ld_glob I hg hm ?_ hdb)
  have par := (pa_cons ha pa_nil hst).run pos pins s σ H (fun vs H1 => match vs with | [y] => ∀ d, H1 d = none → Q (.ref C) (some d) (upd H1 d (.xd [(W.f, y)])) | _ => False) I h
  refine PySem.W.callWith_K (h₀ := X.base) I.ok.mod.kin T.kC (thn par fun us s1 ⟨vs, H1, I1, r1, q1⟩ => ⟨I1.kIn, ?_⟩) hst rfl
  obtain ⟨y, rfl⟩ : ∃ y, vs = [y] := by
    match vs, q1 with
    | [y], _ => exact ⟨y, rfl⟩
  have q1 : ∀ d, H1 d = none → Q (.ref C) (some d) (upd H1 d (.xd [(W.f, y)])) := q1
  obtain ⟨fI, cc, cda, kV, doc, pm, ct, oc, occ, ocl, an, od, odc, odl, osl, osc, osk, vs, file, tf, f1, f2, f3, f4, f5, f6, f7, f8⟩ := T.fn
  obtain ⟨nm, N', qn, bs, bm, hdct, sn, sub, ab, col, dd, k0', k1, k2, k3, k5, hC, hT⟩ := PySem.W.excInit_of I1.kIn T.cls
  obtain ⟨u, rfl⟩ : ∃ u, us = [u] := by
    cases r1 with
    | cons r1 r2 => cases r2; exact ⟨_, rfl⟩
  have ru : RelV y u := by
    cases r1 with
    | cons r1 r2 => exact r1
  show wpAny _ _ (call (.ref C) [u]) _ _ _
  obtain ⟨hp, g, dr, tk, os⟩ := s1
  have hsz : hp.objs.size ≤ hp.objs.size + 1 := Nat.le_succ _
  have kk : ∀ b o, hp.get? b = some o → ((hp.push (PySem.W.kdv_tup [u])).push (PySem.HandSPX.excO C hp.objs.size)).get? b = some o := fun b o e => Heap.get?_push_of_some _ (Heap.get?_push_of_some _ e)
  have hget : ((hp.push (PySem.W.kdv_tup [u])).push (PySem.HandSPX.excO C hp.objs.size)).get? (hp.objs.size + 1) = some (PySem.HandSPX.excO C hp.objs.size) := by heap_get
  have kb : ∀ b o, X.base.get? b = some o → hp.get? b = some o := I1.bk
  have hKe : X.K.lookup (hp.objs.size + 1) = none := by
    cases z : X.K.lookup (hp.objs.size + 1) with
    | none => rfl
    | some o => exact absurd (Heap.lt_size (I1.kIn _ _ z)) (Nat.not_lt.mpr hsz)
  obtain ⟨mb, hb1, hb2⟩ := I1.mod.blt
  refine wpAny_call (PySem.HandSPX.call_own F.excBase_Exception hT hC (PySem.W.looks_findIn I1.kIn f1) (fun self => PySem.W.bind_fn I1.kIn self f2) (by show 1 ≤ sizeLine; rw [sizeLine_eq]; decide)
    (init_run (C := C) T (I1.kIn.keeps kk) (I1.nolimit.keeps kk) (hr.make C [u] []).depth hget hKe ((I1.mod.glob.keeps kb).keeps kk) ((hb1.keeps kb).keeps kk) hb2 f1 (fun h' t' dx t1 k' g' ne' he' hn' => ⟨rfl, ?_⟩)))
  have hge : hp.objs.size ≤ dx := by
    have z : ((hp.push (PySem.W.kdv_tup [u])).push (PySem.HandSPX.excO C hp.objs.size)).objs.size = hp.objs.size + 2 := by simp [Heap.size_push]
    omega
  obtain ⟨G, g1, g2⟩ := restrict h' fun b => decide (b ≠ hp.objs.size + 1)
  have gk : ∀ b, b ≠ hp.objs.size + 1 → G.get? b = h'.get? b := fun b hb => g1 b (decide_eq_true hb)
  have gn : G.get? (hp.objs.size + 1) = none := g2 _ (by simp)
  have hnd : H1 dx = none := I1.hok.fresh hge
  have J : Inv X pins σ (upd H1 dx (.xd [(W.f, y)])) ⟨G, g, dr, t', os⟩ := I1.laid (t' := t') (a := dx) (o := .xd [(W.f, y)]) (fun b o q => by
      have hb : b ≠ hp.objs.size + 1 := Nat.ne_of_lt (Nat.lt_of_lt_of_le (Heap.lt_size q) hsz)
      rw [gk b hb]
      exact k' b o hb (kk _ _ q)) hge ⟨_, hn'.at fun o q => (gk dx ne').trans q, relO_put (fs := []) ru fun _ => True.intro⟩
  refine ⟨hp.objs.size + 1, _, _, ⟨G, g, dr, t', os⟩, _, .ref C, some dx, rfl, J, fun b o z => ?_, gn, he', ⟨rfl, rfl, fun vs z => by cases z; rfl⟩, rfl, rfl, ?_, rfl, I1.bare, raises_own T.exC T.tyC, q1 dx hnd⟩
  · by_cases hb : b = hp.objs.size + 1
    · rw [hb, gn] at z
      cases z
    · exact (gk b hb).symm.trans z
  · rw [upd_ne (Ne.symm ne')]
    exact I1.hok.fresh hsz
/-- raise C(e) -/
def wRaise (c f : Str) (wa : WE) : WS := fun ρ M _ E => wa ρ M (fun d M1 => E ⟨c, f, d⟩ ρ M1) (fun x M1 => E x ρ M1)
theorem us_raise {X : Cx} {W : WX} {c : Str} {I : InitW} {wa : WE} {a : Expr} {p pos rpos : Pos} (T : ExI X.prog X.K X.mg (He.ga X.K c) I) (hr : Room 1 X.A) (hc : X.calm = true) (tk : L2N.Takes X W) (hg : Gl X c) (hm : X.mg c = some (.ref (He.ga X.K c))) (hdb : (c == ("__debug__" : Str)) = false)
    (ha : PE X a (upE X W wa)) (hs : noStar a = true) : PS X (.Raise (some (.Call (.Name c p) [a] [] pos)) none rpos) (upS X W (wRaise c I.f wa)) := (L2N.ps_raise hc tk (pmk_exi T hr hg hm hdb ha hs)).imp fun B σ H ⟨ρ, M, N, E0, r, m, z, g, xg⟩ =>
  ⟨ρ, M, _, _, r, m, z, fun d M1 z1 y H1 s1 rd m1 p hp => by
    have sN : Stb H1 (upd H1 p (.xd [(I.f, y)])) := Stb.new hp
    exact xg _ ρ M1 z1 _ _ σ _ (s1.trans sN) ((r.stb s1).stb sN) ⟨rfl, p, y, rfl, m1.fresh hp, upd_same, rd.stb sN⟩ (m1.laid hp), xg.at_ r⟩
end Fg
/-! Fg12: try with any number of clauses, each with a name or without; what a suite asks of the caught exception. -/
namespace Fg
open PySem PySem.Spec L2
open PyProof.Rows hiding St
/-- the exception at a is caught and lies over the ground B -/
structure Cau (X : Cx) (pins : List (Addr × Obj)) (a : Addr) (B : Heap) (sI : Shared) (σ : St) (H : Hp) (cls : Value) (d : Option Addr) (s : Shared) : Prop where
  J : Inv X pins σ H sI
  nb : ∀ b o, sI.heap.get? b = some o → b ∉ frs X.stack → B.get? b = some o
  up : sI.heap.UpToSlots s.heap
  fl : HandSPX.FlyingZ B (X.env :: X.outer) a (L2N.Zn cls d) s.heap
  na : H a = none
  os : s.os = sI.os
  ag : AllBare s.gens
section
variable {X : Cx} {pins : List (Addr × Obj)} {a : Addr} {B : Heap} {sI : Shared} {σ : St} {H : Hp} {cls : Value} {d : Option Addr} {s : Shared}
theorem Cau.inv (c : Cau X pins a B sI σ H cls d s) : Inv X pins σ H s := c.J.landed c.nb c.fl.1 c.up c.os c.ag
theorem Cau.re (c : Cau X pins a B sI σ H cls d s) {h' : Heap} (fl : HandSPX.FlyingZ B (X.env :: X.outer) a (L2N.Zn cls d) h') (up : s.heap.UpToSlots h') : Cau X pins a B sI σ H cls d { s with heap := h' } :=
  ⟨c.J, c.nb, c.up.trans up, fl, c.na, c.os, c.ag⟩
theorem Cau.nfr (c : Cau X pins a B sI σ H cls d s) : a ∉ frs (X.env :: X.outer) := fun hm => by
  obtain ⟨oe, vs, h1, h2, h3⟩ := c.fl.there
  obtain ⟨_, o, h4, h5⟩ := c.fl.2.2.1.mem hm
  rw [h1] at h4
  exact h5 _ (Option.some.inj h4 ▸ h3)
theorem Cau.suite (c : Cau X pins a B sI σ H cls d s) (hf : X.env.frame = some X.env.locals) : ∃ oe, L2N.Zn cls d oe ∧ (∃ vs, oe.data = .fields vs) ∧ Inv (X.suite a ((a, oe) :: (X.pn ++ pins))) [] σ H s := by
  obtain ⟨oe, vs, h1, h2, h3⟩ := c.fl.there
  have hn := c.nfr
  refine ⟨oe, h2, ⟨vs, h3⟩, c.inv.suite h1 h3 c.na (fun z => hn ?_) fun hm => hn ?_⟩
  · exact List.mem_filterMap.mpr ⟨X.env, List.mem_cons_self, by rw [hf, z]⟩
  · obtain ⟨e, he, q⟩ := List.mem_filterMap.mp hm
    exact List.mem_filterMap.mpr ⟨e, List.mem_cons_of_mem _ he, q⟩
/-- no clause is left -/
theorem hd_nil {W : WX} {D : Ends} (c : Cau X pins a B sI σ H cls d s) (hs : X.stack = X.env :: X.outer) (hf : X.env.frame = some X.env.locals) (tk : L2N.Takes X W) (w : W cls d σ H) :
    wpAny (model X.prog X.w) X.A (handleBy (.ref a) X.env []) (SP X pins D) X.xe s := by
  obtain ⟨_, _, _, oe, vs, T, oT, ts, he, _, hd, h1, _⟩ := id c.fl
  have go : wpAny (model X.prog X.w) X.A (setFlight (.ref a) X.env.frame) (fun _ s4 => wpAny (model X.prog X.w) X.A (throw (.ref a) : Sem Flow) (SP X pins D) X.xe s4) X.xe s := by
    rw [hf]
    exact HandSPX.setFlight_upZ c.fl fun h4 hh4 up4 => wpAny_throw (tk _ _ ⟨a, B, sI, pins, σ, H, cls, d, rfl, c.J, c.nb, c.up.trans up4, .inr (.inr (by rw [hs]; exact hh4)), c.na, c.os, c.ag, w⟩)
  refine wpAny_handleBy_nil ?_
  unfold PySem.passOn
  refine wpAny_bind (wpAny_field he hd h1 ?_)
  rw [if_neg (show ¬ ((Value.ref T == Value.none) = true) from by simp)]
  first
    | exact wpAny_bind (wpAny_pure (wpAny_bind go))
    | exact wpAny_bind go
/-- a clause's class is asked -/
theorem hd_test {x : Str} {c : Value} {np : Pos} {b : Bool} {R : Result → Shared → Prop} {ps : Pos} (k : Cau X pins a B sI σ H cls d s) (hf : X.env.frame = some X.env.locals) (hc : Names X x c) (hb : PySem.W.exmOne X.K cls c = some b) (h : R (.ok (if b then .brk else .next)) s) :
    codeAny (model X.prog X.w) (X.A.mark (some (.ref a))) (.handlers (.ref a) [.ExceptHandler (some (.Name x np)) none [] ps] X.env) R s := by
  obtain ⟨oe, hz, hv, S⟩ := k.suite hf
  obtain ⟨oe2, vs, he, hz2, _⟩ := k.fl.there
  have L1 : PySem.W.Looks (model X.prog X.w) s.heap (typeOf (.ref a)) cls := fun A Q E s' kp q => wpAny_typeOf_ref (kp _ _ he) (by rw [hz2.1]; exact q)
  have L2 := PySem.W.exm_one (M := model X.prog X.w) k.inv.kIn L1 hb
  refine codeAny_handlers_test ?_
  obtain ⟨hg, hdb, hm | ⟨hm, hv, hn⟩⟩ := hc
  · exact ld_glob (X := X.suite a ((a, oe) :: (X.pn ++ pins))) S hg hm (L2.here h) hdb
  · exact ld_blt (X := X.suite a ((a, oe) :: (X.pn ++ pins))) S hg hm hv (L2.here h) hn hdb
/-- the ends of a suite that has a name -/
def clrE (D : Ends) (i : Nat) : Ends := { nx := fun σ H => D.nx (σ.set i none) H, rt := D.rt, bk := fun σ H => D.bk (σ.set i none) H, ct := fun σ H => D.ct (σ.set i none) H }
abbrev SuT := Addr → Value → Option Addr → TS
/-- what the clauses ask of an exception -/
def wHds (K : PySem.W.Frag) (W : WX) (D : Ends) : List (Value × Option Nat × SuT) → WX
  | [] => W
  | (c, o, t) :: r => fun cls d σ H => ∃ b, PySem.W.exmOne K cls c = some b ∧ (b = true → ∀ a, H a = none → match o with
      | none => t a cls d D σ H
      | some i => t a cls d (clrE D i) (σ.set i (some (.ref a))) H) ∧ (b = false → wHds K W D r cls d σ H)
def SuOk (X : Cx) (b : List Stmt) (t : SuT) : Prop := ∀ (a : Addr) (oe : Obj) (cls : Value) (d : Option Addr) (pn : List (Addr × Obj)), L2N.Zn cls d oe → (∃ vs, oe.data = .fields vs) → PSs (X.suite a ((a, oe) :: pn)) b (t a cls d)
inductive Hds (X : Cx) : List ExceptHandler → List (Value × Option Nat × SuT) → Prop
  | nil : Hds X [] []
  | bare {x : Str} {c : Value} {t : SuT} {b : Stmt} {bs : List Stmt} {p q : Pos} {hs : List ExceptHandler} {l : List (Value × Option Nat × SuT)} (hc : Names X x c) (hu : SuOk X (b :: bs) t) (r : Hds X hs l) :
      Hds X (.ExceptHandler (some (.Name x p)) none (b :: bs) q :: hs) ((c, none, t) :: l)
  | named {x n : Str} {i : Nat} {c : Value} {t : SuT} {b : Stmt} {bs : List Stmt} {p q : Pos} {hs : List ExceptHandler} {l : List (Value × Option Nat × SuT)} (hc : Names X x c) (hi : X.N[i]? = some n) (hn : X.env.kindOf n = some .local) (hu : SuOk X (b :: bs) t) (r : Hds X hs l) :
      Hds X (.ExceptHandler (some (.Name x p)) (some n) (b :: bs) q :: hs) ((c, some i, t) :: l)
/-- the clauses, one after another -/
theorem hds_run {W : WX} {D : Ends} (hs : X.stack = X.env :: X.outer) (hf : X.env.frame = some X.env.locals) (hN : X.N.Nodup) (tk : L2N.Takes X W) {hds : List ExceptHandler} {l : List (Value × Option Nat × SuT)} (hh : Hds X hds l) (k : Cau X pins a B sI σ H cls d s) (ok : X.Ok) (w : wHds X.K W D l cls d σ H) :
    wpAny (model X.prog X.w) X.A (handleBy (.ref a) X.env hds) (SP X pins D) X.xe s := by
  induction hh with
  | nil => exact hd_nil k hs hf tk w
  | bare hc hu r ih =>
    obtain ⟨b, h1, h2, h3⟩ := w
    refine wpAny_handleBy_cons (hd_test k hf hc h1 ?_) (by intro q; cases q)
    cases b with
    | false => exact ih (h3 rfl)
    | true =>
      refine codeAny_handlers_suite (HandSPX.lands_againZ k.fl fun h4 fl4 up4 => ?_)
      obtain ⟨oe, hz, hv, S⟩ := (k.re fl4 up4).suite hf
      refine wpAny_mono ((hu a oe cls d (X.pn ++ pins) hz hv).run [] _ _ H _ S (h2 rfl a k.na)) (fun f s6 z => ?_) fun _ _ z => z.elim
      cases f with
      | ret u => obtain ⟨v, σ6, H6, S6, r6, q6⟩ := z; exact ⟨v, σ6, H6, S6.unsuite ok, r6, q6⟩
      | _ => obtain ⟨σ6, H6, S6, q6⟩ := z; exact ⟨σ6, H6, S6.unsuite ok, q6⟩
  | @named x n i c t b0 bs p q hs' l' hc hi hn hu r ih =>
    obtain ⟨b, h1, h2, h3⟩ := w
    refine wpAny_handleBy_cons (hd_test k hf hc h1 ?_) (by intro q; cases q)
    cases b with
    | false => exact ih (h3 rfl)
    | true =>
      refine codeAny_handlers_suite_as (HandSPX.lands_againZ k.fl fun h4 fl4 up4 => ?_)
      obtain ⟨oe, hz, hv, S⟩ := (k.re fl4 up4).suite hf
      refine store_ok (X := X.suite a ((a, oe) :: (X.pn ++ pins))) (v := .ref a) S hN hi (.inl hn) rfl (fun s5 S5 => ?_) (.inr hn)
      refine wpAny_mono ((hu a oe cls d (X.pn ++ pins) hz hv).run [] s5 _ H _ S5 (h2 rfl a k.na)) (fun f s6 z => ?_) fun _ _ z => z.elim
      cases f with
      | ret u => obtain ⟨v, σ6, H6, S6, r6, q6⟩ := z; exact gone_ok (S6.unsuite ok) hN hi hn fun s7 J7 => ⟨v, _, H6, J7, r6, q6⟩
      | _ => obtain ⟨σ6, H6, S6, q6⟩ := z; exact gone_ok (S6.unsuite ok) hN hi hn fun s7 J7 => ⟨_, H6, J7, q6⟩
/-- try: body, its clauses -/
theorem ps_tryA {W : WX} {body : List Stmt} {h0 : ExceptHandler} {hds : List ExceptHandler} {l : List (Value × Option Nat × SuT)} {pos : Pos} {tb : WX → TS} (hs : X.stack = X.env :: X.outer) (hf : X.env.frame = some X.env.locals) (hN : X.N.Nodup) (tk : L2N.Takes X W)
    (hb : ∀ (W' : WX) (pn : List (Addr × Obj)) (xe : Value → Shared → Prop), L2N.Takes (X.tr pn xe) W' → PassesOwn (model X.prog X.w) X.A X.env xe → PSs (X.tr pn xe) body (tb W')) (hh : Hds X (h0 :: hds) l) :
    PS X (.Try body (h0 :: hds) [] [] pos) (fun D σ H => tb (wHds X.K W D l) D σ H) := ⟨fun pins s σ H D I h => by
  have ok := I.ok
  have run := (hb (wHds X.K W D l) (X.pn ++ pins) (fun e s1 => wpAny (model X.prog X.w) X.A (noteFrame e X.env) (fun _ s2 => wpAny (model X.prog X.w) X.A (setFlight e none) (fun _ s3 =>
    wpAny (model X.prog X.w) X.A (handleBy e X.env (h0 :: hds)) (SP X pins D) X.xe s3) X.xe s2) X.xe s1) (fun u s' xx => by
      obtain ⟨a, B, sI, pins', σ', H', cls, d, rfl, J, nb, up, sky, na, os, ag, w⟩ := xx
      show wpAny (model X.prog X.w) X.A (noteFrame (.ref a) X.env) _ _ _
      exact L2N.Sky.land L2N.Zn.steady (by rw [ok.frames, hs]) hf (by rw [← hs]; exact sky) fun h3 fl3 up3 => hds_run hs hf hN tk hh ⟨J.ofTry ok, nb, up.trans up3, fl3, na, os, ag⟩ ok w) PassesOwn.looking).run [] s σ H D (I.toTry _) h
  refine wpAny_Try_except (wpAny_mono run (fun f s1 z => ?_) fun e s1 he => he)
  cases f with
  | next => obtain ⟨σ', H', J', q⟩ := z; exact wpAny_execs_nil ⟨σ', H', J'.ofTry ok, q⟩
  | ret u => obtain ⟨v, σ', H', J', r, q⟩ := z; exact ⟨v, σ', H', J'.ofTry ok, r, q⟩
  | _ => obtain ⟨σ', H', J', q⟩ := z; exact ⟨σ', H', J'.ofTry ok, q⟩⟩
end
end Fg
/-! Fg13: raise and try by form; a suite's questions. -/
namespace Fg
open PySem PySem.Spec L2
open PyProof.Rows hiding St
/-- the fields that errors hold -/
def xflds : List Str := ["at", "name", "word"]
/-- one error class under another -/
def xsb (c d : Str) : Bool := c == d || d == "FigureError"
structure XcK (K : PySem.W.Frag) (xs : List Str) : Prop where
  fld : ∀ c ∈ xs, XfC K (He.ga K c)
  noat : ∀ c ∈ xs, ∀ f ∈ xflds, PySem.W.findIn K (.ref (He.ga K c)) f = some none
  isC : ∀ c ∈ xs, ExcC K (He.ga K c)
  ex : ∀ c ∈ xs, ∀ d ∈ xs, PySem.W.exmOne K (.ref (He.ga K c)) (.ref (He.ga K d)) = some (xsb c d)
  kit : ∀ c ∈ xs, ∀ d ∈ xs, PySem.W.kitOne K (.ref (He.ga K c)) (.ref (He.ga K d)) = some (xsb c d)
  alien : ∀ c ∈ xs, ∀ T ∈ (["ValueError", "LookupError", "ArithmeticError"] : List String), PySem.W.kitOne K (.ref (He.ga K c)) (.type T) = some false
/-- a global class -/
def GCl (U : Ud) (c : Str) : Prop := U.mg c = some (.ref (He.ga U.K c))
section
variable {U : Ud} {k : Nat} {n : Nm} {e a : Expr} {pos p rpos : Pos} {c : Str} {wa : WE}
theorem s_raise {I : InitW} {f : Str} (T : ExI U.P U.K U.mg (He.ga U.K c) I) (hfe : I.f = f) (hk : 1 ≤ k) (hh : n.hot = false) (hg : n.sc.names.lookup c = some .globalImplicit) (hm : GCl U c) (hdb : (c == ("__debug__" : Str)) = false) (ha : JE U k n a wa) (hs : noStar a = true) :
    JS U k n (.Raise (some (.Call (.Name c p) [a] [] pos)) none rpos) (wRaise c f wa) := fun X W g => by
  subst hfe
  have hK := g.eK
  have T' : ExI X.prog X.K X.mg (He.ga X.K c) I := by rw [g.eP, g.eK, g.eM]; exact T
  exact us_raise T' ((g.room hh).mono hk) (g.calm hh) g.tk (g.gl hg) (by rw [g.eM, g.eK]; exact hm) hdb (ha X W g) hs
/-! ### e.f of the exception that the suite holds -/
def wXAtt (xs : List Str) (f : Str) (ad : Addr) (x : Xn) (dd : Addr) (wo : WE) : WE := fun ρ M Q E => wo ρ M (fun o M1 => o = .ref ad ∧ x.c ∈ xs ∧ f ∈ xflds ∧ ∃ v, M1 dd = some (.xd f v) ∧ Q v M1) E
theorem n_xatt {xs : List Str} {f : Str} {ad dd : Addr} {x : Xn} (T : XcK U.K xs) (hx : n.ex = some (ad, x, dd)) (ha : JE U k n e wa) (hb : isCall0 e = false) : JE U k n (.Attribute e f pos) (wXAtt xs f ad x dd wa) := fun X W g => by
  obtain ⟨oe, hz, ⟨vs, hv⟩, hp⟩ := g.xc ad x dd hx
  refine ⟨fun pins s σ H Q I h => ?_⟩
  obtain ⟨ρ, M, Q0, E0, r, m, t, q, xg⟩ := h
  refine attr_of (base_of hb) (thn ((ha X W g).run pins s σ H (fun y H1 => y = .ref ad ∧ x.c ∈ xs ∧ f ∈ xflds ∧ ∃ y1 v M1, H1 dd = some (.xd [(f, y1)]) ∧ RD X.K H1 v y1 ∧ RMx X H1 M1 ∧ Stb H H1 ∧ Q0 v M1) I ⟨ρ, M, _, E0, r, m, t, fun d M1 t1 y H1 s1 rd m1 => ?_, xg⟩) fun u s1 hh => ?_)
  · obtain ⟨rfl, h1, h2, v, h3, h4⟩ := t1
    cases rd
    obtain ⟨y1, h5, h6⟩ := m1 dd _ h3
    exact ⟨rfl, h1, h2, y1, v, M1, h5, h6, m1, s1, h4⟩
  · obtain ⟨y, H1, I1, ry, rfl, h1, h2, y1, v, M1, h3, h4, m1, s1', q1⟩ := hh
    obtain rfl : u = Value.ref ad := ry
    have F := T.fld _ h1
    have hno := T.noat _ h1 f h2
    obtain ⟨hget, _⟩ := I1.pin (ad, oe) (List.mem_append_left _ hp)
    obtain ⟨mA, hns, hr⟩ : ObjOk X.prog X.w H1 s1.heap dd (.xd [(f, y1)]) := I1.hok dd _ h3
    obtain ⟨od, ho, hl⟩ := lookIn_ns hns
    obtain ⟨u1, hu, ru⟩ := RelO.some_of (v := y1) (o := mA f) (by
      have z := hr f
      rw [lookup_put, if_pos rfl] at z
      exact z)
    rw [← g.eK] at F hno hz
    have J : PySem.W.InstAt s1.heap ad oe (He.ga X.K x.c) (some od) := ⟨hget, hz.1, by unfold PySem.W.notCls; rw [hv] <;> rfl, by rw [hz.2.1]; exact ho⟩
    exact HandSPX.exc_get I1.kIn J F.ga F.gg F.exC (PySem.W.findObj_own F.hdC hno rfl (by rw [hl, hu])) (handed_of ru) ⟨y1, H1, I1.tok _, ru, q _ M1 q1 _ H1 s1' h4 m1⟩
end
/-! ### try -/
def clrD (N : EndsD) (i : Nat) : EndsD := { nx := fun ρ M => N.nx (ρ.set i none) M, rt := N.rt, bk := fun ρ M => N.bk (ρ.set i none) M, ct := fun ρ M => N.ct (ρ.set i none) M }
abbrev noQ : QS := fun _ _ _ => False
abbrev SuD := Xn → Addr → Addr → WS
def wHdD (xs : List Str) (N : EndsD) (E : QS) : List (Str × Option Nat × SuD) → QS
  | [] => E
  | (c, o, t) :: r => fun x ρ M => x.c ∈ xs ∧ if xsb x.c c = true then ∀ a dd, M a = none → M dd = none → a ≠ dd → (match o with
      | none => t x a dd ρ (up M dd (.xd x.f x.v)) N noQ
      | some i => t x a dd (ρ.set i (some (.ref a))) (up M dd (.xd x.f x.v)) (clrD N i) noQ)
    else wHdD xs N E r x ρ M
def wTry (xs : List Str) (tb : WS) (l : List (Str × Option Nat × SuD)) : WS := fun ρ M N E => tb ρ M N (wHdD xs N E l)
def suT (X : Cx) (t : SuD) : SuT := fun a cls d D σ H => ∃ x dd, cls = .ref (He.ga X.K x.c) ∧ d = some dd ∧ upS X W0 (t x a dd) D σ H
def hdsL (X : Cx) (l : List (Str × Option Nat × SuD)) : List (Value × Option Nat × SuT) := l.map fun q => (.ref (He.ga X.K q.1), q.2.1, suT X q.2.2)
theorem XGoS.noQ {X : Cx} {H : Hp} : XGoS X W0 H noQ := fun _ _ _ h => h.elim
section
variable {X : Cx} {W : WX} {xs : List Str} {l : List (Str × Option Nat × SuD)} {D : Ends} {N : EndsD} {E0 : QS}
theorem go_hds (T : XcK X.K xs) : ∀ {l : List (Str × Option Nat × SuD)}, (∀ q ∈ l, q.1 ∈ xs) → ∀ {H : Hp}, GoE X H N D → XGoS X W H E0 → XGoS X (wHds X.K W D (hdsL X l)) H (wHdD xs N E0 l)
  | [], _, H, g, xg => xg
  | (c, o, t) :: r, hl, H, g, xg => fun x ρ M z cls d σ H' s' r' rx m' => by
    obtain ⟨h1, z⟩ := z
    have hc := hl (c, o, t) (List.mem_cons_self ..)
    obtain ⟨rfl, dd, y, rfl, h2, h3, h4⟩ := id rx
    refine ⟨xsb x.c c, T.ex _ h1 _ hc, fun hb a ha => ?_, fun hb => ?_⟩
    · rw [if_pos hb] at z
      have hne : a ≠ dd := fun e => by rw [e, h3] at ha; cases ha
      have z2 := z a dd (m'.fresh ha) h2 hne
      have m2 : RMx X H' (up M dd (.xd x.f x.v)) := fun b ob e => by
        by_cases hb : b = dd
        · subst hb
          rw [up_same] at e
          cases e
          exact ⟨y, h3, h4⟩
        · rw [up_ne hb] at e
          exact m' b ob e
      have g2 := g.stb s'
      cases o with
      | none => exact ⟨x, dd, rfl, rfl, ρ, _, N, noQ, r', m2, z2, g2, XGoS.noQ⟩
      | some i => exact ⟨x, dd, rfl, rfl, _, _, clrD N i, noQ, r'.set (.ref a), m2, z2, ⟨fun ρ1 M1 p1 σ1 H1 s1 r1 m1 => g2.nx _ M1 p1 _ H1 s1 (r1.clear i) m1, g2.rt, fun ρ1 M1 p1 σ1 H1 s1 r1 m1 => g2.bk _ M1 p1 _ H1 s1 (r1.clear i) m1, fun ρ1 M1 p1 σ1 H1 s1 r1 m1 => g2.ct _ M1 p1 _ H1 s1 (r1.clear i) m1⟩, XGoS.noQ⟩
    · rw [if_neg (by rw [hb]; exact Bool.false_ne_true)] at z
      exact go_hds T (fun q hq => hl q (List.mem_cons_of_mem _ hq)) g xg x ρ M z _ _ σ H' s' r' rx m'
end
section
variable {U : Ud} {k : Nat} {n : Nm} {body : List Stmt} {tb : WS} {xs : List Str}
/-- the names within a suite -/
def Nm.su (n : Nm) (q : Addr × Xn × Addr) : Nm := { n with hot := true, ex := some q }
theorem Gd.suite {X : Cx} {W : WX} (g : Gd U k n X W) (hh : n.hot = false) {a dd : Addr} {x : Xn} {oe : Obj} {pn : List (Addr × Obj)} (hz : L2N.Zn (.ref (He.ga U.K x.c)) (some dd) oe) (hv : ∃ vs, oe.data = .fields vs) : Gd U k (n.su (a, x, dd)) (X.suite a ((a, oe) :: pn)) W0 :=
  ⟨g.eP, g.eW, g.eK, g.eM, g.eB, g.eN, g.eS, g.nd, fun h => (nomatch h), fun h => (nomatch h), g.hu, takes0N, fun h => (nomatch h), fun a' x' dd' h => by cases h; exact ⟨oe, hz, hv, List.mem_cons_self ..⟩, fun _ => ⟨⟨(a, oe), ⟨rfl, let ⟨vs, h⟩ := hv; ⟨vs, h, hz.2.2 vs h⟩⟩, List.mem_cons_self ..⟩, ⟨(g.room hh).dp, (g.room hh).un⟩⟩, g.stk, g.fn⟩
theorem Gd.tr {X : Cx} {W W' : WX} (g : Gd U k n X W) (hh : n.hot = false) (hx : n.ex = none) {pn : List (Addr × Obj)} {xe : Value → Shared → Prop} (tk : L2N.Takes (X.tr pn xe) W') (po : PassesOwn (model X.prog X.w) X.A X.env xe) : Gd U k n (X.tr pn xe) W' :=
  ⟨g.eP, g.eW, g.eK, g.eM, g.eB, g.eN, g.eS, g.nd, g.calm, g.room, g.hu, tk, fun _ => po, fun a x dd h => (by rw [hx] at h; cases h), fun h => (by rw [hh] at h; cases h), g.stk, g.fn⟩
/-- the clauses by form -/
inductive JHds (U : Ud) (k : Nat) (n : Nm) (xs : List Str) : List ExceptHandler → List (Str × Option Nat × SuD) → Prop
  | nil : JHds U k n xs [] []
  | bare {c : Str} {t : SuD} {b : Stmt} {bs : List Stmt} {p q : Pos} {hs : List ExceptHandler} {l : List (Str × Option Nat × SuD)} (hc : c ∈ xs) (hg : n.sc.names.lookup c = some .globalImplicit) (hd : (c == ("__debug__" : Str)) = false) (hm : GCl U c)
      (hu : ∀ a x dd, JSs U k (n.su (a, x, dd)) (b :: bs) (t x a dd)) (r : JHds U k n xs hs l) : JHds U k n xs (.ExceptHandler (some (.Name c p)) none (b :: bs) q :: hs) ((c, none, t) :: l)
  | named {c y : Str} {i : Nat} {t : SuD} {b : Stmt} {bs : List Stmt} {p q : Pos} {hs : List ExceptHandler} {l : List (Str × Option Nat × SuD)} (hc : c ∈ xs) (hg : n.sc.names.lookup c = some .globalImplicit) (hd : (c == ("__debug__" : Str)) = false) (hm : GCl U c)
      (hi : n.N[i]? = some y) (hy : n.sc.names.lookup y = some .local) (hu : ∀ a x dd, JSs U k (n.su (a, x, dd)) (b :: bs) (t x a dd)) (r : JHds U k n xs hs l) : JHds U k n xs (.ExceptHandler (some (.Name c p)) (some y) (b :: bs) q :: hs) ((c, some i, t) :: l)
theorem upS_to {X Y : Cx} {W : WX} {t : WS} {D : Ends} {σ : St} {H : Hp} (hK : Y.K = X.K) (hw : Y.w = X.w) (h : upS X W t D σ H) : upS Y W t D σ H := by
  obtain ⟨ρ, M, N, E0, r, m, z, g, xg⟩ := h
  have rm : ∀ {H' : Hp} {M' : MM}, RMx Y H' M' → RMx X H' M' := fun m' => by
    have m2 : RM Y.K Y.w _ _ := m'
    rw [hK, hw] at m2
    exact m2
  refine ⟨ρ, M, N, E0, by rw [hK]; exact r, by show RM Y.K Y.w H M; rw [hK, hw]; exact m, z, ⟨fun ρ' M' p σ' H' s' r' m' => g.nx ρ' M' p σ' H' s' (hK ▸ r') (rm m'), fun d M' p y H' s' r' m' => g.rt d M' p y H' s' (hK ▸ r') (rm m'), fun ρ' M' p σ' H' s' r' m' => g.bk ρ' M' p σ' H' s' (hK ▸ r') (rm m'), fun ρ' M' p σ' H' s' r' m' => g.ct ρ' M' p σ' H' s' (hK ▸ r') (rm m')⟩,
    fun x ρ' M' p cls d σ' H' s' r' rx m' => xg x ρ' M' p cls d σ' H' s' (hK ▸ r') (hK ▸ rx) (rm m')⟩
theorem su_ok {X : Cx} {W : WX} (g : Gd U k n X W) (hh : n.hot = false) {b : Stmt} {bs : List Stmt} {t : SuD} (hu : ∀ a x dd, JSs U k (n.su (a, x, dd)) (b :: bs) (t x a dd)) : SuOk X (b :: bs) (suT X t) := fun a oe cls d pn hz hv =>
  ⟨fun pins s σ H D I ⟨x, dd, h1, h2, h3⟩ => by
    subst h1 h2
    have hz' : L2N.Zn (.ref (He.ga U.K x.c)) (some dd) oe := by rw [← g.eK]; exact hz
    exact (hu a x dd _ W0 (g.suite hh (pn := pn) hz' hv)).run pins s σ H D I (upS_to (X := X) rfl rfl h3)⟩
theorem hds_ok {X : Cx} {W : WX} (g : Gd U k n X W) (hh : n.hot = false) {hs : List ExceptHandler} {l : List (Str × Option Nat × SuD)} (h : JHds U k n xs hs l) : Hds X hs (hdsL X l) ∧ ∀ q ∈ l, q.1 ∈ xs := by
  have cl : ∀ {c : Str}, n.sc.names.lookup c = some .globalImplicit → (c == ("__debug__" : Str)) = false → GCl U c → Names X c (.ref (He.ga X.K c)) := fun hg hd hm => ⟨g.gl hg, hd, .inl (by rw [g.eM, g.eK]; exact hm)⟩
  induction h with
  | nil => exact ⟨.nil, fun _ h => nomatch h⟩
  | bare hc hg hd hm hu r ih => exact ⟨.bare (cl hg hd hm) (su_ok g hh hu) ih.1, fun q hq => (List.mem_cons.mp hq).elim (fun e => e ▸ hc) (ih.2 q)⟩
  | named hc hg hd hm hi hy hu r ih => exact ⟨.named (cl hg hd hm) (g.ix hi) (by unfold PySem.Env.kindOf; rw [g.eS]; exact hy) (su_ok g hh hu) ih.1, fun q hq => (List.mem_cons.mp hq).elim (fun e => e ▸ hc) (ih.2 q)⟩
/-- try -/
theorem s_try {h0 : ExceptHandler} {hs : List ExceptHandler} {l : List (Str × Option Nat × SuD)} {pos : Pos} (T : XcK U.K xs) (hh : n.hot = false) (hx : n.ex = none) (ht : n.top = true) (hb : JSs U k n body tb) (hd : JHds U k n xs (h0 :: hs) l) :
    JS U k n (.Try body (h0 :: hs) [] [] pos) (wTry xs tb l) := fun X W g => by
  obtain ⟨h1, h2⟩ := hds_ok g hh hd
  obtain ⟨h3, h4⟩ := g.stk ht
  have T' : XcK X.K xs := by rw [g.eK]; exact T
  exact (ps_tryA (tb := fun W' => upS X W' tb) h3 h4 g.nm g.tk (fun W' pn xe tk po => (hb (X.tr pn xe) W' (g.tr hh hx tk po)).imp fun B σ H z => upS_to (X := X) rfl rfl z) h1).imp fun B σ H ⟨ρ, M, N, E0, r, m, z, gg, xg⟩ =>
    ⟨ρ, M, N, _, r, m, z, gg, go_hds T' h2 gg xg⟩
end
end Fg
/-! Fg14: what the head tells: defs, classes, errors. -/
namespace Fg
open PySem PySem.Spec L2
open PyProof.Rows hiding St
/-! ### an error class read off the written part -/
def initW? (fd : FuncData) : Option (InitW × Addr × Addr) := match fd with
  | { name := nm, qualname := q, params := { posonlyargs := [], args := [a1, a2], vararg := none, kwonlyargs := [], kw_defaults := [], kwarg := none, defaults := [] },
      body := .stmts [.Expr (.Call (.Attribute (.Call (.Name su p0) [] [] p1) ini p2) [.Constant (.str z) j p3] [] p4) p5, .Assign [.Attribute (.Name s1 p6) f p7] (.Name s2 p8) p9],
      scope := sc, globals := gl, closure := [(cl, cc)], defaults := .none, kwdefaults := _, doc := _, pyModule := _, annotations := _, code := .ref cda, closureTuple := _, builtins := bl } =>
    if nm = "__init__" ∧ su = "super" ∧ ini = "__init__" ∧ s1 = a1.arg ∧ s2 = a2.arg ∧ cl = "__class__" ∧ gl = mainGlobals ∧ bl = builtinsNs then some (⟨q, a1, a2, p0, p1, p2, p3, p4, p5, p6, p7, p8, p9, z, j, f, sc⟩, cc, cda) else none
  | _ => none
theorem initW?_ok {fd : FuncData} {W : InitW} {cc cda : Addr} (h : initW? fd = some (W, cc, cda)) : ∃ kV doc pm an ct, fd = PySem.W.ksFn "__init__" W.qual W.params W.body W.scope .none kV doc pm an (.ref cda) ct cc := by
  unfold initW? at h
  split at h
  · split at h
    · rename_i hc
      obtain ⟨rfl, rfl, rfl, rfl, rfl, rfl, rfl, rfl⟩ := hc
      cases h
      exact ⟨_, _, _, _, _, rfl⟩
    · cases h
  · cases h
def scB (sc : Scope) (a b : Str) : Bool := decide (sc.kind = .function) && (!sc.isCoroutine && (!sc.isGenerator && (sc.names.all (fun y => !decide (y.2 = .cell)) && (decide (sc.names.lookup a = some .local) && (decide (sc.names.lookup b = some .local) &&
  (decide (sc.names.lookup ("super" : Str) = some .globalImplicit) && (decide (sc.names.lookup ("__class__" : Str) = some .free) && (decide (a ≠ b) && (!(a == ("__debug__" : Str)) && !(b == ("__debug__" : Str)))))))))))
def clB (K : PySem.W.Frag) (C : Addr) (f : Str) : Bool := PySem.W.excInitIn K C PySem.ESX.exTail "Exception.__new__" && ((PySem.W.clsIn K C).any (·.hasDict) && (decide (PySem.W.findIn K (.ref C) "__setattr__" = some (some (.builtin "object.__setattr__"))) && (decide (PySem.W.findIn K (.ref C) f = some none) &&
  (decide (PySem.W.subIn K (.ref C) (.type "BaseException") = some true) && (decide (PySem.W.subIn K (.ref C) (.type "Exception") = some true) && (decide (PySem.W.mroIn K C (.ref C) = some true) && (decide (PySem.W.typeIn K (.ref C) = some (.type "type")) && (PySem.W.keepIn K (.ref C) &&
  (decide (PySem.W.ks_superIn K C C "__init__" = some (some (.builtin "Exception.__init__"))) && decide (PySem.W.nsIn K cStatics "thirdparty.any" = some none))))))))))
def cellB (K : PySem.W.Frag) (cc C : Addr) : Bool := match K.lookup cc with
  | some ⟨_, _, .cell (some (.ref D)), _⟩ => decide (D = C)
  | _ => false
def fileB (K : PySem.W.Frag) (cda : Addr) (file : Str) : Bool := match K.lookup cda with
  | some ⟨_, _, .fields vs, _⟩ => (match (vs[2]? : Option Value) with
    | some (Value.str fl _) => file == fl
    | _ => false)
  | _ => false
def exiB (K : PySem.W.Frag) (file c f : Str) : Bool := match K.lookup (He.ma K (He.ga K c) "__init__") with
  | some ⟨_, _, .func fd, _⟩ => (match initW? fd with
    | some (W, cc, cda) => decide (W.f = f) && (W.p2.endLine == W.p4.line && (scB W.scope W.sf.arg W.ar.arg && (clB K (He.ga K c) f && (cellB K cc (He.ga K c) && (fileB K cda file && (PySem.W.codeIn K (.ref cda) W.qual &&
      (decide (PySem.W.findIn K (.ref (He.ga K c)) "__init__" = some (some (.ref (He.ma K (He.ga K c) "__init__")))) && decide (PySem.W.typeIn K (.ref (He.ma K (He.ga K c) "__init__")) = some (.type "function")))))))))
    | none => false)
  | _ => false
theorem nb {a : Bool} (h : (!a) = true) : a = false := by cases a <;> simp_all
theorem exi_ok {P : Program} {K : PySem.W.Frag} {mg : Str → Option Value} {c f : Str} (h : exiB K P.main.file c f = true) (hs : mg "super" = none) (ht : (P.main.scope.names.lookup ("super" : Str)).isSome = false) : ∃ W : InitW, W.f = f ∧ ExI P K mg (He.ga K c) W := by
  unfold exiB at h
  split at h
  · rename_i oc od fd osl lk
    split at h
    · rename_i W cc cda hW
      obtain ⟨kV, doc, pm, an, ct, rfl⟩ := initW?_ok hW
      obtain ⟨h1, h⟩ := He.ba h
      obtain ⟨h2, h⟩ := He.ba h
      obtain ⟨h3, h⟩ := He.ba h
      obtain ⟨h4, h⟩ := He.ba h
      obtain ⟨h5, h⟩ := He.ba h
      obtain ⟨h6, h⟩ := He.ba h
      obtain ⟨h7, h⟩ := He.ba h
      obtain ⟨h8, h9⟩ := He.ba h
      obtain ⟨c1, h4⟩ := He.ba h4
      obtain ⟨c2, h4⟩ := He.ba h4
      obtain ⟨c3, h4⟩ := He.ba h4
      obtain ⟨c4, h4⟩ := He.ba h4
      obtain ⟨c5, h4⟩ := He.ba h4
      obtain ⟨c6, h4⟩ := He.ba h4
      obtain ⟨c7, h4⟩ := He.ba h4
      obtain ⟨c8, h4⟩ := He.ba h4
      obtain ⟨c9, h4⟩ := He.ba h4
      obtain ⟨c10, c11⟩ := He.ba h4
      obtain ⟨s1, h3⟩ := He.ba h3
      obtain ⟨s2, h3⟩ := He.ba h3
      obtain ⟨s3, h3⟩ := He.ba h3
      obtain ⟨s4, h3⟩ := He.ba h3
      obtain ⟨s5, h3⟩ := He.ba h3
      obtain ⟨s6, h3⟩ := He.ba h3
      obtain ⟨s7, h3⟩ := He.ba h3
      obtain ⟨s8, h3⟩ := He.ba h3
      obtain ⟨s9, h3⟩ := He.ba h3
      obtain ⟨s10, s11⟩ := He.ba h3
      have e1 : W.f = f := of_decide_eq_true h1
      obtain ⟨ocl, odl, osk, k5⟩ : ∃ ocl odl osk, K.lookup cc = some ⟨ocl, odl, .cell (some (.ref (He.ga K c))), osk⟩ := by
        unfold cellB at h5
        split at h5
        · rename_i o1 o2 D o3 e
          exact ⟨o1, o2, o3, (of_decide_eq_true h5) ▸ e⟩
        · cases h5
      obtain ⟨occ, odc, vs, osc, fl, tf, k6, k7, k8⟩ : ∃ occ odc vs osc fl tf, K.lookup cda = some ⟨occ, odc, .fields vs, osc⟩ ∧ vs[2]? = some (.str fl tf) ∧ ((P.main.file : Str) == fl) = true := by
        unfold fileB at h6
        split at h6
        · rename_i o1 o2 vs o3 e
          split at h6
          · rename_i fl tf e2
            exact ⟨o1, o2, vs, o3, fl, tf, e, e2, h6⟩
          · cases h6
        · cases h6
      refine ⟨W, e1, c1, c2, of_decide_eq_true c3, by rw [e1]; exact of_decide_eq_true c4, of_decide_eq_true c5, of_decide_eq_true c6, of_decide_eq_true c7, of_decide_eq_true c8, c9, of_decide_eq_true c10, hs, of_decide_eq_true c11, ht,
        of_decide_eq_true s1, nb s2, nb s3, fun y hy => of_decide_eq_false (nb (List.all_eq_true.mp s4 y hy)), of_decide_eq_true s5, of_decide_eq_true s6, of_decide_eq_true s7, of_decide_eq_true s8, of_decide_eq_true s9, nb s10, nb s11, h2, ?_⟩
      exact ⟨_, cc, cda, kV, doc, pm, ct, oc, occ, ocl, an, od, odc, odl, osl, osc, osk, vs, fl, tf, of_decide_eq_true h8, of_decide_eq_true h9, lk, h7, k5, k6, k7, k8⟩
    · cases h
  · cases h
/-! ### all error classes -/
def xcB (K : PySem.W.Frag) (c : Str) : Bool := xfB K (He.ga K c) && (xflds.all (fun f => decide (PySem.W.findIn K (.ref (He.ga K c)) f = some none)) && (decide (PySem.W.findIn K (.ref (He.ga K c)) "__class__" = some (some (.builtin "object.__class__"))) &&
  (decide (PySem.W.specialIn K (.builtin "object.__class__") "__get__" = some (some (.builtin "getset_descriptor.__get__"))) && (decide (PySem.W.takesIn K (.builtin "object.__class__") = some true) && decide (PySem.W.mroIn K (He.ga K c) (.type "object") = some true)))))
def xcAll (K : PySem.W.Frag) (xs : List Str) : Bool := xs.all fun c => xcB K c && ((xs.all fun d => decide (PySem.W.exmOne K (.ref (He.ga K c)) (.ref (He.ga K d)) = some (xsb c d)) && decide (PySem.W.kitOne K (.ref (He.ga K c)) (.ref (He.ga K d)) = some (xsb c d))) &&
  ((["ValueError", "LookupError", "ArithmeticError"] : List String).all fun T => decide (PySem.W.kitOne K (.ref (He.ga K c)) (.type T) = some false)))
theorem xc_ok {K : PySem.W.Frag} {xs : List Str} (h : xcAll K xs = true) : XcK K xs := by
  have q : ∀ c ∈ xs, _ := fun c hc => List.all_eq_true.mp h c hc
  have q1 : ∀ c ∈ xs, xcB K c = true := fun c hc => (He.ba (q c hc)).1
  have q2 : ∀ c ∈ xs, ∀ d ∈ xs, _ := fun c hc d hd => He.ba (List.all_eq_true.mp (He.ba (He.ba (q c hc)).2).1 d hd)
  have q3 : ∀ c ∈ xs, _ := fun c hc => List.all_eq_true.mp (He.ba (He.ba (q c hc)).2).2
  refine ⟨fun c hc => xfB_ok (He.ba (q1 c hc)).1, fun c hc f hf => of_decide_eq_true (List.all_eq_true.mp (He.ba (He.ba (q1 c hc)).2).1 f hf), fun c hc => ?_, fun c hc d hd => of_decide_eq_true (q2 c hc d hd).1, fun c hc d hd => of_decide_eq_true (q2 c hc d hd).2, fun c hc T hT => of_decide_eq_true (q3 c hc T hT)⟩
  obtain ⟨a1, z⟩ := He.ba (q1 c hc)
  obtain ⟨a2, z⟩ := He.ba z
  obtain ⟨a3, z⟩ := He.ba z
  obtain ⟨a4, z⟩ := He.ba z
  obtain ⟨a5, a6⟩ := He.ba z
  have F := xfB_ok a1
  exact ⟨F.ga, F.gg, F.exC, F.hdC, of_decide_eq_true a3, of_decide_eq_true a4, of_decide_eq_true a5, of_decide_eq_true a6⟩
/-! ### tables of the top: texts to rows of texts -/
def strsOf : List Value → Option (List Str)
  | [] => some []
  | .str x _ :: r => (strsOf r).map (x :: ·)
  | _ => none
theorem strsOf_ok : ∀ {vs : List Value} {l : List Str}, strsOf vs = some l → Vals (l.map V.str) vs
  | [], _, h => by cases h; exact .nil
  | v :: r, l, h => by
    cases v with
    | str x t =>
      rw [strsOf] at h
      obtain ⟨k, hk, rfl⟩ := Option.map_eq_some_iff.mp h
      exact .cons ⟨t, rfl⟩ (strsOf_ok hk)
    | _ => cases h
def rowOf (K : PySem.W.Frag) (e : DictEntry) : Option (List Str) := match e.val with
  | .ref b => (match K.lookup b with
    | some ⟨.type "tuple", none, .seq vs _, _⟩ => if vs.size ≤ 1000 then strsOf vs.toList else none
    | _ => none)
  | _ => none
/-- a table: its name, its rows -/
abbrev TbD : Type := Str × List (Str × List Str)
def tbB (K : PySem.W.Frag) (t : TbD) : Bool := match K.lookup (He.ga K t.1) with
  | some ⟨_, _, .dict es _, _⟩ => decide (es.toList.map (rowOf K) = t.2.map fun r => some r.2)
  | _ => false
/-! ### the hook -/
structure Hd where
  n : Nat
  fa : List He.Fa
  fn : List He.DefD
  xs : List Str
  xi : List (Str × Str)
  file : Str
  ts : List TbD
def asF (g : Addr → Option Obj) : Nat → List Addr
  | 0 => [mainGlobals, cStatics]
  | n + 1 => He.growD g (asF g n)
def Hd.more (h : Hd) (K : PySem.W.Frag) : Bool := xcAll K h.xs && (h.xi.all (fun q => exiB K h.file q.1 q.2) && h.ts.all (tbB K))
abbrev KsF : Type := List (Option (List (Option (Str × Int))))
abbrev AlF : Type := (He.AlD × Bool) × KsF
def Hd.keys (h : Hd) (K : PySem.W.Frag) : KsF := h.ts.map fun t => He.dicW K (He.ga K t.1)
def Hd.due (h : Hd) (w : World) : KsF := h.ts.map fun t => some (He.keysIn w.params (t.2.map (·.1)))
def Hd.obs (h : Hd) (g : Addr → Option Obj) : AlF := ((He.obsD h.fa h.fn (He.frG g (asF g h.n)), h.more (He.frG g (asF g h.n))), h.keys (He.frG g (asF g h.n)))
def Hd.says (h : Hd) (w : World) (K : PySem.W.Frag) : Prop := (He.SaysD h.fa h.fn K ∧ h.more K = true) ∧ h.keys K = h.due w
def Hd.hook (h : Hd) : PySem.W.Hook where
  α := AlF
  obs := fun s => h.obs s.heap.get?
  val := fun w => ((He.valD h.fn, true), h.due w)
  says := fun w hp => ∃ K : PySem.W.Frag, K.In hp ∧ h.says w K
  of := fun _ s e => ⟨He.frG s.heap.get? (asF s.heap.get? h.n), He.frG_in, ⟨congrArg (fun z : AlF => z.1.1) e, congrArg (fun z : AlF => z.1.2) e⟩, congrArg (fun z : AlF => z.2) e⟩
  keeps := fun _ _ _ ⟨K, inn, c⟩ k => ⟨K, PySem.W.Frag.In.keeps inn k, c⟩
theorem Hd.obs_eq (h : Hd) (s : PySem.W.SharedT) : h.obs (HandSHeadRun.getT s) = h.hook.obs s.abs := by
  have e : HandSHeadRun.getT s = s.abs.heap.get? := funext (HandSHeadRun.getT_eq s)
  rw [e] <;> rfl
end Fg
/-! Fg15: the forms with one Boolean side condition each, for printed proofs. -/
namespace Fg
open PySem PySem.Spec L2
open PyProof.Rows hiding St
def visB (sc : Scope) (x : Str) : Bool := match sc.names.lookup x with
  | some .local => true
  | some .cell => true
  | some .free => true
  | _ => false
theorem vis_ok {sc : Scope} {x : Str} (h : visB sc x = true) : Vis sc x := by
  unfold visB at h
  split at h
  · exact .inl (by assumption)
  · exact .inr (.inl (by assumption))
  · exact .inr (.inr (by assumption))
  · cases h
def dbg (x : Str) : Bool := !(x == ("__debug__" : Str))
theorem dbg_ok {x : Str} (h : dbg x = true) : (x == ("__debug__" : Str)) = false := nb h
def vB (n : Nm) (i : Nat) (x : Str) : Bool := decide (n.N[i]? = some x) && (visB n.sc x && (dbg x && !(x == ("__classdict__" : Str))))
def gB (n : Nm) (x : Str) : Bool := decide (n.sc.names.lookup x = some .globalImplicit) && dbg x
def stoB (n : Nm) (i : Nat) (x : Str) : Bool := decide (n.N[i]? = some x) && (match n.sc.names.lookup x with
  | some .local => true
  | some .cell => n.F x
  | _ => false)
theorem sto_ok {n : Nm} {i : Nat} {x : Str} (h : stoB n i x = true) : n.N[i]? = some x ∧ Sto n x := by
  obtain ⟨h1, h2⟩ := He.ba h
  refine ⟨of_decide_eq_true h1, ?_⟩
  split at h2
  · exact .inl (by assumption)
  · exact .inr ⟨by assumption, h2⟩
  · cases h2
/-- what the head tells of the module -/
structure Fct (h : Hd) (U : Ud) : Prop where
  K : U.K.In U.base
  G : U.base.Ns mainGlobals U.mg
  says : h.says U.w U.K
  file : U.P.main.file = h.file
  top : (U.P.main.scope.names.lookup ("super" : Str)).isSome = false
section
variable {hd : Hd} {U : Ud}
theorem Fct.glo (F : Fct hd U) (i : Nat) {x : Str} (h : hd.fa[i]? = some (.glo x)) : U.mg x = some (.ref (He.ga U.K x)) := He.glo_ok F.K F.G (F.says.1.1.fact i h)
theorem Fct.free (F : Fct hd U) (i : Nat) {x : Str} (h : hd.fa[i]? = some (.free x)) : U.mg x = none := He.free_ok F.K F.G (F.says.1.1.fact i h)
theorem Fct.int (F : Fct hd U) (i : Nat) {x : Str} {j : Int} (h : hd.fa[i]? = some (.int x j)) : GC U x (.int j) := by
  obtain ⟨t, e⟩ := He.int_ok F.K F.G (F.says.1.1.fact i h)
  exact ⟨_, .int j, e, ⟨t, rfl⟩, fun _ => .int j⟩
theorem Fct.str (F : Fct hd U) (i : Nat) {x z : Str} (h : hd.fa[i]? = some (.str x z)) : GC U x (.str z) := by
  obtain ⟨t, e⟩ := He.str_ok F.K F.G (F.says.1.1.fact i h)
  exact ⟨_, .str z, e, ⟨t, rfl⟩, fun _ => .str z⟩
theorem Fct.xc (F : Fct hd U) : XcK U.K hd.xs := xc_ok (He.ba F.says.1.2).1
theorem Fct.exi (F : Fct hd U) {c f : Str} (i : Nat) (h : hd.xi[i]? = some (c, f)) (hs : U.mg "super" = none) : ∃ W : InitW, W.f = f ∧ ExI U.P U.K U.mg (He.ga U.K c) W := by
  have q := List.all_eq_true.mp (He.ba (He.ba F.says.1.2).2).1 (c, f) (List.mem_of_getElem? h)
  rw [← F.file] at q
  exact exi_ok q hs F.top
/-- a global def keeps what its body does -/
theorem Fct.fn (F : Fct hd U) {k : Nat} {N ps : List Str} {w : WS} (i j : Nat) {d : He.DefD} {x : Str} (h : hd.fn[i]? = some d) (ha : d.at_ = (x, none)) (hf : d.dfl = [] ∧ d.kwd = []) (hg : hd.fa[j]? = some (.glo x)) (S : FnScope N ps d.scope)
    (hb : ∀ (kV doc pm : Value) (an : Option Addr) (cdv ct : Value) (us : List Value), us.length = ps.length → bindArgs (PySem.W.fnOf d.name d.qual d.params d.body d.scope .none kV doc pm an cdv ct) ⟨us, []⟩ = pure (ps.zip us))
    (hk : JSs U k ⟨N, d.scope, fun _ => true, false, none, true⟩ d.body w) : FnHas U.P U.w U.K U.mg U.base (k + 1) x (spW N ps.length w) := by
  obtain ⟨fd, D⟩ := F.says.1.1.def_ i h
  have e1 : d.dvs U.K = [] := by unfold He.DefD.dvs; rw [hf.1]; rfl
  have e2 : d.kws U.K = [] := by unfold He.DefD.kws; rw [hf.2]; rfl
  rw [e1, e2, ha] at D
  exact ⟨_, F.glo j hg, fn_at D S hb hk⟩
/-- .. that never is called -/
theorem Fct.fn0 (F : Fct hd U) {k : Nat} {ps : List Str} (i j : Nat) {d : He.DefD} {x : Str} (h : hd.fn[i]? = some d) (ha : d.at_ = (x, none)) (hf : d.dfl = [] ∧ d.kwd = []) (hg : hd.fa[j]? = some (.glo x))
    (hb : ∀ (kV doc pm : Value) (an : Option Addr) (cdv ct : Value) (us : List Value), us.length = ps.length → bindArgs (PySem.W.fnOf d.name d.qual d.params d.body d.scope .none kV doc pm an cdv ct) ⟨us, []⟩ = pure (ps.zip us)) :
    FnHas U.P U.w U.K U.mg U.base k x (fun _ _ _ _ => False) := by
  obtain ⟨fd, D⟩ := F.says.1.1.def_ i h
  have e1 : d.dvs U.K = [] := by unfold He.DefD.dvs; rw [hf.1]; rfl
  have e2 : d.kws U.K = [] := by unfold He.DefD.kws; rw [hf.2]; rfl
  rw [e1, e2, ha] at D
  refine ⟨_, F.glo j hg, fd, ps, ⟨fun vs H Q E z => ?_, fun A outer s H args us vs Q E _ _ _ _ z => ?_⟩, D.kp, D.bindsN hb⟩
  · obtain ⟨_, _, _, _, _, _, z, _⟩ := z
    exact z.elim
  · obtain ⟨_, _, _, _, _, _, z, _⟩ := z
    exact z.elim
end
section
variable {U : Ud} {k : Nat} {n : Nm} {e a b c tg iter elt : Expr} {es : List Expr} {pos pos' p apos : Pos} {x m : Str} {wa wb wc w : WE} {ws : WA} {g : WG} {wi : WI} {t u : WS} {sts body : List Stmt}
theorem m_var (i : Nat) (h : vB n i x = true) : JE U k n (.Name x pos) (wVar i) := by
  obtain ⟨h1, h⟩ := He.ba h
  obtain ⟨h2, h⟩ := He.ba h
  obtain ⟨h3, h4⟩ := He.ba h
  exact n_var i (of_decide_eq_true h1) (vis_ok h2) (dbg_ok h3) (nb h4)
theorem m_gc {d : D} (f : GC U x d) (h : gB n x = true) : JE U k n (.Name x pos) (wCst d) := n_gc f (of_decide_eq_true (He.ba h).1) (dbg_ok (He.ba h).2)
def tyB (n : Nm) (x : Str) (T : String) : Bool := gB n x && (decide (bootBuiltins x = some (.type T)) && decide (x ≠ "__name__"))
theorem m_ty (T : String) (f : U.mg x = none) (h : tyB n x T = true) : JE U k n (.Name x pos) (wCst (.ty T)) := by
  obtain ⟨h1, h⟩ := He.ba h
  obtain ⟨h2, h3⟩ := He.ba h
  exact n_ty (of_decide_eq_true (He.ba h1).1) f (of_decide_eq_true h2) (of_decide_eq_true h3) (dbg_ok (He.ba h1).2)
def caB (n : Nm) (x : Str) (es : List Expr) : Bool := gB n x && (es.all noStar && !n.hot)
theorem m_call {sp : SpD} {j : Nat} (f : FnHas U.P U.w U.K U.mg U.base j x sp) (hj : j ≤ k) (h : caB n x (e :: es) = true) (ha : JA U k n (e :: es) ws) : JE U k n (.Call (.Name x p) (e :: es) [] pos) (wCall sp ws) := by
  obtain ⟨h1, h⟩ := He.ba h
  obtain ⟨h2, h3⟩ := He.ba h
  exact n_call f (nb h3) hj (of_decide_eq_true (He.ba h1).1) (dbg_ok (He.ba h1).2) ha h2
theorem m_call0 {sp : SpD} {j : Nat} (f : FnHas U.P U.w U.K U.mg U.base j x sp) (hj : j ≤ k) (h : caB n x [] = true) : JE U k n (.Call (.Name x p) [] [] pos) (wCall sp wNil) := by
  obtain ⟨h1, h⟩ := He.ba h
  exact n_call0 f (nb (He.ba h).2) hj (of_decide_eq_true (He.ba h1).1) (dbg_ok (He.ba h1).2)
def bfB (n : Nm) (x : Str) (v : Value) (es : List Expr) : Bool := gB n x && (decide (bootBuiltins x = some v) && (decide (x ≠ "__name__") && es.all noStar))
theorem m_blt {id : String} {o : CD} (hc : ∀ X W, Gd U k n X W → CallR X (.builtin id) (upC X o)) (f : U.mg x = none) (h : bfB n x (.builtin id) (e :: es) = true) (ha : JA U k n (e :: es) ws) : JE U k n (.Call (.Name x p) (e :: es) [] pos) (wCl o ws) := by
  obtain ⟨h1, h⟩ := He.ba h
  obtain ⟨h2, h⟩ := He.ba h
  obtain ⟨h3, h4⟩ := He.ba h
  exact n_blt hc (of_decide_eq_true (He.ba h1).1) f (of_decide_eq_true h2) (of_decide_eq_true h3) (dbg_ok (He.ba h1).2) ha h4
theorem m_bty {T : String} {o : CD} (hc : ∀ X W, Gd U k n X W → CallR X (.type T) (upC X o)) (f : U.mg x = none) (h : bfB n x (.type T) (e :: es) = true) (ha : JA U k n (e :: es) ws) : JE U k n (.Call (.Name x p) (e :: es) [] pos) (wCl o ws) := by
  obtain ⟨h1, h⟩ := He.ba h
  obtain ⟨h2, h⟩ := He.ba h
  obtain ⟨h3, h4⟩ := He.ba h
  exact n_bty hc (of_decide_eq_true (He.ba h1).1) f (of_decide_eq_true h2) (of_decide_eq_true h3) (dbg_ok (He.ba h1).2) ha h4
theorem f_abs : ∀ X W, Gd U k n X W → CallR X (.builtin "abs") (upC X cAbs) := fun _ _ _ => cr_cAbs
theorem f_len : ∀ X W, Gd U k n X W → CallR X (.builtin "len") (upC X cLen) := fun _ _ _ => cr_cLen
theorem f_isi : ∀ X W, Gd U k n X W → CallR X (.builtin "isinstance") (upC X cIsi) := fun _ _ _ => cr_cIsi
theorem f_int : ∀ X W, Gd U k n X W → CallR X (.type "int") (upC X cInt) := fun _ _ _ => cr_cInt
theorem f_str : ∀ X W, Gd U k n X W → CallR X (.type "str") (upC X cStr) := fun _ _ _ => cr_cStr
theorem f_list : ∀ X W, Gd U k n X W → CallR X (.type "list") (upC X cList) := fun _ _ _ => cr_cList
theorem f_tuple : ∀ X W, Gd U k n X W → CallR X (.type "tuple") (upC X cTuple) := fun _ _ _ => cr_cTuple
theorem f_max (h : n.hot = false) : ∀ X W, Gd U k n X W → CallR X (.builtin "max") (upC X cMax) := fun _ _ g => cr_cMax (g.calm h)
theorem f_min (h : n.hot = false) : ∀ X W, Gd U k n X W → CallR X (.builtin "min") (upC X cMin) := fun _ _ g => cr_cMin (g.calm h)
theorem f_all (h : n.hot = false) : ∀ X W, Gd U k n X W → CallR X (.builtin "all") (upC X cAll) := fun _ _ g => cr_cAll (g.calm h)
theorem f_any (h : n.hot = false) : ∀ X W, Gd U k n X W → CallR X (.builtin "any") (upC X cAny) := fun _ _ g => cr_cAny (g.calm h)
theorem f_sum (h : n.hot = false) : ∀ X W, Gd U k n X W → CallR X (.builtin "sum") (upC X cSum) := fun _ _ g => cr_cSum (g.calm h)
theorem m_acons (ha : JE U k n e wa) (hr : JA U k n es ws) (h : noStar e = true) : JA U k n (e :: es) (wCons wa ws) := a_cons ha hr h
theorem m_rng1 (f : U.mg "range" = none) (h : caB n "range" [a] = true) (ha : JA U k n [a] ws) : JI U k n tg (.Call (.Name "range" p) [a] [] pos) (wRng1 ws) := by
  obtain ⟨h1, h⟩ := He.ba h
  obtain ⟨h2, h3⟩ := He.ba h
  rw [List.all_cons, Bool.and_eq_true] at h2
  exact i_rng1 (of_decide_eq_true (He.ba h1).1) f ha h2.1
theorem m_rng2 (f : U.mg "range" = none) (h : caB n "range" [a, b] = true) (ha : JA U k n [a, b] ws) : JI U k n tg (.Call (.Name "range" p) [a, b] [] pos) (wRng2 ws) := by
  obtain ⟨h1, h⟩ := He.ba h
  obtain ⟨h2, h3⟩ := He.ba h
  rw [List.all_cons, List.all_cons, Bool.and_eq_true, Bool.and_eq_true] at h2
  exact i_rng2 (of_decide_eq_true (He.ba h1).1) f ha h2.1 h2.2.1
theorem m_set (i : Nat) (h : (stoB n i x && !isComp e) = true) (he : JE U k n e w) : JS U k n (.Assign [.Name x pos'] e pos) (wAsg w (gNm i)) := by
  obtain ⟨h1, h2⟩ := He.ba h
  exact s_set (sto_ok h1).1 (sto_ok h1).2 he (nb h2)
theorem m_gnm (i : Nat) {R : SR} (h : stoB n i x = true) (hR : ∀ σ v, R σ (σ.set i v)) : JG U k n R (.Name x pos) (gNm i) := g_nm (sto_ok h).1 (sto_ok h).2 hR
theorem m_for (h : (!n.hot && !isSet iter) = true) (hi : JI U k n tg iter wi) (hg : JG U k n anyR tg g) (hb : JSs U k n body t) : JS U k n (.For tg iter body [] pos) (wFor wi g t) := s_for (nb (He.ba h).1) hi hg hb (nb (He.ba h).2)
section
variable {scope : Scope} {own : List (Str × Nat)} {tt : WB}
theorem m_lc (own : List (Str × Nat)) (h : (!n.hot && (blkC n.N n.sc scope own && !isSet iter)) = true) (hi : JI U k n tg iter wi) (hg : JG U k (n.blk scope) (ownR (own.map (·.2))) tg g) (ht : JTs U k (n.blk scope) es tt) (he : JE U k (n.blk scope) elt w) :
    JE U k n (.ListComp elt [⟨tg, iter, es, 0⟩] scope pos) (wLc wi (own.map (·.2)) g tt w) := n_lc (nb (He.ba h).1) (He.ba (He.ba h).2).1 hi hg ht he (nb (He.ba (He.ba h).2).2)
/-- whether name = [..] is stored ahead of the block's end or behind it, the same -/
theorem m_slc (own : List (Str × Nat)) (i : Nat) {py spos : Pos} (h : ((!n.hot && (blkC n.N n.sc scope own && !isSet iter)) && stoB n i x) = true) (hi : JI U k n tg iter wi) (hg : JG U k (n.blk scope) (ownR (own.map (·.2))) tg g)
    (ht : JTs U k (n.blk scope) es tt) (he : JE U k (n.blk scope) elt w) : JS U k n (.Assign [.Name x py] (.ListComp elt [⟨tg, iter, es, 0⟩] scope pos) spos) (wAsg (wLc wi (own.map (·.2)) g tt w) (gNm i)) := by
  obtain ⟨h, h3⟩ := He.ba h
  obtain ⟨s1, s2⟩ := sto_ok h3
  cases q : swB n.sc scope x py pos with
  | false => exact s_lc' s1 s2 q (m_lc own h hi hg ht he)
  | true =>
    have hl : n.sc.names.lookup x = some .local := by
      unfold swB at q
      simp only [Bool.and_eq_true, beq_iff_eq] at q
      exact q.1.1.2
    exact s_lc (nb (He.ba h).1) s1 hl q (He.ba (He.ba h).2).1 hi hg ht he (nb (He.ba (He.ba h).2).2)
end
end
end Fg
/-! Fg16: a list comprehension within an except suite; isinstance of the caught error. -/
namespace Fg
open PySem PySem.Spec L2
open PyProof.Rows hiding St
open L2H (HotC Hot1 PIH TurnH)
abbrev blkP (X : Cx) (s : Shared) (H : Hp) (scope : Scope) (cenv : PySem.Env) (fp : List Addr) (p : Addr × Obj) : Cx := { X.blk s H scope cenv fp with pn := [p] }
abbrev Loc3 := List (Str × Addr)
section
variable {X : Cx} {pins : List (Addr × Obj)} {σ : St} {H : Hp} {s : Shared} {p : Addr × Obj} {scope : Scope} {own : List (Str × Nat)} {fp : List Addr}
abbrev cloC (X : Cx) (s : Shared) (scope : Scope) : Loc3 := cellsFrom (s.heap.objs.size + 1) scope.names (cloFrom X.env.cells scope.names [])
abbrev envC (X : Cx) (s : Shared) (scope : Scope) : PySem.Env := compEnvC scope (cloC X s scope) s.heap.objs.size X.env
abbrev heapC (s : Shared) (scope : Scope) : Shared := { s with heap := pushCells (s.heap.push { cls := .type "dict", data := .dict #[] }) scope.names }
theorem heapC_keeps {b : Addr} {o : Obj} (e : s.heap.get? b = some o) : (heapC s scope).heap.get? b = some o := pushCells_keeps _ _ _ _ (Heap.get?_push_of_some _ e)
theorem blkP_start (I : Inv X pins σ H s) (hm : p ∈ X.pn) (ok : BlkOk X.N X.env.scope scope own) (hN : X.N.Nodup) (hfp : ∀ b ∈ fp, FpOk X pins H b ∧ b < s.heap.objs.size) :
    Inv (blkP X s H scope (envC X s scope) fp p) [] (wipe σ (own.map (·.2))) H (heapC s scope) := by
  have B := block_start I ok hN hfp
  obtain ⟨g1, g2, g3, g4, g5⟩ := I.pin p (List.mem_append_left _ hm)
  have k := B.ok
  refine ⟨⟨k.mod, k.kind, k.glob, k.blt, k.above, k.inj, k.has, k.cab, k.hd, k.frames, k.stk, k.exf, k.bs, k.bsz, k.noex, k.exfs, k.funs, k.frf⟩, B.os, B.bare, B.base, B.loc, B.cell, B.free, B.freeC, fun r hr => ?_, B.hok, B.len⟩
  have er : r = p := by simpa using hr
  subst er
  refine ⟨heapC_keeps g1, g2, Nat.ne_of_lt (Heap.lt_size g1), fun hf => ?_, g5⟩
  rcases I.ok.stk with e | ⟨e, f⟩
  · exact g4 (by show r.1 ∈ frs X.outer; rw [← e]; exact hf)
  · have hf : r.1 ∈ frs X.stack := hf
    rw [e] at hf
    unfold frs at hf
    rw [List.filterMap_cons, f] at hf
    rcases List.mem_cons.mp hf with z | z
    · exact g3 z
    · exact g4 z
variable {elt tg iter : Expr} {ifs : List Expr} {pos : Pos} {wi : TI} {g : TG} {tt : TT} {te : TE} {Q : VK}
theorem lc_hot (hp : Hot1 X.A p) (hm : p ∈ X.pn) (hN : X.N.Nodup) (I : Inv X pins σ H s) (hi : PIH X tg iter wi) (ok : BlkOk X.N X.env.scope scope own)
    (hg : ∀ (s : Shared) (H : Hp) (C : Addr) (cl : Loc3) (fp : List Addr), PG (blkP X s H scope (compEnvC scope cl C X.env) fp p) tg g) (ht : ∀ (s : Shared) (H : Hp) (C : Addr) (cl : Loc3) (fp : List Addr), PTs (blkP X s H scope (compEnvC scope cl C X.env) fp p) ifs tt)
    (he : ∀ (s : Shared) (H : Hp) (C : Addr) (cl : Loc3) (fp : List Addr), PE (blkP X s H scope (compEnvC scope cl C X.env) fp p) elt te) (hs : ∀ x, foldedSetIterable iter X.env x = pure x) (h : tLc wi g tt te (own.map (·.2)) σ H Q) :
    wpAny (model X.prog X.w) X.A (eval (.ListComp elt [⟨tg, iter, ifs, 0⟩] scope pos) X.env) (EP X pins σ Q) X.xe s := by
  have cellOf : ∀ y ∈ scope.names, y.2 = .free → ∃ c, X.env.cells.lookup y.1 = some c := fun y hy e => (ok.free y hy e).elim (fun k => I.ok.has _ (.inl k)) fun k => I.ok.has _ (.inr k)
  rw [eval_ListComp]
  refine wpAny_comprehension_free (use := none) rfl hs (closure_ok cellOf) ok.kind (fun y hy e => (ok.uniq y hy).trans (by rw [e])) (thn (hi.run pins s σ H _ I h) fun xv s1 hx => thn hx fun itv s2 h2 => ?_)
  obtain ⟨it, fp, tn, J, H2, rfl, I2, T, st2, f2, q⟩ := h2
  refine wpAny_newObj_type (newEnv_comp ?_) (Nat.zero_le sizeLine)
  have fresh : H2 s2.heap.objs.size = none := I2.hok.fresh (Nat.le_refl _)
  obtain ⟨Wm, ⟨m0, w0⟩, turn⟩ := q _ fresh
  generalize eD : s2.heap.objs.size = D at *
  generalize e3 : ({ s2 with heap := s2.heap.push { cls := .type "list", data := .seq ([] : List Value).toArray } } : Shared) = s3
  have p3 : s3.heap = s2.heap.push { cls := .type "list", data := .seq ([] : List Value).toArray } := by rw [← e3]
  have I3 : Inv X pins σ (upd H2 D (.lst [])) s3 := by
    subst e3 eD
    exact I2.laid (t' := s2.toks) (fun b o e => Heap.get?_push_of_some _ e) (Nat.le_refl _) ⟨Nat.zero_le _, [], 0, .nil, Heap.get?_push_size _ rfl⟩
  have fr3 : ∀ b ∈ fp, FpOk X pins (upd H2 D (.lst [])) b ∧ b < s3.heap.objs.size := fun b hb => by
    obtain ⟨o, e, _⟩ := T.obj _ _ st2 b hb
    have hl := Heap.lt_size e
    have z := f2 b hb
    exact ⟨⟨by rw [upd_ne (by rw [← eD]; exact Nat.ne_of_lt hl)]; exact z.1, z.2⟩, by rw [p3, Heap.size_push]; exact Nat.lt_succ_of_lt hl⟩
  generalize eH : upd H2 D (.lst []) = H3 at *
  have I4 := blkP_start I3 hm ok hN fr3
  have Lg := hg s3 H3 s3.heap.objs.size (cloC X s3 scope) fp
  have Lt := ht s3 H3 s3.heap.objs.size (cloC X s3 scope) fp
  have Le := he s3 H3 s3.heap.objs.size (cloC X s3 scope) fp
  have st4 : tn 0 (heapC s3 scope).heap := T.keep _ _ _ st2 fun b _ o e => heapC_keeps (by rw [p3]; exact Heap.get?_push_of_some _ e)
  have hotY : HotC (blkP X s3 H3 scope (envC X s3 scope) fp p) := ⟨p, hp, List.mem_singleton.mpr rfl⟩
  have hpn : ∀ b ∈ fp, p.1 ≠ b := fun b hb => (fr3 b hb).1.2.2.2.2.2 p (List.mem_append_left _ hm)
  have fpY : ∀ {σ' : St} {H' : Hp} {s' : Shared}, Inv (blkP X s3 H3 scope (envC X s3 scope) fp p) [] σ' H' s' → (∀ b ∈ fp, H' b = none) → ∀ b ∈ fp, FpOk (blkP X s3 H3 scope (envC X s3 scope) fp p) [] H' b := fun {σ' H' s'} K n b hb =>
    ⟨n b hb, (K.ok.exf b hb).1, K.ok.exfs b hb, .inl hb, fun x c e => (K.ok.exf b hb).2 x c e, fun r hr => by
      have er : r = p := by simpa using hr
      rw [er]; exact hpn b hb⟩
  show codeAny _ _ (.compStart _ 0 (.ref it) (.ref D) (envC X s3 scope)) (compPost _ _ _ none _ (.ref D) s3.heap.objs.size) (heapC s3 scope)
  have loop : codeAny (model X.prog X.w) X.A (.compLoop (.ListComp elt [⟨tg, iter, ifs, 0⟩] scope pos) 0 (.ref it) (.ref D) (envC X s3 scope)) (compPost (model X.prog X.w) X.A X.xe none (EP X pins σ Q) (.ref D) s3.heap.objs.size) (heapC s3 scope) := by
    refine compLoop_any (fun m s' => ∃ i H', Inv (blkP X s3 H3 scope (envC X s3 scope) fp p) [] (wipe σ (own.map (·.2))) H' s' ∧ tn i s'.heap ∧ (∀ b ∈ fp, H' b = none) ∧ Wm i m H') ?_ m0 ⟨0, H3, I4, st4, fun b hb => (fr3 b hb).1.1, w0⟩
    rintro m s5 ⟨i, H5, I5, st5, n5, w5⟩
    rcases turn i m H5 w5 with ⟨stop, qq⟩ | ⟨go, Nx, hNx, step⟩
    · refine thnF (T.done (blkP X s3 H3 scope (envC X s3 scope) fp p) rfl rfl rfl hotY i [] s5 _ H5 (fun _ _ => False) I5 (fpY I5 n5) st5 stop) fun r s6 ⟨hr, I6⟩ => ?_
      subst hr
      have I7 : Inv X pins σ H5 s6 := I3.call' (ch := fp) I6.os I6.base I6.hok I6.bare fun b hb => let z := (fr3 b hb).1.2; ⟨z.2.2.1, z.1, z.2.2.2.1, z.2.2.2.2⟩
      have nC : H5 s3.heap.objs.size = none := I6.free
      obtain ⟨mm, hn, _⟩ := I6.loc
      obtain ⟨a0, a1, a2, a3, a4, a5⟩ := I3.fpOk (Nat.le_refl _) nC
      exact ⟨mm, hn, fun h'' sb => ⟨.ref D, H5, I7.turned (t' := s6.toks) (fun b o hb e => (sb.2 b hb).trans e) a0 a1 a3 a4 a5, rfl, qq⟩⟩
    · refine thnF (T.item (blkP X s3 H3 scope (envC X s3 scope) fp p) rfl rfl rfl hotY i [] s5 _ H5 (fun _ _ => False) I5 (fpY I5 n5) st5 go) fun r s6 ⟨u, hr, h6⟩ => ?_
      subst hr
      refine thnF h6 fun _ s7 ⟨x, H7, I7, r7, yl7, st7, n7⟩ => ?_
      have I7' := I7.pinned (fpY I7 n7) (T.obj _ _ st7)
      refine thnF (Lg.run _ s7 _ H7 x u _ I7' r7 (step x H7 yl7)) fun _ s8 ⟨σ8, H8, I8, hw8, q8⟩ => ?_
      have close : ∀ {s' : Shared} {H' : Hp}, Inv (blkP X s3 H3 scope (envC X s3 scope) fp p) ([] ++ pinsAt fp s7.heap) σ8 H' s' → Nx H' → ∃ m', m' < m ∧ ∃ i H', Inv (blkP X s3 H3 scope (envC X s3 scope) fp p) [] (wipe σ (own.map (·.2))) H' s' ∧ tn i s'.heap ∧ (∀ b ∈ fp, H' b = none) ∧ Wm i m' H' := fun {s' H'} K nx => by
        obtain ⟨m', lt, w'⟩ := hNx H' nx
        have kp : ∀ b ∈ fp, ∀ o, s7.heap.get? b = some o → s'.heap.get? b = some o ∧ H' b = none := fun b hb o e =>
          let z := K.pin (b, o) (List.mem_append_right _ (List.mem_append_right _ (mem_pinsAt hb e))); ⟨z.1, z.2.1⟩
        refine ⟨m', lt, i + 1, H', (K.unpinned (pins := [])).weak (by rw [← hw8, wipe_length]) (fun j v e => ?_), T.keep _ _ _ st7 fun b hb o e => (kp b hb o e).1, fun b hb => ?_, w'⟩
        · rw [← hw8] at e; exact (wipe_some e).1
        · obtain ⟨o, e, _⟩ := T.obj _ _ st7 b hb
          exact (kp b hb o e).2
      refine thnF (Lt.run _ s8 σ8 H8 _ I8 q8) fun b s9 ⟨H9, I9, q9⟩ => ?_
      cases b with
      | false => exact close I9 q9
      | true => exact thnF (Le.run _ s9 σ8 H9 _ I9 q9) fun z s10 ⟨yv, H10, I10, r10, acc, hD, hz, nx⟩ => app_ok (X := blkP X s3 H3 scope (envC X s3 scope) fp p) I10 hD hz r10 fun s11 I11 => close I11 nx
  refine codeAny_compStart_list loop ?_
  exact T.self X.A 0 _ _ _ st4 loop
end
theorem PIH_imp {X : Cx} {tg e : Expr} {t t' : TI} (h : PIH X tg e t) (q : ∀ σ H R, t' σ H R → t σ H R) : PIH X tg e t' := ⟨fun pins s σ H R I z => h.run pins s σ H R I (q σ H R z)⟩
def JIH (U : Ud) (k : Nat) (n : Nm) (tg e : Expr) (w : WI) : Prop := ∀ X W, Gd U k n X W → PIH X tg e (upI X W w)
/-- a block within a suite -/
def Nm.blkH (n : Nm) (scope : Scope) : Nm := ⟨n.N, relS scope n.sc, fun x => scope.names.lookup x == some .cell, true, none, false⟩
section
variable {U : Ud} {k : Nat} {n : Nm} {a elt tg iter : Expr} {es : List Expr} {pos p : Pos} {ws : WA} {wi : WI} {g : WG} {tt : WB} {w : WE} {scope : Scope} {own : List (Str × Nat)}
theorem Gd.blkH {X : Cx} {W : WX} (g : Gd U k n X W) (hh : n.hot = true) {p : Addr × Obj} (hp : Hot1 X.A p) (s : Shared) (H : Hp) (scope : Scope) (C : Addr) (cl : Loc3) (fp : List Addr) : Gd U k (n.blkH scope) (blkP X s H scope (compEnvC scope cl C X.env) fp p) W0 := by
  have e : (compEnvC scope cl C X.env).scope = relS scope X.env.scope := rfl
  exact ⟨g.eP, g.eW, g.eK, g.eM, g.eB, g.eN, by rw [e, g.eS]; rfl, g.nd, fun h => (nomatch h), fun h => (nomatch h), g.hu, takes0N, fun h => (nomatch h), fun _ _ _ h => (nomatch h), fun _ => ⟨⟨p, hp, List.mem_singleton.mpr rfl⟩, (g.hotc hh).2⟩, fun h => (nomatch h), fun _ h => h⟩
theorem h_rng1 (f : U.mg "range" = none) (hg : gB n "range" = true) (hs : noStar a = true) (ha : JA U k n [a] ws) : JIH U k n tg (.Call (.Name "range" p) [a] [] pos) (wRng1 ws) := fun X W g =>
  PIH_imp (L2H.pi_range1H (g.gl (of_decide_eq_true (He.ba hg).1)) (g.mgN f) (ha X W g) (star_cons hs)) rng1_up
theorem n_lcH (hh : n.hot = true) (ok : blkC n.N n.sc scope own = true) (hi : JIH U k n tg iter wi) (hg : JG U k (n.blkH scope) (ownR (own.map (·.2))) tg g) (ht : JTs U k (n.blkH scope) es tt) (he : JE U k (n.blkH scope) elt w) (hs : isSet iter = false) :
    JE U k n (.ListComp elt [⟨tg, iter, es, 0⟩] scope pos) (wLc wi (own.map (·.2)) g tt w) := fun X W g' => by
  obtain ⟨⟨p, hp, hm⟩, _⟩ := g'.hotc hh
  have hb : BlkOk X.N X.env.scope scope own := by have := blkOk_by ok; rw [← g'.eN, ← g'.eS] at this; exact this
  refine ⟨fun pins s σ H Q I z => ?_⟩
  exact lc_hot (g := upGR X W0 (ownR (own.map fun (p : Str × Nat) => p.2)) g) (tt := upB X W0 tt) (te := upE X W0 w) hp hm g'.nm I (hi X W g') hb (fun s H C cl fp => hg _ _ (g'.blkH hh hp s H scope C cl fp)) (fun s H C cl fp => ht _ _ (g'.blkH hh hp s H scope C cl fp)) (fun s H C cl fp => he _ _ (g'.blkH hh hp s H scope C cl fp)) (fold_no hs) (tLc_of z)
end
end Fg
/-! Fg17: isinstance of the caught error. -/
namespace Fg
open PySem PySem.Spec L2
open PyProof.Rows hiding St
section
variable {prog : Program} {w : World} {A : Around} {E : Value → Shared → Prop} {s : Shared} {K : PySem.W.Frag} {x D : Addr} {ox : Obj} {od : Option Obj}
theorem err_find (F : ExcC K D) : PySem.W.findObj K D od "__class__" = some (.bind (.builtin "getset_descriptor.__get__") (.builtin "object.__class__")) := by
  obtain ⟨cd, hc, _⟩ := PySem.W.any_some F.hd
  have e : PySem.W.findObj K D od "__class__" = (PySem.W.clsIn K D).bind fun cd => _ := rfl
  rw [e, hc, Option.bind_some, F.ha, Option.bind_some]
  simp [F.hn, F.ht]
theorem err_class {Q : Option Value → Shared → Prop} (F : ExcC K D) (X : K.In s.heap) (I : PySem.W.InstAt s.heap x ox D od) (h : Q (some (.ref D)) { s with toks := s.toks + 1 }) : wpAny (model prog w) A (getAttr? (.ref x) "__class__") Q E s := by
  have fo := err_find (od := od) F
  obtain ⟨hp, g, d, t, os⟩ := s
  have ty := I.type (M := model prog w)
  have up : PySem.W.Looks (model prog w) hp (isInstance (.ref x) (.type "BaseException")) true := ty.andThen (PySem.W.looks_subIn X F.hs)
  have n0 : (Value.builtin "BaseException.__getattribute__" == Value.builtin "object.__getattribute__") = false := by decide +kernel
  have n1 : (onTheHeap (Value.ref D) && Value.builtin "BaseException.__getattribute__" == Value.builtin "object.__getattribute__") = false := by rw [n0]; rfl
  have n2 : (false && onTheHeap (Value.builtin "BaseException.__getattribute__")) = false := rfl
  have inner : ∀ {R : Result → Shared → Prop}, R (.ok (.ret (.ref D))) ⟨hp, g, d, t + 1, os⟩ → codeAny (model prog w) A (.call (.builtin "BaseException.__getattribute__") ⟨[.ref x, .str "__class__" t], []⟩) R ⟨hp, g, d, t + 1, os⟩ := fun {R} q => by
    refine codeAny_call_builtin PySem.F.excAttr_ValueError.ga.plain PySem.F.entry_bexc_ga (@PySem.W.check_slot (model prog w) _ _ ⟨hp, g, d, t + 1, os⟩ "BaseException.__getattribute__" "BaseException" "__getattribute__" (.ref x) [.str "__class__" t] [] _ (by decide +kernel) (by decide +kernel) up (PySem.F.args_bexc_ga (.ref x) (.str "__class__" t)) ?_)
    unfold Builtin.«object.__getattribute__»
    refine wpAny_bind (wpAny_of_eq (a := ((Value.ref x : Value), [Value.str "__class__" t])) (by first | rfl | (simp only [slotArgs]; rfl)) (wpAny_bind (wpAny_pure (wpAny_bind (ty.at (wpAny_bind ((PySem.W.looks_find X I fo).at ?_)))))))
    show wpAny (model prog w) _ (holding [Value.builtin "object.__class__"] (call (.builtin "getset_descriptor.__get__") [.builtin "object.__class__", .ref x, .ref D]) >>= ret) _ _ _
    exact wpAny_bind (wpAny_holding (wpAny_call (PySem.W.class_get (s := ⟨hp, g, d, t + 1, os⟩) (ox := ox) (od := od) X I F.hm (wpAny_pure q))))
  unfold getAttr? getAttrBy? getAttrBy
  refine wpAny_bind (wpAny_mkText (wpAny_bind (wpAny_attempt (wpAny_holding (wpAny_bind (ty.at (wpAny_bind ((PySem.W.looks_findIn X F.hg).at ?_))))))))
  show wpAny (model prog w) _ (if (onTheHeap (Value.ref D) && Value.builtin "BaseException.__getattribute__" == Value.builtin "object.__getattribute__") = true then _ else _) _ _ _
  rw [n1, if_neg Bool.false_ne_true]
  unfold getAttrByItsOwn hookBefore
  refine wpAny_bind ?_
  rw [if_pos (show onTheHeap (Value.ref D) = true from rfl)]
  refine (PySem.W.looks_findIn X F.hk).at (wpAny_bind (wpAny_attempt (wpAny_holding ?_)))
  unfold callGetattribute boundAndCalled
  rw [n2, if_neg Bool.false_ne_true, PySem.F.excAttr_ValueError.ga.bind (.ref x)]
  refine wpAny_bind (wpAny_pure ?_)
  show wpAny (model prog w) _ (call (.builtin "BaseException.__getattribute__") [.ref x, .str "__class__" t]) _ _ _
  refine wpAny_call (inner ?_)
  show wpAny _ _ (handedOut (.ref D)) _ _ _
  rw [PySem.W.handedOut_of (v := .ref D) rfl]
  first
    | exact wpAny_pure (wpAny_pure h)
    | exact wpAny_pure h
    | exact wpAny_pure (wpAny_bind (wpAny_pure (wpAny_pure h)))
theorem err_kit (F : ExcC K D) : PySem.W.KitX K (.ref x) (.ref D) (fun h => ∃ ox od, PySem.W.InstAt h x ox D od) := by
  have cl : ∀ {h : Heap}, K.In h → ∃ o cd, h.get? D = some o ∧ o.data = .cls cd := fun X => by
    obtain ⟨cd, hc, _⟩ := PySem.W.any_some F.hd
    unfold PySem.W.clsIn at hc
    split at hc
    · rename_i c' d' cd' sl' ho
      exact ⟨_, _, X _ _ ho, rfl⟩
    · cases hc
  refine ⟨fun M h _ ⟨_, _, I⟩ => I.type, fun M h X _ => ?_, fun h tp dd its n sl X htp => Bool.eq_false_iff.mpr fun q => ?_, fun X ⟨_, _, I⟩ k => err_class F X I k⟩
  · obtain ⟨o, cd, h1, h2⟩ := cl X
    intro A' Q' E' s' k q
    unfold isType loadHead
    exact wpAny_bind (wpAny_loadPart (k _ _ h1) (by rw [h2]; exact wpAny_pure q))
  · obtain ⟨o, cd, h1, h2⟩ := cl X
    have e : D = tp := Value.ref.inj (beq_iff_eq.mp q)
    rw [e, htp] at h1
    cases h1
    cases h2
end
/-- a class as the text names it -/
inductive Cn where
  | own (c : Str)
  | blt (T : String)
def aliens : List String := ["ValueError", "LookupError", "ArithmeticError"]
def Cn.v (K : PySem.W.Frag) : Cn → V
  | .own c => .ref (He.ga K c)
  | .blt T => .ty T
def Cn.u (K : PySem.W.Frag) : Cn → Value
  | .own c => .ref (He.ga K c)
  | .blt T => .type T
def Cn.ok (xs : List Str) : Cn → Bool
  | .own c => xs.contains c
  | .blt T => aliens.contains T
def Cn.b (c0 : Str) : Cn → Bool
  | .own d => xsb c0 d
  | .blt _ => false
section
variable {K : PySem.W.Frag} {xs : List Str} {c0 : Str}
theorem cn_rel {c : Cn} {u : Value} (h : RelV (c.v K) u) : u = c.u K := by cases c <;> exact h
theorem cn_one (T : XcK K xs) (h0 : c0 ∈ xs) {c : Cn} (h : c.ok xs = true) : PySem.W.kitOne K (.ref (He.ga K c0)) (c.u K) = some (c.b c0) := by
  cases c with
  | own d => exact T.kit _ h0 _ (by simpa [Cn.ok] using h)
  | blt t => exact T.alien _ h0 _ (by simpa [Cn.ok, aliens] using h)
theorem cn_any (T : XcK K xs) (h0 : c0 ∈ xs) : ∀ {cs : List Cn}, cs.all (Cn.ok xs) = true → PySem.W.kitAny K (.ref (He.ga K c0)) (cs.map (Cn.u K)) = some (cs.any (Cn.b c0))
  | [], _ => rfl
  | c :: cs, h => by
    rw [List.all_cons, Bool.and_eq_true] at h
    rw [List.map_cons]
    unfold PySem.W.kitAny
    rw [cn_one T h0 h.1, List.any_cons]
    cases c.b c0 with
    | true => rfl
    | false => exact cn_any T h0 h.2
theorem cn_vals : ∀ {cs : List Cn} {us : List Value}, Vals (cs.map (Cn.v K)) us → us = cs.map (Cn.u K)
  | [], _, .nil => rfl
  | c :: cs, _, .cons r t => by rw [cn_rel r, cn_vals t]; rfl
end
section
variable {U : Ud} {k : Nat} {n : Nm} {e : Expr} {es : List Expr} {pos p : Pos} {c : Str} {wa : WE}
/-- names of classes -/
inductive CnEs (U : Ud) (n : Nm) : List Expr → List Cn → Prop
  | nil : CnEs U n [] []
  | own {c : Str} {p : Pos} {es : List Expr} {cs : List Cn} (hm : GCl U c) (hg : gB n c = true) (r : CnEs U n es cs) : CnEs U n (.Name c p :: es) (.own c :: cs)
  | blt {c : Str} {T : String} {p : Pos} {es : List Expr} {cs : List Cn} (hm : U.mg c = none) (hg : tyB n c T = true) (r : CnEs U n es cs) : CnEs U n (.Name c p :: es) (.blt T :: cs)
def tVs (vs : List V) : TA := fun _ H Q => Q vs H
theorem cn_pa {X : Cx} {W : WX} (g : Gd U k n X W) {es : List Expr} {cs : List Cn} (h : CnEs U n es cs) : PA X es (tVs (cs.map (Cn.v X.K))) := by
  induction h with
  | nil => exact pa_nil
  | own hm hg r ih => exact pa_cons (pe_glob (v := .ref _) (g.gl (of_decide_eq_true (He.ba hg).1)) (by rw [g.eM, g.eK]; exact hm) rfl (dbg_ok (He.ba hg).2)) ih (star_cons rfl)
  | @blt c T p es cs hm hg r ih =>
    obtain ⟨h1, h2⟩ := He.ba hg
    obtain ⟨h3, h4⟩ := He.ba h2
    exact pa_cons (pe_bltn (v := .ty T) (g.gl (of_decide_eq_true (He.ba h1).1)) (g.mgN hm) (of_decide_eq_true h3) rfl (of_decide_eq_true h4) (dbg_ok (He.ba h1).2)) ih (star_cons rfl)
def wXIs (xs : List Str) (ad : Addr) (x : Xn) (dd : Addr) (cs : List Cn) (wa : WE) : WE := fun ρ M Q E => wa ρ M (fun o M1 => o = .ref ad ∧ x.c ∈ xs ∧ (∃ f v, M1 dd = some (.xd f v)) ∧ Q (.bl (cs.any (Cn.b x.c))) M1) E
def isB (n : Nm) (xs : List Str) (cs : List Cn) (e : Expr) : Bool := bfB n "isinstance" (.builtin "isinstance") [e] && cs.all (Cn.ok xs)
theorem err_inst {X : Cx} {pins : List (Addr × Obj)} {σ : St} {H : Hp} {s : Shared} {ad dd : Addr} {oe : Obj} {C : Addr} {vs : Array Value} {fs : List (Str × V)} (I : Inv X pins σ H s) (hz : L2N.Zn (.ref C) (some dd) oe) (hv : oe.data = .fields vs) (hp : (ad, oe) ∈ X.pn) (hx : H dd = some (.xd fs)) :
    ∃ od, PySem.W.InstAt s.heap ad oe C od := by
  obtain ⟨hget, _⟩ := I.pin (ad, oe) (List.mem_append_left _ hp)
  obtain ⟨mA, hns, hr⟩ : ObjOk X.prog X.w H s.heap dd (.xd fs) := I.hok dd _ hx
  obtain ⟨od, ho, hl⟩ := lookIn_ns hns
  exact ⟨some od, hget, hz.1, by unfold PySem.W.notCls; rw [hv] <;> rfl, by rw [hz.2.1]; exact ho⟩
/-- isinstance(e, C) -/
theorem n_xis1 {xs : List Str} {ad dd : Addr} {x : Xn} {e2 : Expr} {cn : Cn} (T : XcK U.K xs) (hx : n.ex = some (ad, x, dd)) (f : U.mg "isinstance" = none) (hb : isB n xs [cn] e = true) (hs2 : noStar e2 = true) (hc : CnEs U n [e2] [cn]) (ha : JE U k n e wa) :
    JE U k n (.Call (.Name "isinstance" p) [e, e2] [] pos) (wXIs xs ad x dd [cn] wa) := fun X W g => by
  obtain ⟨b1, b2⟩ := He.ba hb
  obtain ⟨h1, h⟩ := He.ba b1
  obtain ⟨h2, h⟩ := He.ba h
  obtain ⟨h3, h4⟩ := He.ba h
  rw [List.all_cons, Bool.and_eq_true] at h4 b2
  obtain ⟨oe, hz, ⟨vs, hv⟩, hp⟩ := g.xc ad x dd hx
  have T' : XcK X.K xs := by rw [g.eK]; exact T
  rw [← g.eK] at hz
  have cr : CallR X (.builtin "isinstance") fun vs H Q => vs = [.ref ad, cn.v X.K] ∧ x.c ∈ xs ∧ (∃ fs, H dd = some (.xd fs)) ∧ Q (.bl (cn.b x.c)) H := fun pins s σ H vs us Q I r ⟨e1, hm, ⟨fs, hx1⟩, q⟩ => by
    subst e1
    cases r with
    | cons r1 r2 => cases r2 with
      | cons r2 r3 =>
        cases r3
        obtain rfl := cn_rel r2
        cases r1
        obtain ⟨od, J⟩ := err_inst I hz hv hp hx1
        exact PySem.W.kia_one (err_kit (T'.isC _ hm)) I.kIn ⟨_, _, J⟩ (cn_one T' hm b2.1) (fun z => nomatch z) fun tk => ⟨.bl _, H, I.kept (t' := tk) fun _ _ z => z, rfl, q⟩
  refine (pe_callB cr (g.gl (of_decide_eq_true (He.ba h1).1)) (g.mgN f) (of_decide_eq_true h2) (pa_cons (ha X W g) (cn_pa g hc) (star_cons h4.1)) (of_decide_eq_true h3) (dbg_ok (He.ba h1).2) (star_cons h4.1) (star_plain (by rw [List.all_cons, hs2]; rfl))).imp fun σ H Q z => ?_
  obtain ⟨ρ, M, Q0, E0, r, m, t, q, xg⟩ := z
  exact ⟨ρ, M, _, E0, r, m, t, fun d M1 t1 y H1 s1 rd m1 => by
    obtain ⟨rfl, h5, ⟨f1, v1, h7⟩, h6⟩ := t1
    cases rd
    obtain ⟨y1, h8, _⟩ := m1 dd _ h7
    exact ⟨rfl, h5, ⟨_, h8⟩, q _ M1 (by simpa using h6) _ H1 s1 (.bl _) m1⟩, xg⟩
/-- isinstance(e, (C, ..)) -/
theorem n_xis2 {xs : List Str} {ad dd : Addr} {x : Xn} {cs : List Cn} {tp : Pos} {kk : Nat} (T : XcK U.K xs) (hx : n.ex = some (ad, x, dd)) (f : U.mg "isinstance" = none) (hb : isB n xs cs e = true) (hz : cs.length ≤ 100) (hc : CnEs U n es cs) (ha : JE U k n e wa) :
    JE U k n (.Call (.Name "isinstance" p) [e, .Tuple es kk tp] [] pos) (wXIs xs ad x dd cs wa) := fun X W g => by
  obtain ⟨b1, b2⟩ := He.ba hb
  obtain ⟨h1, h⟩ := He.ba b1
  obtain ⟨h2, h⟩ := He.ba h
  obtain ⟨h3, h4⟩ := He.ba h
  rw [List.all_cons, Bool.and_eq_true] at h4
  obtain ⟨oe, hz', ⟨vs, hv⟩, hp⟩ := g.xc ad x dd hx
  have T' : XcK X.K xs := by rw [g.eK]; exact T
  rw [← g.eK] at hz'
  have cr : CallR X (.builtin "isinstance") fun vs H Q => ∃ q, vs = [.ref ad, .ref q] ∧ H q = some (.tup (cs.map (Cn.v X.K))) ∧ x.c ∈ xs ∧ (∃ fs, H dd = some (.xd fs)) ∧ Q (.bl (cs.any (Cn.b x.c))) H := fun pins s σ H vs us Q I r ⟨q0, e1, hq, hm, ⟨fs, hx1⟩, q⟩ => by
    subst e1
    cases r with
    | cons r1 r2 => cases r2 with
      | cons r2 r3 =>
        cases r3
        cases r2
        cases r1
        obtain ⟨od, J⟩ := err_inst I hz' hv hp hx1
        obtain ⟨_, its, rv, ⟨o, g1, g2, m, g3⟩⟩ : ObjOk X.prog X.w H s.heap q0 (.tup _) := I.hok q0 _ hq
        obtain rfl := cn_vals rv
        obtain ⟨oc, od2, dt, sl⟩ := o
        dsimp only at g2 g3
        subst g2 g3
        exact PySem.W.kia_tup (err_kit (T'.isC _ hm)) I.kIn ⟨_, _, J⟩ g1 (cn_any T' hm b2) (fun z => nomatch z) fun tk => ⟨.bl _, H, I.kept (t' := tk) fun _ _ z => z, rfl, q⟩
  refine (pe_callB cr (g.gl (of_decide_eq_true (He.ba h1).1)) (g.mgN f) (of_decide_eq_true h2) (pa_cons (ha X W g) (pa_cons (pe_tup (cn_pa g hc)) pa_nil (star_cons rfl)) (star_cons h4.1)) (of_decide_eq_true h3) (dbg_ok (He.ba h1).2) (star_cons h4.1) (star_plain rfl)).imp fun σ H Q z => ?_
  obtain ⟨ρ, M, Q0, E0, r, m, t, q, xg⟩ := z
  exact ⟨ρ, M, _, E0, r, m, t, fun d M1 t1 y H1 s1 rd m1 => by
    obtain ⟨rfl, h5, ⟨f1, v1, h7⟩, h6⟩ := t1
    cases rd
    obtain ⟨y1, h8, _⟩ := m1 dd _ h7
    refine ⟨by rw [List.length_map, sizeLine_eq]; omega, fun q0 hq => ⟨q0, rfl, upd_same, h5, ⟨[(f1, y1)], ?_⟩, q _ M1 h6 _ _ (s1.trans (Stb.new hq)) (.bl _) (m1.laid hq)⟩⟩
    · rw [upd_ne (fun z => by rw [z, hq] at h8; cases h8)]
      exact h8, xg⟩
end
end Fg
/-! Fg18: a law's end. -/
namespace Fg
open PySem PySem.Spec L2
open PyProof.Rows hiding St
/-- what a def lets out, in any world -/
def CXa (P : Program) : CXT := fun outer H s E u s' => ∃ w, L2N.CX P w outer H s E u s'
theorem fn_any {P : Program} {w : World} {K : PySem.W.Frag} {mg : Str → Option Value} {base : Heap} {k : Nat} {f : Addr} {fd : FuncData} {ps : List Str} {sp : Sp} (F : FnOk P w K mg base (L2N.CX P w) k f fd ps sp) : FnOk P w K mg base (CXa P) k f fd ps sp :=
  ⟨F.len, fun A outer s H args us vs Q E hr e0 hb hv hs => codeAny_mono (F.run A outer s H args us vs Q E hr e0 hb hv hs) fun r s' z => by
    cases r with
    | error e => exact ⟨w, z⟩
    | ok fl => cases fl <;> exact z⟩
/-- the script as data -/
def script (ns : List Int) : D := .rol (ns.map D.int)
theorem walk_law {l : PySem.W.OpenLaw} {hd : Hd} {k i j : Nat} {x : Str} {N : List Str} {wl : WS} {q : Program} {loose : List Str} {XP : (Str → Option Value) → Heap → Prop} {dr : DefRec} {d : He.DefD}
    (hn : l.most = some 63) (hdf : dr.params.defaults = []) (hr : Room (k + 1) callerA) (hdn : dr.name = ("law" : Str)) (hfn : hd.fn[i]? = some d) (ha : d.at_ = (("law" : Str), none)) (hdk : d.dfl = [] ∧ d.kwd = []) (hgl : hd.fa[j]? = some (.glo "law"))
    (S : FnScope N [x] d.scope) (hb : ∀ (kV doc pm : Value) (an : Option Addr) (cdv ct : Value) (us : List Value), us.length = 1 → bindArgs (PySem.W.fnOf d.name d.qual d.params d.body d.scope .none kV doc pm an cdv ct) ⟨us, []⟩ = pure ([x].zip us))
    (hfile : l.prog.main.file = hd.file) (htop : (l.prog.main.scope.names.lookup ("super" : Str)).isSome = false) (hk : ∀ U, Fct hd U → JSs U k ⟨N, d.scope, fun _ => true, false, none, true⟩ d.body wl)
    (law : ∀ ns : List Int, ns.length ≤ 63 → spW N 1 wl [script ns] (fun _ => none) (fun d _ => d = .bl true) noX) :
    PySem.W.WalkO q loose XP hd.hook.says l.row.toRowW dr [] (fun f vs => PySem.call f vs) := by
  refine L2.walk_ofE (l := l) (n := 63) (k := k + 1) (x := x) (CX := CXa l.prog) hn (by rw [sizeLine_eq]; decide) hdf hr ?_ ?_
  · intro w mg fa h Y G hmg
    obtain ⟨K, KX, c⟩ := Y
    obtain ⟨fd, FD⟩ := c.1.1.def_ i hfn
    have e1 : d.dvs K = [] := by unfold He.DefD.dvs; rw [hdk.1]; rfl
    have e2 : d.kws K = [] := by unfold He.DefD.kws; rw [hdk.2]; rfl
    rw [e1, e2, ha] at FD
    have efa : fa = He.fAd K (("law" : Str), none) := by
      rw [hdn] at hmg
      have z := hmg.symm.trans (He.glo_ok KX G (c.1.1.fact j hgl))
      injection z with z
      injection z
    subst efa
    have bA := FunD.bindsA (ps := [x]) FD hb
    refine ⟨K, fd, upSp K w (spW N 1 wl), KX, fun s v => bA s [v] rfl, fun H a ns hl hO hS => ?_, fun base KB GB => ?_⟩
    · have hz : Fz K H a (ns.map V.int) := by
        rcases hS with (h | ⟨o, h⟩) | h
        · rcases hO a with z | ⟨o, xs, z⟩
          · rw [z] at h; cases h
          · rw [z] at h; cases h
        · exact .inl ⟨o, h⟩
        · exact .inr h
      exact ⟨[script ns], fun _ => none, fun d _ => d = .bl true, noX, .cons (.rol hz RDs.ints) .nil, fun a o e => (nomatch e), law ns hl, fun d M' e y H' _ r _ => (by subst e; cases r; rfl), fun _ _ z => z.elim⟩
    · have U : Fct hd ⟨l.prog, w, K, mg, base⟩ := ⟨KB, GB, c, hfile, htop⟩
      exact fn_any (fn_okD (U := ⟨l.prog, w, K, mg, base⟩) (ps := [x]) FD S (hk _ U))
  · intro H s e s' ⟨w, a, B, H', cls, d, _, _, _, _, _, _, _, z⟩
    exact z
end Fg
/-! Fg19: methods of built-in types. -/
namespace Fg
open PySem PySem.Spec L2
open PyProof.Rows hiding St
/-- a receiver's type -/
def tyR (M : MM) : D → Option String
  | .str _ => some "str"
  | .int _ => some "int"
  | .rol _ => some "list"
  | .ref a => match M a with
    | some (.lst _) => some "list"
    | some (.dct _ _) => some "dict"
    | _ => none
  | _ => none
abbrev MD := D → List D → MM → QD → Prop
def upM (X : Cx) (o : MD) : V → List V → Hp → VK → Prop := fun x xs H Q => ∃ d ds M Q0, RD X.K H d x ∧ RDs X.K H ds xs ∧ RMx X H M ∧ o d ds M Q0 ∧ ∀ z M', Q0 z M' → ∀ v H', Stb H H' → RD X.K H' z v → RMx X H' M' → Q v H'
def wBm (T : String) (o : MD) (wo : WE) (wa : WA) : WE := fun ρ M Q E => wo ρ M (fun d M1 => tyR M1 d = some T ∧ wa ρ M1 (fun ds M2 => o d ds M2 Q) E) E
section
variable {X : Cx} {W : WX} {pins : List (Addr × Obj)} {σ : St} {H : Hp} {s : Shared}
theorem tyR_is {M : MM} {d : D} {x : V} {v : Value} {T : String} (I : Inv X pins σ H s) (m : RMx X H M) (r : RD X.K H d x) (rv : RelV x v) (h : tyR M d = some T) : s.TypeIs v T ∧ ∀ a, v = .ref a → ∃ ob, s.heap.get? a = some ob ∧ ob.dict = none := by
  cases r with
  | str y =>
    cases h
    exact tyV_is (T := "str") (x := .str y) I rv rfl
  | int i =>
    cases h
    exact tyV_is (T := "int") (x := .int i) I rv rfl
  | @rol a vs ds hz q =>
    cases h
    exact tyV_is (T := "list") (x := .ref a) I rv (.inl ⟨rfl, vs, hz.sq⟩)
  | ref a =>
    have h' : (match M a with
      | some (.lst _) => some "list"
      | some (.dct _ _) => some "dict"
      | _ => none) = some T := h
    cases e : M a with
    | none => rw [e] at h'; cases h'
    | some o =>
      rw [e] at h'
      cases o with
      | lst ds =>
        cases h'
        obtain ⟨vs, h1, _⟩ := m a _ e
        exact tyV_is (T := "list") (x := .ref a) I rv (.inl ⟨rfl, vs, SqL.of h1⟩)
      | dct ob kvs =>
        cases h'
        obtain ⟨es, ep, h1, ⟨g2, g3⟩, _⟩ := m a _ e
        have g1 := raw_get I h1
        cases rv
        exact ⟨⟨ob, g1, g2⟩, fun b eb => by cases eb; exact ⟨ob, g1, g3.1⟩⟩
      | ins _ _ => cases h'
      | xd _ _ => cases h'
  | _ => cases h
variable {o e : Expr} {es : List Expr} {name : Str} {apos cpos : Pos} {T id : String} {md : MD} {wo : WE} {wa : WA}
theorem ue_bm (pa : PlainAttrs T) (slot : Slot T name id) (hty : typeOf (.builtin id) = pure (.type "method_descriptor")) (hm : MtR X id (upM X md)) (ho : PE X o (upE X W wo)) (ha : PA X (e :: es) (upA X W wa)) (hb : isCall0 o = false) (hs : (e :: es).all noStar = true)
    (hn : (e :: es).length < 29) (hl : (apos.endLine == cpos.line) = true) : PE X (.Call (.Attribute o name apos) (e :: es) [] cpos) (upE X W (wBm T md wo wa)) := by
  have hs' := hs
  rw [List.all_cons, Bool.and_eq_true] at hs
  refine ⟨fun pins s σ H Q I ⟨ρ, M, Q0, E0, r, m, t, q, xg⟩ => ?_⟩
  refine wpAny_Call_method_late (base_of hb) ?_ hl rfl (thn (ho.run pins s σ H (fun y H1 => ∃ d M1, RD X.K H1 d y ∧ RMx X H1 M1 ∧ Stb H H1 ∧ tyR M1 d = some T ∧ wa ρ M1 (fun ds M2 => md d ds M2 Q0) E0) I ⟨ρ, M, _, E0, r, m, t, fun d M1 t1 y H1 s1 rd m1 => ⟨d, M1, rd, m1, s1, t1.1, t1.2⟩, xg⟩) fun v s1 hh => ?_)
  · rw [star_allN hs']
    simp [keywordEach, backToKw]
    simp only [List.length_cons] at hn
    omega
  · obtain ⟨y, H1, I1, ry, d, M1, rd, m1, s1', ty, t1⟩ := hh
    obtain ⟨h1, h2⟩ := tyR_is I1 m1 rd ry ty
    refine ⟨T, id, pa, slot, hty, h1, h2, ?_⟩
    have hA := ha.run cpos pins s1 σ H1 (fun ys H2 => upM X md y ys H2 Q) I1 ⟨ρ, M1, _, E0, r.stb s1', m1, t1, fun ds M2 t2 ys H2 s2 rds m2 => ⟨d, ds, M2, Q0, rd.stb s2, rds, m2, t2, fun z M' qz v H' s' rz mz => q z M' qz v H' ((s1'.trans s2).trans s') rz mz⟩, xg.stb s1'⟩
    rw [star_cons hs.1] at hA ⊢
    refine Calls.callWith_builtin (by show (false || (backTo cpos (starEach es X.env)).any (·.1)) = false; rw [star_plain hs.2] <;> rfl) (Calls.evalArgs_plain (thn hA fun us s2 ⟨vs, H2, I2, r2, q2⟩ => ?_))
    exact hm pins s2 σ H2 y vs v us Q I2 ry r2 q2
theorem ue_bm0 (pa : PlainAttrs T) (slot : Slot T name id) (hty : typeOf (.builtin id) = pure (.type "method_descriptor")) (hm : MtR X id (upM X md)) (ho : PE X o (upE X W wo)) (hb : isCall0 o = false) (hl : (apos.endLine == cpos.line) = true) :
    PE X (.Call (.Attribute o name apos) [] [] cpos) (upE X W (wBm T md wo wNil)) := by
  refine ⟨fun pins s σ H Q I ⟨ρ, M, Q0, E0, r, m, t, q, xg⟩ => ?_⟩
  refine wpAny_Call_method0_late (base_of hb) hl (thn (ho.run pins s σ H (fun y H1 => ∃ d M1, RD X.K H1 d y ∧ RMx X H1 M1 ∧ Stb H H1 ∧ tyR M1 d = some T ∧ md d [] M1 Q0) I ⟨ρ, M, _, E0, r, m, t, fun d M1 t1 y H1 s1 rd m1 => ⟨d, M1, rd, m1, s1, t1.1, t1.2⟩, xg⟩) fun v s1 hh => ?_)
  obtain ⟨y, H1, I1, ry, d, M1, rd, m1, s1', ty, t1⟩ := hh
  obtain ⟨h1, h2⟩ := tyR_is I1 m1 rd ry ty
  exact ⟨T, id, pa, slot, hty, h1, h2, Calls.callWith_builtin rfl (PySem.evalArgs_none (hm pins s1 σ H1 y [] v [] Q I1 ry .nil ⟨d, [], M1, Q0, rd, .nil, m1, t1, fun z M' qz v H' s' rz mz => q z M' qz v H' (s1'.trans s') rz mz⟩))⟩
end
end Fg
/-! Fg20: list's, str's, dict's methods. -/
namespace Fg
open PySem PySem.Spec L2
open PyProof.Rows hiding St
section
variable {X : Cx} {pins : List (Addr × Obj)} {σ : St} {H : Hp} {s : Shared}
def mApp : MD := fun o xs M Q => ∃ a ds d, o = .ref a ∧ xs = [d] ∧ M a = some (.lst ds) ∧ ds.length < sizeLine ∧ Q .non (up M a (.lst (ds ++ [d])))
def mIns : MD := fun o xs M Q => ∃ a ds i d, o = .ref a ∧ xs = [.int i, d] ∧ M a = some (.lst ds) ∧ ds.length < sizeLine ∧ 0 ≤ i ∧ i < 2 ^ 63 ∧ Q .non (up M a (.lst (ds.take i.toNat ++ [d] ++ ds.drop i.toNat)))
def mPop : MD := fun o xs M Q => ∃ a ds d, o = .ref a ∧ xs = [] ∧ M a = some (.lst ds) ∧ ds[ds.length - 1]? = some d ∧ Q d (up M a (.lst ds.dropLast))
def mRev : MD := fun o xs M Q => ∃ a ds, o = .ref a ∧ xs = [] ∧ M a = some (.lst ds) ∧ Q .non (up M a (.lst ds.reverse))
def mJoin : MD := fun o xs M Q => ∃ a d ys, o = .str a ∧ xs = [d] ∧ itemsOf M d = some (ys.map D.str) ∧ (ys.map (·.length)).sum + ys.length * a.length ≤ 16777216 ∧ Q (.str (Txt.join a ys)) M
def mGet2 : MD := fun o xs M Q => ∃ a ob kvs i k e, o = .ref a ∧ xs = [i, e] ∧ M a = some (.dct ob kvs) ∧ KOk kvs i k ∧ Q ((lookK kvs k).getD e) M
theorem mut_lst {a : Addr} {vs : List V} (h : H a = some (.lst vs)) : Mut (H a) := by rw [h]; trivial
theorem RDs.rev {K : PySem.W.Frag} : ∀ {ds : List D} {vs : List V}, RDs K H ds vs → RDs K H ds.reverse vs.reverse
  | _, _, .nil => .nil
  | _, _, .cons r t => by rw [List.reverse_cons, List.reverse_cons]; exact (RDs.rev t).append (.cons r .nil)
theorem RDs.dropLast {K : PySem.W.Frag} {ds : List D} {vs : List V} (h : RDs K H ds vs) : RDs K H ds.dropLast vs.dropLast := by
  rw [List.dropLast_eq_take, List.dropLast_eq_take, h.length]
  exact h.take _
theorem md_app : MtR X "list.append" (upM X mApp) := fun pins s σ H x xs v us Q I rx rv ⟨d, ds, M, Q0, rd, rds, m, ⟨a, es, e, e1, e2, h1, h2, t⟩, q⟩ => by
  subst e1 e2
  cases rd
  obtain ⟨y, rfl, ry⟩ := rds1 rds
  obtain ⟨vs, h3, h4⟩ := m a _ h1
  have mu := mut_lst h3
  have s1 : Stb H (upd H a (.lst (vs ++ [y]))) := Stb.mut mu
  exact mt_append pins s σ H _ _ v us Q I rx rv ⟨a, vs, y, rfl, rfl, h3, by rw [← h4.length]; exact h2, q _ _ t _ _ s1 .non (m.mut (o := .lst (es ++ [e])) mu ⟨_, upd_same, RDs.stb s1 (h4.append (.cons ry .nil))⟩)⟩
theorem md_ins : MtR X "list.insert" (upM X mIns) := fun pins s σ H x xs v us Q I rx rv ⟨d, ds, M, Q0, rd, rds, m, ⟨a, es, i, e, e1, e2, h1, h2, g1, g2, t⟩, q⟩ => by
  subst e1 e2
  cases rd
  obtain ⟨y0, y, rfl, ry0, ry⟩ := rds2 rds
  cases ry0
  obtain ⟨vs, h3, h4⟩ := m a _ h1
  have mu := mut_lst h3
  have s1 : Stb H (upd H a (.lst (vs.take i.toNat ++ [y] ++ vs.drop i.toNat))) := Stb.mut mu
  exact mt_insert pins s σ H _ _ v us Q I rx rv ⟨a, vs, i, y, rfl, rfl, h3, by rw [← h4.length]; exact h2, g1, g2, q _ _ t _ _ s1 .non (m.mut (o := .lst (es.take i.toNat ++ [e] ++ es.drop i.toNat)) mu ⟨_, upd_same, RDs.stb s1 (((h4.take _).append (.cons ry .nil)).append (h4.drop _))⟩)⟩
theorem md_pop : MtR X "list.pop" (upM X mPop) := fun pins s σ H x xs v us Q I rx rv ⟨d, ds, M, Q0, rd, rds, m, ⟨a, es, e, e1, e2, h1, h2, t⟩, q⟩ => by
  subst e1 e2
  cases rd
  cases rds
  obtain ⟨vs, h3, h4⟩ := m a _ h1
  have mu := mut_lst h3
  obtain ⟨y, h5, ry⟩ := h4.get h2
  have s1 : Stb H (upd H a (.lst vs.dropLast)) := Stb.mut mu
  exact mt_pop pins s σ H _ _ v us Q I rx rv ⟨a, vs, y, rfl, rfl, h3, by rw [← h4.length]; exact h5, q _ _ t _ _ s1 (ry.stb s1) (m.mut (o := .lst es.dropLast) mu ⟨_, upd_same, RDs.stb s1 h4.dropLast⟩)⟩
theorem md_rev : MtR X "list.reverse" (upM X mRev) := fun pins s σ H x xs v us Q I rx rv ⟨d, ds, M, Q0, rd, rds, m, ⟨a, es, e1, e2, h1, t⟩, q⟩ => by
  subst e1 e2
  cases rd
  cases rds
  obtain ⟨vs, h3, h4⟩ := m a _ h1
  have mu := mut_lst h3
  have s1 : Stb H (upd H a (.lst vs.reverse)) := Stb.mut mu
  exact mt_reverse pins s σ H _ _ v us Q I rx rv ⟨a, vs, rfl, rfl, h3, q _ _ t _ _ s1 .non (m.mut (o := .lst es.reverse) mu ⟨_, upd_same, RDs.stb s1 h4.rev⟩)⟩
theorem md_get2 (hu : X.A.units + 64 < cLine) : MtR X "dict.get" (upM X mGet2) := fun pins s σ H x xs v us Q I rx rv ⟨d, ds, M, Q0, rd, rds, m, ⟨a, ob, kvs, i, k, e, e1, e2, h1, ok, t⟩, q⟩ => by
  subst e1 e2
  cases rd
  obtain ⟨y, z, rfl, ry, rz⟩ := rds2 rds
  cases rx
  cases rv with
  | cons r1 rv => cases rv with
    | cons r2 rv =>
      cases rv
      obtain ⟨es, ep, da, _⟩ := dct_at m h1
      exact g_get hu I da ok ry r1 rz r2 fun z' u' s' J ru rd => ⟨z', H, J, ru, q _ M t _ H (Stb.refl H) rd m⟩
def mGet1 : MD := fun o xs M Q => ∃ a ob kvs i k, o = .ref a ∧ xs = [i] ∧ M a = some (.dct ob kvs) ∧ KOk kvs i k ∧ Q ((lookK kvs k).getD .non) M
theorem md_get1 (hu : X.A.units + 64 < cLine) : MtR X "dict.get" (upM X mGet1) := fun pins s σ H x xs v us Q I rx rv ⟨d, ds, M, Q0, rd, rds, m, ⟨a, ob, kvs, i, k, e1, e2, h1, ok, t⟩, q⟩ => by
  subst e1 e2
  cases rd
  obtain ⟨y, rfl, ry⟩ := rds1 rds
  cases rx
  cases rv with
  | cons r1 rv =>
    cases rv
    obtain ⟨es, ep, da, _⟩ := dct_at m h1
    exact g_get1 hu I da ok ry r1 fun z' u' s' J ru rd => ⟨z', H, J, ru, q _ M t _ H (Stb.refl H) rd m⟩
theorem md_join : MtR X "str.join" (upM X mJoin) := fun pins s σ H x xs v us Q I rx rv ⟨d, ds, M, Q0, rd, rds, m, ⟨a, d1, ys, e1, e2, h1, h2, t⟩, q⟩ => by
  subst e1 e2
  cases rd
  obtain ⟨y, rfl, ry⟩ := rds1 rds
  obtain ⟨p, vs, rfl, hs, hr⟩ := items_sq m ry h1
  have ev := RDs.strs hr
  subst ev
  exact mt_join pins s σ H _ _ v us Q I rx rv ⟨a, p, ys, rfl, rfl, hs.imp (fun h => h) SqN.t, h2, q _ M t _ H (Stb.refl H) (.str _) m⟩
end
/-! ### by form -/
section
variable {U : Ud} {k : Nat} {n : Nm} {a e : Expr} {es : List Expr} {apos cpos : Pos} {wo : WE} {ws : WA} {T id : String} {name : Str} {md : MD}
structure Mth (T : String) (name : Str) (id : String) : Prop where
  pa : PlainAttrs T
  slot : Slot T name id
  ty : typeOf (.builtin id) = pure (.type "method_descriptor")
theorem f_app : Mth "list" "append" "list.append" := ⟨F.plainAttrs_list, F.slot_list_append, F.type_list_append⟩
theorem f_ins : Mth "list" "insert" "list.insert" := ⟨F.plainAttrs_list, F.slot_list_insert, F.type_list_insert⟩
theorem f_pop : Mth "list" "pop" "list.pop" := ⟨F.plainAttrs_list, F.slot_list_pop, F.type_list_pop⟩
theorem f_rev : Mth "list" "reverse" "list.reverse" := ⟨F.plainAttrs_list, F.slot_list_reverse, F.type_list_reverse⟩
theorem f_join : Mth "str" "join" "str.join" := ⟨F.plainAttrs_str, F.slot_str_join, F.type_str_join⟩
theorem f_get : Mth "dict" "get" "dict.get" := ⟨F.plainAttrs_dict, F.slot_dict_get, F.type_dict_get⟩
def bmB (a : Expr) (es : List Expr) (apos cpos : Pos) : Bool := !isCall0 a && (es.all noStar && (decide (es.length < 29) && apos.endLine == cpos.line))
theorem m_bm (f : Mth T name id) (hm : ∀ X W, Gd U k n X W → MtR X id (upM X md)) (h : bmB a (e :: es) apos cpos = true) (ho : JE U k n a wo) (ha : JA U k n (e :: es) ws) : JE U k n (.Call (.Attribute a name apos) (e :: es) [] cpos) (wBm T md wo ws) := fun X W g => by
  obtain ⟨h1, h⟩ := He.ba h
  obtain ⟨h2, h⟩ := He.ba h
  obtain ⟨h3, h4⟩ := He.ba h
  exact ue_bm f.pa f.slot f.ty (hm X W g) (ho X W g) (ha X W g) (nb h1) h2 (of_decide_eq_true h3) h4
theorem m_bm0 (f : Mth T name id) (hm : ∀ X W, Gd U k n X W → MtR X id (upM X md)) (h : bmB a [] apos cpos = true) (ho : JE U k n a wo) : JE U k n (.Call (.Attribute a name apos) [] [] cpos) (wBm T md wo wNil) := fun X W g => by
  obtain ⟨h1, h⟩ := He.ba h
  obtain ⟨h2, h⟩ := He.ba h
  obtain ⟨h3, h4⟩ := He.ba h
  exact ue_bm0 f.pa f.slot f.ty (hm X W g) (ho X W g) (nb h1) h4
end
end Fg
/-! Fg21: slices. -/
namespace Fg
open PySem PySem.Spec L2
open PyProof.Rows hiding St
/-- a slice's part -/
abbrev WO := En → MM → (Option Int → MM → Prop) → QX → Prop
def wNoP : WO := fun _ M Q _ => Q none M
def wSoP (w : WE) : WO := fun ρ M Q E => w ρ M (fun d M1 => ∃ i, d = .int i ∧ Q (some i) M1) E
def upO' (X : Cx) (W : WX) (t : WO) : TO := fun σ H Q => ∃ ρ M Q0 E0, RE X.K H ρ σ ∧ RMx X H M ∧ t ρ M Q0 E0 ∧ (∀ l M', Q0 l M' → ∀ H', Stb H H' → RMx X H' M' → Q l H') ∧ XGo X W σ H E0
def wSl (wo : WE) (wl wh : WO) : WE := fun ρ M Q E => wo ρ M (fun d M1 => wl ρ M1 (fun l M2 => wh ρ M2 (fun h M3 => dSl d l h M3 Q) E) E) E
section
variable {X : Cx} {W : WX} {e : Expr} {lo hi : Option Expr} {wo w : WE} {wl wh : WO} {pos p2 : Pos}
theorem uo_none : PO X none (upO' X W wNoP) := ⟨fun pins s σ H Q I ⟨ρ, M, Q0, E0, r, m, t, q, xg⟩ => po_none.run pins s σ H Q I (q none M t H (Stb.refl H) m)⟩
theorem uo_some (h : PE X e (upE X W w)) : PO X (some e) (upO' X W (wSoP w)) := ⟨fun pins s σ H Q I ⟨ρ, M, Q0, E0, r, m, t, q, xg⟩ => (po_some h).run pins s σ H Q I ⟨ρ, M, _, E0, r, m, t, fun d M1 t1 y H1 s1 rd m1 => by
  obtain ⟨i, rfl, t1⟩ := t1
  cases rd
  exact ⟨i, rfl, q _ M1 t1 H1 s1 m1⟩, xg⟩⟩
theorem ue_sl (ho : PE X e (upE X W wo)) (hl : PO X lo (upO' X W wl)) (hh : PO X hi (upO' X W wh)) : PE X (.Subscript e (.Slice lo hi none p2) pos) (upE X W (wSl wo wl wh)) := (pe_slice sl_dSl ho hl hh).imp fun σ H Q ⟨ρ, M, Q0, E0, r, m, t, q, xg⟩ =>
  ⟨ρ, M, _, E0, r, m, t, fun d M1 t1 y H1 s1 rd m1 => ⟨ρ, M1, _, E0, r.stb s1, m1, t1, fun l M2 t2 H2 s2 m2 => ⟨ρ, M2, _, E0, (r.stb s1).stb s2, m2, t2, fun h M3 t3 H3 s3 m3 => ⟨d, M3, Q0, (rd.stb s2).stb s3, m3, t3, fun z M' qz v H' s' rz mz => q z M' qz v H' (((s1.trans s2).trans s3).trans s') rz mz⟩, (xg.stb s1).stb s2⟩, xg.stb s1⟩, xg⟩
end
section
variable {U : Ud} {k : Nat} {n : Nm} {a e : Expr} {lo hi : Option Expr} {pos p2 : Pos} {wo w : WE} {wl wh : WO}
def JO (U : Ud) (k : Nat) (n : Nm) (e : Option Expr) (w : WO) : Prop := ∀ X W, Gd U k n X W → PO X e (upO' X W w)
theorem o_none : JO U k n none wNoP := fun X W g => uo_none
theorem o_some (h : JE U k n e w) : JO U k n (some e) (wSoP w) := fun X W g => uo_some (h X W g)
theorem n_sl (ho : JE U k n a wo) (hl : JO U k n lo wl) (hh : JO U k n hi wh) : JE U k n (.Subscript a (.Slice lo hi none p2) pos) (wSl wo wl wh) := fun X W g => ue_sl (ho X W g) (hl X W g) (hh X W g)
end
end Fg
/-! Fg22: calls by keywords. -/
namespace Fg
open PySem PySem.Spec L2
open PyProof.Rows hiding St
/-- the values at these places -/
def ord {α : Type} (l : List Nat) (xs : List α) : List α := l.filterMap fun i => xs[i]?
theorem ord_rel {α β : Type} {R : α → β → Prop} {xs : List α} {ys : List β} (h : Paired R xs ys) (get : ∀ (i : Nat) (x : α), xs[i]? = some x → ∃ y, ys[i]? = some y ∧ R x y) (none_ : ∀ i : Nat, xs[i]? = none → ys[i]? = none) : ∀ l : List Nat, Paired R (ord l xs) (ord l ys)
  | [] => .nil
  | i :: l => by
    unfold ord
    rw [List.filterMap_cons, List.filterMap_cons]
    cases e : xs[i]? with
    | none => rw [none_ i e]; exact ord_rel h get none_ l
    | some x =>
      obtain ⟨y, e2, r⟩ := get i x e
      rw [e2]
      exact .cons r (ord_rel h get none_ l)
theorem ord_vals {vs : List V} {us : List Value} (h : Vals vs us) (l : List Nat) : Vals (ord l vs) (ord l us) := ord_rel h (fun _ _ e => h.get e) (fun _ e => h.none_of e) l
theorem ord_rds {K : PySem.W.Frag} {H : Hp} {ds : List D} {vs : List V} (h : RDs K H ds vs) : ∀ l : List Nat, RDs K H (ord l ds) (ord l vs)
  | [] => .nil
  | i :: l => by
    unfold ord
    rw [List.filterMap_cons, List.filterMap_cons]
    cases e : ds[i]? with
    | none =>
      have z : vs[i]? = none := List.getElem?_eq_none_iff.mpr (by rw [← h.length]; exact List.getElem?_eq_none_iff.mp e)
      rw [z]; exact ord_rds h l
    | some d =>
      obtain ⟨y, e2, r⟩ := h.get e
      rw [e2]
      exact .cons r (ord_rds h l)
/-- a def of the text that may be called by these keywords -/
def FnHasK (P : Program) (w : World) (K : PySem.W.Frag) (mg : Str → Option Value) (base : Heap) (k : Nat) (x : Str) (ks : List Str) (m : Nat) (l : List Nat) (sp : SpD) : Prop :=
  ∃ f fd ps, mg x = some (.ref f) ∧ FnOk P w K mg base (L2N.CX P w) k f fd ps (upSp K w sp) ∧ PySem.W.keepIn K (.ref f) = true ∧ ∀ us ws : List Value, us.length = m → ws.length = ks.length → bindArgs fd ⟨us, ks.zip ws⟩ = pure (ps.zip (ord l (us ++ ws)))
def wCallK (sp : SpD) (m n : Nat) (l : List Nat) (wa wk : WA) : WE := fun ρ M Q E => wa ρ M (fun ds M1 => wk ρ M1 (fun zs M2 => ds.length = m ∧ zs.length = n ∧ sp (ord l (ds ++ zs)) M2 Q E) E) E
def upK (X : Cx) (W : WX) (t : WA) : TA := upA X W t
section
variable {X : Cx} {W : WX} {k m : Nat} {x : Str} {ks : List Str} {l : List Nat} {sp : SpD} {e : Expr} {es : List Expr} {kws : List Keyword} {wa wk : WA} {p pos kpos : Pos} {we : WE} {nm : Option Str}
theorem uk_nil : PK X [] (upA X W wNil) := ⟨fun pos pins s σ H Q I ⟨ρ, M, Q0, E0, r, m, t, q, xg⟩ => pk_nil.run pos pins s σ H Q I (q [] M t [] H (Stb.refl H) .nil m)⟩
theorem uk_cons (ha : PE X e (upE X W we)) (hr : PK X kws (upA X W wk)) : PK X (⟨nm, e, kpos⟩ :: kws) (upA X W (wCons we wk)) := ⟨fun pos pins s σ H Q I ⟨ρ, M, Q0, E0, r, m, t, q, xg⟩ =>
  (pk_cons ha hr).run pos pins s σ H Q I ⟨ρ, M, _, E0, r, m, t, fun d M1 t1 y H1 s1 rd m1 => ⟨ρ, M1, _, E0, r.stb s1, m1, t1, fun ds M2 t2 ys H2 s2 rds m2 => q _ M2 t2 _ H2 (s1.trans s2) (.cons (rd.stb s2) rds) m2, xg.stb s1⟩, xg⟩⟩
/-- the callee, its values put in the parameters' order -/
theorem run_key {pins : List (Addr × Obj)} {σ : St} {H : Hp} {s : Shared} {Q : VK} {us ws : List Value} {vs zs : List V} {f : Addr} {fd : FuncData} {ps : List Str} (F : FnOk X.prog X.w X.K X.mg X.base (L2N.CX X.prog X.w) k f fd ps (upSp X.K X.w sp)) (hr : Room k X.A) (tk : L2N.Takes X W)
    (hb : ∀ us ws : List Value, us.length = m → ws.length = ks.length → bindArgs fd ⟨us, ks.zip ws⟩ = pure (ps.zip (ord l (us ++ ws)))) (hm : us.length = m) (hn : ws.length = ks.length) (I : Inv X pins σ H s) (r : Vals vs us) (rz : Vals zs ws) (h : upSp X.K X.w sp (ord l (vs ++ zs)) H Q (L2.WE W σ)) :
    wpAny (model X.prog X.w) X.A (call (.ref f) us (ks.zip ws)) (EP X pins σ Q) X.xe s := by
  refine wpAny_call (codeAny_mono (F.run X.A X.stack s H ⟨us, ks.zip ws⟩ (ord l (us ++ ws)) _ Q (L2.WE W σ) hr I.env0 (.of_eq (hb us ws hm hn)) (ord_vals (r.append rz) l) h) fun res s' hq => ?_)
  cases res with
  | error er => exact L2N.passAt tk σ pins H s er s' I hq
  | ok fl => cases fl with
    | ret u => exact I.after hq
    | next => exact hq.elim
    | brk => exact hq.elim
    | cont => exact hq.elim
theorem ue_callK0 (hf : FnHasK X.prog X.w X.K X.mg X.base k x ks 0 l sp) (hr : Room k X.A) (tk : L2N.Takes X W) (hg : Gl X x) (hdb : (x == ("__debug__" : Str)) = false) (hkw : PK X kws (upA X W wk)) (hall : (backToKw pos (keywordEach kws X.env)).all (·.1.isSome) = true)
    (hks : (backToKw pos (keywordEach kws X.env)).filterMap (·.1) = ks) (hpl : (backToKw pos (keywordEach kws X.env)).any (·.1.isNone) = false) : PE X (.Call (.Name x p) [] kws pos) (upE X W (wCallK sp 0 ks.length l wNil wk)) := by
  obtain ⟨f, fd, ps, hm, F, kp, hb⟩ := hf
  refine ⟨fun pins s σ H Q I ⟨ρ, M, Q0, E0, r, m, t, q, xg⟩ => wpAny_Call_Name_kw (ld_glob I hg hm ?_ hdb)⟩
  refine PySem.W.callWith_KW0 (h₀ := X.base) I.ok.mod.kin kp hall (thn (hkw.run pos pins s σ H (fun zs H1 => zs.length = ks.length ∧ upSp X.K X.w sp (ord l ([] ++ zs)) H1 Q (L2.WE W σ)) I ⟨ρ, M, _, E0, r, m, t, fun zs M1 t1 ys H1 s1 rd m1 => ⟨by rw [← rd.length]; exact t1.2.1, upSp_of (ord_rds rd l) m1 t1.2.2 (fun d M' qd y H' s' => q d M' qd y H' (s1.trans s')) (xg.stb s1)⟩, xg⟩) fun ws s2 ⟨zs, H2, I2, rz, hl, q2⟩ => ⟨I2.kIn, ?_⟩) (by show (false || _) = false; rw [hpl]; rfl)
  rw [hks]
  exact run_key F hr tk hb rfl (by rw [← rz.length]; exact hl) I2 .nil rz q2
theorem ue_callK (hf : FnHasK X.prog X.w X.K X.mg X.base k x ks m l sp) (hr : Room k X.A) (tk : L2N.Takes X W) (hg : Gl X x) (hdb : (x == ("__debug__" : Str)) = false) (ha : PA X (e :: es) (upA X W wa)) (hs : (e :: es).all noStar = true) (hkw : PK X kws (upA X W wk))
    (hall : (backToKw pos (keywordEach kws X.env)).all (·.1.isSome) = true) (hks : (backToKw pos (keywordEach kws X.env)).filterMap (·.1) = ks) (hpl : (backToKw pos (keywordEach kws X.env)).any (·.1.isNone) = false) : PE X (.Call (.Name x p) (e :: es) kws pos) (upE X W (wCallK sp m ks.length l wa wk)) := by
  obtain ⟨f, fd, ps, hm, F, kp, hb⟩ := hf
  have hs' := hs
  rw [List.all_cons, Bool.and_eq_true] at hs
  refine ⟨fun pins s σ H Q I ⟨ρ, M, Q0, E0, r, mm, t, q, xg⟩ => wpAny_Call_Name_kw (ld_glob I hg hm ?_ hdb)⟩
  refine PySem.W.callWith_KW (h₀ := X.base) I.ok.mod.kin kp hall (thn (ha.run pos pins s σ H (fun ys H1 => upA X W wk σ H1 fun zs H2 => ys.length = m ∧ zs.length = ks.length ∧ upSp X.K X.w sp (ord l (ys ++ zs)) H2 Q (L2.WE W σ)) I ⟨ρ, M, _, E0, r, mm, t, fun ds M1 t1 ys H1 s1 rd m1 =>
    ⟨ρ, M1, _, E0, r.stb s1, m1, t1, fun zs M2 t2 ys2 H2 s2 rd2 m2 => ⟨by rw [← rd.length]; exact t2.1, by rw [← rd2.length]; exact t2.2.1, upSp_of (ord_rds ((RDs.stb s2 rd).append rd2) l) m2 t2.2.2 (fun d M' qd y H' s' => q d M' qd y H' ((s1.trans s2).trans s')) ((xg.stb s1).stb s2)⟩, xg.stb s1⟩, xg⟩)
    fun us s1 ⟨vs, H1, I1, r1, q1⟩ => thn (hkw.run pos pins s1 σ H1 _ I1 q1) fun ws s2 ⟨zs, H2, I2, rz, h1, h2, q2⟩ => ⟨I2.kIn, ?_⟩) (by rw [star_plain hs', hpl]; rfl) (star_cons hs.1)
  rw [hks]
  exact run_key F hr tk hb (by show us.length = m; rw [← r1.length]; exact h1) (by rw [← rz.length]; exact h2) I2 r1 rz q2
end
end Fg
/-! Fg23: calls by keywords, over any context. -/
namespace Fg
open PySem PySem.Spec L2
open PyProof.Rows hiding St
theorem kw_names (kws : List Keyword) (pos : Pos) (env : Env) : (backToKw pos (keywordEach kws env)).map (·.1) = kws.map (·.1) := by
  induction kws with
  | nil => rfl
  | cons kw kws ih =>
    obtain ⟨nm, e, p⟩ := kw
    exact congrArg (nm :: ·) ih
theorem kw_all (kws : List Keyword) (ks : List Str) (h : kws.map (·.1) = ks.map some) (pos : Pos) (env : Env) :
    (backToKw pos (keywordEach kws env)).all (·.1.isSome) = true ∧ (backToKw pos (keywordEach kws env)).filterMap (·.1) = ks ∧ (backToKw pos (keywordEach kws env)).any (·.1.isNone) = false := by
  have e := (kw_names kws pos env).trans h
  generalize backToKw pos (keywordEach kws env) = l at e
  clear h
  induction l generalizing ks with
  | nil =>
    cases ks with
    | nil => exact ⟨rfl, rfl, rfl⟩
    | cons k ks => cases e
  | cons a l ih =>
    cases ks with
    | nil => cases e
    | cons k ks =>
      obtain ⟨nm, t⟩ := a
      rw [List.map_cons, List.map_cons, List.cons.injEq] at e
      obtain ⟨e1, e2⟩ := e
      obtain ⟨i1, i2, i3⟩ := ih ks e2
      have e1' : nm = some k := e1
      subst e1'
      refine ⟨?_, ?_, ?_⟩
      · rw [List.all_cons, i1]; rfl
      · rw [List.filterMap_cons, i2]
      · rw [List.any_cons, i3]; rfl
def JK (U : Ud) (k : Nat) (n : Nm) (ks : List Keyword) (w : WA) : Prop := ∀ X W, Gd U k n X W → PK X ks (upA X W w)
section
variable {U : Ud} {k : Nat} {n : Nm} {e : Expr} {es : List Expr} {pos p kpos : Pos} {x : Str} {ks : List Str} {kws : List Keyword} {we : WE} {wa wk : WA} {m : Nat} {l : List Nat} {nm : Option Str}
theorem k_nil : JK U k n [] wNil := fun X W g => uk_nil
theorem k_cons (ha : JE U k n e we) (hr : JK U k n kws wk) : JK U k n (⟨nm, e, kpos⟩ :: kws) (wCons we wk) := fun X W g => uk_cons (ha X W g) (hr X W g)
def ckB (n : Nm) (x : Str) (es : List Expr) (kws : List Keyword) (ks : List Str) : Bool := caB n x es && decide (kws.map (·.1) = ks.map some)
theorem m_callK {sp : SpD} {j : Nat} (f : FnHasK U.P U.w U.K U.mg U.base j x ks m l sp) (hj : j ≤ k) (h : ckB n x (e :: es) kws ks = true) (ha : JA U k n (e :: es) wa) (hk : JK U k n kws wk) : JE U k n (.Call (.Name x p) (e :: es) kws pos) (wCallK sp m ks.length l wa wk) := fun X W g => by
  obtain ⟨h, h4⟩ := He.ba h
  obtain ⟨h1, h⟩ := He.ba h
  obtain ⟨h2, h3⟩ := He.ba h
  obtain ⟨i1, i2, i3⟩ := kw_all kws ks (of_decide_eq_true h4) pos X.env
  refine ue_callK (k := j) ?_ ((g.room (nb h3)).mono hj) g.tk (g.gl (of_decide_eq_true (He.ba h1).1)) (dbg_ok (He.ba h1).2) (ha X W g) h2 (hk X W g) i1 i2 i3
  rw [g.eP, g.eW, g.eK, g.eM, g.eB]; exact f
theorem m_callK0 {sp : SpD} {j : Nat} (f : FnHasK U.P U.w U.K U.mg U.base j x ks 0 l sp) (hj : j ≤ k) (h : ckB n x [] kws ks = true) (hk : JK U k n kws wk) : JE U k n (.Call (.Name x p) [] kws pos) (wCallK sp 0 ks.length l wNil wk) := fun X W g => by
  obtain ⟨h, h4⟩ := He.ba h
  obtain ⟨h1, h⟩ := He.ba h
  obtain ⟨h2, h3⟩ := He.ba h
  obtain ⟨i1, i2, i3⟩ := kw_all kws ks (of_decide_eq_true h4) pos X.env
  refine ue_callK0 (k := j) ?_ ((g.room (nb h3)).mono hj) g.tk (g.gl (of_decide_eq_true (He.ba h1).1)) (dbg_ok (He.ba h1).2) (hk X W g) i1 i2 i3
  rw [g.eP, g.eW, g.eK, g.eM, g.eB]; exact f
end
section
variable {hd : Hd} {U : Ud}
/-- a def of the text, called by keywords -/
theorem Fct.fnK (F : Fct hd U) {k : Nat} {N ps : List Str} {w : WS} (i j : Nat) {d : He.DefD} {x : Str} (ks : List Str) (m : Nat) (l : List Nat) (h : hd.fn[i]? = some d) (ha : d.at_ = (x, none)) (hf : d.dfl = [] ∧ d.kwd = []) (hg : hd.fa[j]? = some (.glo x)) (S : FnScope N ps d.scope)
    (hb : ∀ (kV doc pm : Value) (an : Option Addr) (cdv ct : Value) (us ws : List Value), us.length = m → ws.length = ks.length → bindArgs (PySem.W.fnOf d.name d.qual d.params d.body d.scope .none kV doc pm an cdv ct) ⟨us, ks.zip ws⟩ = pure (ps.zip (ord l (us ++ ws))))
    (hk : JSs U k ⟨N, d.scope, fun _ => true, false, none, true⟩ d.body w) : FnHasK U.P U.w U.K U.mg U.base (k + 1) x ks m l (spW N ps.length w) := by
  obtain ⟨fd, D⟩ := F.says.1.1.def_ i h
  have e1 : d.dvs U.K = [] := by unfold He.DefD.dvs; rw [hf.1]; rfl
  have e2 : d.kws U.K = [] := by unfold He.DefD.kws; rw [hf.2]; rfl
  rw [e1, e2, ha] at D
  refine ⟨_, fd, ps, F.glo j hg, fn_okD D S hk, D.kp, ?_⟩
  obtain ⟨oc, od, dV, kV, doc, pm, an, cdv, ct, osl, rfl, lk, hcd, hD, hK⟩ := D.ex
  rcases hD with ⟨_, rfl⟩ | ⟨e, _⟩
  · exact hb kV doc pm an cdv ct
  · exact absurd rfl e
end
end Fg
/-! Fg24: dicts and texts walked, list of anything, sorted of alike data. -/
namespace Fg
open PySem PySem.Spec L2
open PyProof.Rows hiding St
/-! ### a value's reading is one -/
def bk : Value → V
  | .none => .non
  | .bool b => .bl b
  | .int i _ => .int i
  | .str x _ => .str x
  | .bytes b _ => .byt b
  | .float b _ => .flt b
  | .ref a => .ref a
  | .type n => .ty n
  | _ => .non
theorem bk_of {x : V} {u : Value} (h : RelV x u) : bk u = x := by
  cases x <;> first | (cases h; rfl) | (obtain ⟨t, rfl⟩ := h; rfl)
theorem rel_one {x y : V} {u : Value} (h : RelV x u) (g : RelV y u) : x = y := (bk_of h).symm.trans (bk_of g)
/-! ### the keys of a dict -/
def Itx (a : Addr) (ob : Obj) (es : List DictEntry) : It :=
  ⟨fun i G => G a = some (rawO a ob) ∧ i < es.length, fun i G x G' => G' = G ∧ ∃ en, es[i]? = some en ∧ RelV x en.key, fun i G => G a = some (rawO a ob) ∧ es.length ≤ i⟩
theorem turn_raw {P : Program} {w : World} {K : PySem.W.Frag} {tg : Expr} {a : Addr} {ob : Obj} {es : List DictEntry} {ep : Nat} (it : Addr) (hod : ob.data = .dict es.toArray ep) (hk : ∀ en ∈ es, ∃ y, RelV y en.key) :
    Turn P w K tg (Itx a ob es) [it] it (fun i hp => hp.IsKeyIter it a i es.length ep) where
  mem := by simp
  obj := fun i hp q c hc => by
    obtain rfl : c = it := by simpa using hc
    obtain ⟨oi, e, cl, dd⟩ := q
    exact ⟨oi, e, fun v z => by rw [dd] at z; cases z⟩
  keep := fun i hp hp' q k => q.at fun oi e => k it (by simp) oi e
  item := by
    intro X e1 e2 e3 hc i pins s σ G E I hf q hg
    subst e1 e2 e3
    obtain ⟨hd, hi⟩ := hg
    obtain ⟨g0, g1, g2, g3, g4, g5⟩ := hf it (by simp)
    have hen : es[i]? = some es[i] := List.getElem?_eq_getElem hi
    obtain ⟨y, ry⟩ := hk es[i] (List.getElem_mem hi)
    refine next_key_item q (raw_get I hd) hod (by simp) (en := es[i]) (by simpa using hen) fun hp' q' sb => ?_
    have I1 : Inv X pins σ G { s with heap := hp' } := I.turned (t' := s.toks) (fun c oc hc e => (sb.2 c hc).trans e) g0 g1 g3 g4 g5
    obtain ⟨oi, e, cl, dd⟩ := id q'
    exact ⟨_, rfl, go_of (s := { s with heap := hp' }) e cl dd (by decide) ⟨y, G, I1, ry, ⟨rfl, es[i], hen, ry⟩, q', fun c hc => (hf c hc).1⟩⟩
  done := by
    intro X e1 e2 e3 hc i pins s σ G E I hf q hg
    subst e1 e2 e3
    obtain ⟨hd, hi⟩ := hg
    obtain ⟨g0, g1, g2, g3, g4, g5⟩ := hf it (by simp)
    exact next_key_end (I.ok.hd hc) q (raw_get I hd) hod (by simp) hi fun hp' eb => ⟨rfl, I.turned (t' := s.toks) (fun c oc hc e => eb c oc hc e) g0 g1 g3 g4 g5⟩
  self := fun A i s Q E q h => wpAny_pyIter_keyiter q h
/-! ### what is walked: its items, what must stay -/
def signs (z : Str) : List D := z.cps.toList.map fun c => .str ⟨#[c]⟩
def walkD (M : MM) : D → Option (List D × (MM → Prop))
  | .tup ds => some (ds, fun _ => True)
  | .rol ds => some (ds, fun _ => True)
  | .str z => some (signs z, fun _ => True)
  | .ref a => match M a with
    | some (.lst ds) => some (ds, fun M' => M' a = some (.lst ds))
    | some (.dct o kvs) => some (kvs.map (·.1), fun M' => M' a = some (.dct o kvs))
    | _ => none
  | _ => none
def wWk (w : WE) : WI := fun ρ M K E => w ρ M (fun x M1 => ∃ ds st, walkD M1 x = some (ds, st) ∧ K ds st M1) E
section
variable {X : Cx} {W : WX} {tg e : Expr} {w : WE}
theorem wk_sq {H : Hp} {a : Addr} {ds : List D} {st : MM → Prop} (h : ∀ (H' : Hp) (M' : MM), Stb H H' → RMx X H' M' → st M' → ∃ vs, SqL X.K H' a vs ∧ RDs X.K H' ds vs) : Wk X (Itl X.K a) H ds st := by
  intro i H' M' s m q
  obtain ⟨vs, h1, h2⟩ := h H' M' s m q
  refine ⟨fun e => ⟨vs, h1, by rw [← h2.length]; omega⟩, fun d hd => ?_⟩
  obtain ⟨y, h3, h4⟩ := h2.get hd
  refine ⟨⟨vs, y, h1, h3⟩, fun x' H2 hy => ?_⟩
  obtain ⟨e, hy⟩ := hy
  subst e
  have h5 := hy vs h1
  rw [h3] at h5
  cases h5
  exact ⟨Stb.refl _, m, h4⟩
theorem wk_str {H : Hp} {z : Str} {st : MM → Prop} : Wk X (Its z) H (signs z) st := by
  intro i H' M' s m q
  have hl : (signs z).length = z.cps.size := by unfold signs; simp
  refine ⟨fun e => by show z.cps.size ≤ i; omega, fun d hd => ?_⟩
  have hi : i < z.cps.size := by
    have := (List.getElem?_eq_some_iff.mp hd).1
    omega
  refine ⟨hi, fun x' H2 hy => ?_⟩
  obtain ⟨e, c, hc, e2⟩ := hy
  subst e e2
  have ed : d = .str ⟨#[c]⟩ := by
    unfold signs at hd
    rw [List.getElem?_map, Array.getElem?_toList, hc] at hd
    cases hd; rfl
  subst ed
  exact ⟨Stb.refl _, m, .str _⟩
theorem ren_key {K : PySem.W.Frag} {wd : World} {H : Hp} : ∀ {kvs : List (D × D)} {es : List DictEntry}, Paired (REn K wd H) kvs es → ∀ en ∈ es, ∃ y, RelV y en.key
  | _, _, .nil, _, h => nomatch h
  | _, _, .cons h t, en, hm => by
    rcases List.mem_cons.mp hm with rfl | hm
    · obtain ⟨⟨k, y, _, _, _, ry, _⟩, _⟩ := h
      exact ⟨y, ry⟩
    · exact ren_key t en hm
theorem wk_dct {H : Hp} {a : Addr} {ob : Obj} {kvs : List (D × D)} {es : List DictEntry} {ep : Nat} (hd : ob.data = .dict es.toArray ep) (hl : es.length = kvs.length) : Wk X (Itx a ob es) H (kvs.map (·.1)) (fun M' => M' a = some (.dct ob kvs)) := by
  intro i H' M' s m q
  obtain ⟨es', ep', h1, _, g2, _, _, _, _, h5⟩ := m a _ q
  obtain ⟨e1, _⟩ := dict_ep g2 hd
  have e2 : es = es' := by simpa using e1
  subst e2
  refine ⟨fun e => ⟨h1, by rw [hl]; simp at e; omega⟩, fun d hd' => ?_⟩
  rw [List.getElem?_map] at hd'
  obtain ⟨p, hp, ep2⟩ := Option.map_eq_some_iff.mp hd'
  obtain ⟨en, hen, re⟩ := paired_get h5 hp
  refine ⟨⟨h1, (List.getElem?_eq_some_iff.mp hen).1⟩, fun x' H2 hy => ?_⟩
  obtain ⟨e, en', hen', rx⟩ := hy
  subst e
  rw [hen] at hen'
  cases hen'
  obtain ⟨⟨k, y, _, _, _, ry, rd⟩, _⟩ := re
  rw [← rel_one ry rx, ← ep2]
  exact ⟨Stb.refl _, m, rd⟩
theorem ui_wk (he : PE X e (upE X W w)) : PI X tg e (upI X W (wWk w)) := by
  refine ⟨fun pins s σ H R I h => ?_⟩
  obtain ⟨ρ, M, K0, E0, r, m, t, q, xg⟩ := h
  refine thn (he.run pins s σ H (fun x H1 => ∃ d M1 ds st, RD X.K H1 d x ∧ RMx X H1 M1 ∧ walkD M1 d = some (ds, st) ∧ Stb H H1 ∧ K0 ds st M1) I ⟨ρ, M, _, E0, r, m, t, fun d M1 t1 y H1 s1 rd m1 => ?_, xg⟩) fun v s1 hh => ?_
  · obtain ⟨ds, st, h1, h2⟩ := t1
    exact ⟨d, M1, ds, st, rd, m1, h1, s1, h2⟩
  · obtain ⟨x, H1, I1, r1, d, M1, ds, st, rd, m1, h1, sH, h2⟩ := hh
    cases rd with
    | str z =>
      cases h1
      obtain ⟨t, rfl⟩ := r1
      cases ha : z.cps.all (· < 128)
      · exact wpAny_pyIter_wide ha (pi_one (tk := s1.toks) I1 _ (turn_str _ z t "str_iterator" (.inr rfl)) ⟨_, Heap.get?_push_size _ rfl, rfl, rfl⟩ (q _ _ _ h2 _ _ sH m1 wk_str))
      · exact wpAny_pyIter_ascii ha (pi_one (tk := s1.toks) I1 _ (turn_str _ z t "str_ascii_iterator" (.inl rfl)) ⟨_, Heap.get?_push_size _ rfl, rfl, rfl⟩ (q _ _ _ h2 _ _ sH m1 wk_str))
    | @tup a vs ds' g1 g2 =>
      cases h1
      cases r1
      obtain ⟨its, rv, p, hz⟩ := I1.tuple g1.t
      exact wpAny_pyIter_tuple (show s1.heap.IsTuple a its.toArray from p) (pi_one (tk := s1.toks) I1 _ (turn_tuple a _) ⟨_, Heap.get?_push_size _ rfl, rfl, rfl⟩ (q _ _ _ h2 _ _ sH m1 (wk_tup g1 g2)))
    | @rol a vs ds' g1 g2 =>
      cases h1
      cases r1
      obtain ⟨its, rv, p, hz⟩ := I1.list g1.sq
      exact wpAny_pyIter_list p.isList (pi_one (tk := s1.toks) I1 _ (turn_list a _) ⟨_, Heap.get?_push_size _ rfl, rfl, rfl⟩ (q _ _ _ h2 _ _ sH m1 (wk_sq fun H' M' s' m' _ => ⟨vs, (g1.stb s').sq, g2.stb s'⟩)))
    | ref a =>
      cases r1
      unfold walkD at h1
      cases em : M1 a with
      | none => simp only [em] at h1; cases h1
      | some ob =>
        cases ob with
        | lst es =>
          simp only [em] at h1
          cases h1
          obtain ⟨vs, g1, g2⟩ := m1 a _ em
          obtain ⟨its, rv, p, hz⟩ := I1.list (SqL.of g1)
          refine wpAny_pyIter_list p.isList (pi_one (tk := s1.toks) I1 _ (turn_list a _) ⟨_, Heap.get?_push_size _ rfl, rfl, rfl⟩ (q _ _ _ h2 _ _ sH m1 (wk_sq fun H' M' s' m' q' => ?_)))
          obtain ⟨vs3, k1, k2⟩ := m' a _ q'
          exact ⟨vs3, SqL.of k1, k2⟩
        | dct ob kvs =>
          simp only [em] at h1
          cases h1
          obtain ⟨es, ep, g1, g2, g3, g4, _, _, _, g5⟩ := m1 a _ em
          have hl := Paired.length g5
          refine iter_keys g4 (raw_get I1 g1) g2 g3 (pi_one (tk := s1.toks) I1 _ (turn_raw _ g3 (ren_key g5)) ⟨_, Heap.get?_push_size _ rfl, rfl, ?_⟩ (q _ _ _ h2 _ _ sH m1 (wk_dct g3 hl.symm)))
          rw [List.size_toArray] <;> rfl
        | ins _ _ => simp only [em] at h1; cases h1
        | xd _ _ => simp only [em] at h1; cases h1
    | _ => cases h1
/-! ### list(x) -/
def cLst : CD := fun xs M Q => ∃ x ds st, xs = [x] ∧ (∀ z, x ≠ .str z) ∧ walkD M x = some (ds, st) ∧ ∀ p, M p = none → Q (.ref p) (up M p (.lst ds))
theorem ren_keys {K : PySem.W.Frag} {wd : World} {H : Hp} : ∀ {kvs : List (D × D)} {es : List DictEntry}, Paired (REn K wd H) kvs es → ∃ vs, Vals vs (es.map (·.key)) ∧ RDs K H (kvs.map (·.1)) vs
  | _, _, .nil => ⟨[], .nil, .nil⟩
  | _, _, .cons h t => by
    obtain ⟨vs, h1, h2⟩ := ren_keys t
    obtain ⟨⟨k, y, _, _, _, ry, rd⟩, _⟩ := h
    exact ⟨y :: vs, .cons ry h1, .cons rd h2⟩
theorem keys_got {es : List DictEntry} {acc : Array Value} (h : ItemsOf (fun i v => ∃ en : DictEntry, es.toArray[i]? = some en ∧ v = en.key) acc es.toArray.size) : acc.toList = es.map (·.key) := by
  have hl : acc.toList.length = es.length := by rw [Array.length_toList, h.1, List.size_toArray]
  apply List.ext_getElem?
  intro j
  rw [List.getElem?_map]
  cases hj : acc.toList[j]? with
  | none =>
    have h1 := List.getElem?_eq_none_iff.mp hj
    rw [List.getElem?_eq_none (by omega)]
    rfl
  | some v =>
    obtain ⟨en, hen, hv⟩ := h.2 j v (by rw [← Array.getElem?_toList]; exact hj)
    have e : es[j]? = some en := by simpa using hen
    rw [e, hv]
    rfl
theorem cr_cLst (hc : X.calm = true) : CallR X (.type "list") (upC X cLst) := call_up fun pins s σ H M ds xs us Q Q0 I m rd rv ⟨x, es, st, e, hns, hw, t⟩ q => by
  subst e
  obtain ⟨v, rfl, h⟩ := rds1 rd
  have seq : ∀ {a : Addr} {vs : List V}, v = .ref a → (SqL X.K H a vs ∨ SqT X.K H a vs) → RDs X.K H es vs → wpAny (model X.prog X.w) X.A (call (.type "list") us) (EP X pins σ Q) X.xe s := fun {a vs} ev h1 h2 => by
    subst ev
    exact call_list_of pins s σ H _ us Q I rv ⟨a, vs, rfl, h1, fun p hp => q _ _ (t p (m.fresh hp)) _ _ (Stb.new hp) (.ref p) (m.new hp ⟨vs, upd_same, RDs.stb (Stb.new hp) h2⟩)⟩
  cases h with
  | str z => exact absurd rfl (hns z)
  | @tup a vs ds' g1 g2 => cases hw; exact seq rfl (.inr g1.t) g2
  | @rol a vs ds' g1 g2 => cases hw; exact seq rfl (.inl g1.sq) g2
  | ref a =>
    unfold walkD at hw
    cases em : M a with
    | none => simp only [em] at hw; cases hw
    | some ob =>
      cases ob with
      | lst ds' =>
        simp only [em] at hw
        cases hw
        obtain ⟨vs, g1, g2⟩ := m a _ em
        exact seq rfl (.inl (SqL.of g1)) g2
      | dct ob kvs =>
        simp only [em] at hw
        cases hw
        obtain ⟨des, ep, g1, g2, g3, g4, g6, _, _, g5⟩ := m a _ em
        have hl := Paired.length g5
        obtain ⟨u, rfl, ru⟩ := vals1 rv
        obtain rfl : u = Value.ref a := ru
        refine PySem.W.kdl_call (kdl_raw g4 g2 g3) (I.ok.hd hc) (raw_get I g1) (by rw [List.size_toArray]; omega) fun h' tk acc' c' kp e it => ?_
        have ea := keys_got it
        obtain ⟨vs, k1, k2⟩ := ren_keys g5
        have hp := I.hok.fresh (Nat.le_refl s.heap.objs.size)
        have hz : vs.length ≤ sizeLine := by rw [← k2.length, List.length_map]; exact g6
        refine ⟨.ref s.heap.objs.size, _, I.laid (t' := tk) (o := .lst vs) kp (Nat.le_refl _) ⟨hz, acc'.toList, c', by rw [ea]; exact k1, by rw [Array.toArray_toList]; exact e⟩, rfl, ?_⟩
        exact q _ _ (t _ (m.fresh hp)) _ _ (Stb.new hp) (.ref _) (m.new (o := .lst (kvs.map (·.1))) hp ⟨vs, upd_same, RDs.stb (Stb.new hp) k2⟩)
      | ins _ _ => simp only [em] at hw; cases hw
      | xd _ _ => simp only [em] at hw; cases hw
  | _ => cases hw
/-! ### sorted -/
def leD (x y : D) : Bool := PySem.W.dataLe false toP x y
structure SortOk (ds : List D) : Prop where
  dat : dats ds = true
  al : ∀ d ∈ ds, ∀ e ∈ ds, PySem.W.alike (toP d) (toP e) = true
  one : (∀ d ∈ ds, ∃ x r, d = .tup (x :: r)) ∨ ∀ d ∈ ds, isAt d = true
  dp : deps ds ≤ 50
def cSorted : CD := fun xs M Q => ∃ x ds, xs = [x] ∧ lstOf M x = some ds ∧ SortOk ds ∧ ∀ p, M p = none → Q (.ref p) (up M p (.lst (ds.mergeSort leD)))
open PySem.W (EachIs) in
theorem each_of {K : PySem.W.Frag} {H : Hp} : ∀ {ds : List D} {vs : List V} {us : List Value}, RDs K H ds vs → Vals vs us → EachIs (fun u d => ∃ y, RelV y u ∧ RD K H d y) us ds
  | _, _, _, .nil, .nil => .nil
  | _, _, _, .cons h t, .cons r rs => .cons ⟨_, r, h⟩ (each_of t rs)
open PySem.W (EachIs) in
theorem of_each {K : PySem.W.Frag} {H : Hp} : ∀ {ds : List D} {us : List Value}, EachIs (fun u d => ∃ y, RelV y u ∧ RD K H d y) us ds → ∃ vs, RDs K H ds vs ∧ Vals vs us
  | _, _, .nil => ⟨[], .nil, .nil⟩
  | _, _, .cons ⟨y, ry, rd⟩ t => let ⟨vs, h1, h2⟩ := of_each t; ⟨y :: vs, .cons rd h1, .cons ry h2⟩
theorem dat_of {ds : List D} (h : dats ds = true) {d : D} (hd : d ∈ ds) : dat d = true := by
  induction ds with
  | nil => cases hd
  | cons a r ih =>
    rw [dats, Bool.and_eq_true] at h
    rcases List.mem_cons.mp hd with rfl | hd
    · exact h.1
    · exact ih h.2 hd
theorem dep_of {ds : List D} {d : D} (hd : d ∈ ds) : dep d ≤ deps ds := by
  induction ds with
  | nil => cases hd
  | cons a r ih =>
    rw [deps]
    rcases List.mem_cons.mp hd with rfl | hd
    · omega
    · have := ih hd; omega
theorem mem_toPs {ds : List D} {p : PyData} (h : p ∈ toPs ds) : ∃ d ∈ ds, p = toP d := by
  rw [toPs_map] at h
  obtain ⟨d, hd, e⟩ := List.mem_map.mp h
  exact ⟨d, hd, e.symm⟩
theorem sortable_of {ds : List D} (h : SortOk ds) : PySem.W.AllAlike (toPs ds) ∧ PySem.W.Sortable (toPs ds) := by
  refine ⟨fun p hp q hq => ?_, ?_⟩
  · obtain ⟨d, hd, rfl⟩ := mem_toPs hp
    obtain ⟨e, he, rfl⟩ := mem_toPs hq
    exact h.al d hd e he
  · rcases h.one with o | o
    · refine .inl fun p hp => ?_
      obtain ⟨d, hd, rfl⟩ := mem_toPs hp
      obtain ⟨x, r, rfl⟩ := o d hd
      exact ⟨toP x, toPs r, by rw [toP, toPs]⟩
    · refine .inr fun p hp => ?_
      obtain ⟨d, hd, rfl⟩ := mem_toPs hp
      have := o d hd
      cases d <;> simp [isAt, toP] at this ⊢
theorem cr_cSorted (hu : X.A.units + 64 < cLine) : CallR X (.builtin "sorted") (upC X cSorted) := call_up fun pins s σ H M ds xs us Q Q0 I m rd rv ⟨x, es, e, hn, ok, t⟩ q => by
  subst e
  obtain ⟨v, rfl, h⟩ := rds1 rd
  obtain ⟨a, vs, rfl, h1, h2⟩ := lstOf_sq m h hn
  rw [Vals.ref1 rv]
  obtain ⟨its, rv', hl, hz⟩ := I.list h1
  have hz' : its.length ≤ sizeLine := by rw [← rv'.length]; exact hz
  have ea := each_of h2 rv'
  obtain ⟨al, so⟩ := sortable_of ok
  have er : PySem.W.EachIs (fun u d => ∃ as, PySem.Reads (PySem.W.sortingHeap (PySem.W.copyHeap s.heap its) (s.heap.objs.size + 1) its) u (toP d) as) its es := (PySem.W.each_mem ea).mono fun u d ⟨⟨y, ry, rdy⟩, hd⟩ => by
    obtain ⟨as, q1⟩ := reads_of I rdy (dat_of ok.dat hd) ry
    exact ⟨as, PyProof.Rows.Reads.keeps (fun b o e => PySem.W.sorting_copy_old e) q1⟩
  have eP := PySem.W.each_map (R := fun u d => ∃ as, PySem.Reads (PySem.W.sortingHeap (PySem.W.copyHeap s.heap its) (s.heap.objs.size + 1) its) u d as) toP er
  rw [← toPs_map] at eP
  refine PySem.W.sorted_vals hl.isList (PySem.W.SortsAt.data (s := { s with heap := PySem.W.sortingHeap (PySem.W.copyHeap s.heap its) (s.heap.objs.size + 1) its }) eP al so fun p hp => ?_) hz' ?_
  · obtain ⟨d, hd, rfl⟩ := mem_toPs hp
    have := dep_of hd
    have := ok.dp
    rw [dep_toP]
    show X.A.in1.in1.units + dep d < cLine
    show X.A.units + 1 + 1 + dep d < cLine
    omega
  · have so2 := PySem.W.sortVals_data (enc := toP) (bs := es) false ea er (by rw [← toPs_map]; exact al)
    rw [← toPs_map] at so2
    obtain ⟨vs2, k1, k2⟩ := of_each so2
    obtain ⟨ep, he'⟩ := PyProof.Rows.sortedAll_at s.heap its (PySem.W.sortVals (PySem.W.dataKind (PySem.W.sortingHeap (PySem.W.copyHeap s.heap its) (s.heap.objs.size + 1) its) (toPs es)) false its its).toArray
    have hp := I.hok.fresh (Nat.le_succ s.heap.objs.size)
    have hlen : vs2.length ≤ sizeLine := by
      rw [← k1.length, List.length_mergeSort, h2.length]
      exact hz
    refine ⟨.ref _, upd H (s.heap.objs.size + 1) (.lst vs2), I.laid (t' := s.toks) (fun _ _ => PyProof.Rows.sortedAll_old) (Nat.le_succ _) ⟨hlen, _, ep, k2, he'⟩, rfl, ?_⟩
    exact q _ _ (t _ (m.fresh hp)) _ _ (Stb.new hp) (.ref _) (m.new (o := .lst (es.mergeSort leD)) hp ⟨vs2, upd_same, RDs.stb (Stb.new hp) k1⟩)
end
end Fg
/-! Fg25: dicts made of pairs, displayed dicts. -/
namespace Fg
open PySem PySem.Spec L2
open PyProof.Rows hiding St
/-! ### pairs stored one behind another -/
def putP (kvs : List (D × D)) (p : D × D) : List (D × D) := match dkey p.1 with
  | some k => putKD kvs p.1 k p.2
  | none => kvs
def putAll (kvs ps : List (D × D)) : List (D × D) := ps.foldl putP kvs
structure PairsOk (ps : List (D × D)) : Prop where
  key : ∀ p ∈ ps, ∃ k, dkey p.1 = some k ∧ k.depth ≤ 8
  un : uni ps
theorem putP_eq {kvs : List (D × D)} {p : D × D} {k : NestedKey} (h : dkey p.1 = some k) : putP kvs p = putKD kvs p.1 k p.2 := by unfold putP; rw [h]
theorem putP_length (kvs : List (D × D)) (p : D × D) : (putP kvs p).length ≤ kvs.length + 1 := by
  unfold putP
  split
  · exact putKD_length _ _ _ _
  · omega
theorem putAll_length : ∀ (ps kvs : List (D × D)), (putAll kvs ps).length ≤ kvs.length + ps.length
  | [], _ => Nat.le_refl _
  | p :: r, kvs => by
    have h1 := putAll_length r (putP kvs p)
    have h2 := putP_length kvs p
    show (putAll (putP kvs p) r).length ≤ _
    rw [List.length_cons]; omega
theorem PairsOk.tail {p : D × D} {r : List (D × D)} (h : PairsOk (p :: r)) : PairsOk r := ⟨fun q hq => h.key q (List.mem_cons_of_mem _ hq), h.un.imp (fun u q hq => u q (List.mem_cons_of_mem _ hq)) fun u q hq => u q (List.mem_cons_of_mem _ hq)⟩
theorem putAll_nodup : ∀ {ps kvs : List (D × D)}, (kvs.map fun p => dkey p.1).Nodup → ((putAll kvs ps).map fun p => dkey p.1).Nodup
  | [], _, h => h
  | p :: r, kvs, h => by
    refine putAll_nodup (ps := r) (kvs := putP kvs p) ?_
    unfold putP
    split
    · rename_i k e
      exact put_nodup e h
    · exact h
theorem putAll_mem : ∀ {ps kvs : List (D × D)} {p : D × D}, p ∈ putAll kvs ps → (∃ q ∈ ps, q.1 = p.1) ∨ ∃ q ∈ kvs, q.1 = p.1
  | [], _, p, h => .inr ⟨p, h, rfl⟩
  | x :: r, kvs, p, h => by
    rcases putAll_mem (ps := r) (kvs := putP kvs x) h with ⟨q, hq, e⟩ | ⟨q, hq, e⟩
    · exact .inl ⟨q, List.mem_cons_of_mem _ hq, e⟩
    · unfold putP at hq
      split at hq
      · rename_i k ek
        rcases put_mem hq with e2 | ⟨z, hz, e2⟩
        · exact .inl ⟨x, List.mem_cons_self, e2.symm.trans e⟩
        · exact .inr ⟨z, hz, e2.trans e⟩
      · exact .inr ⟨q, hq, e⟩
theorem putAll_uni {ps : List (D × D)} (h : uni ps) : uni (putAll [] ps) := by
  rcases h with h | h
  · refine .inl fun p hp => ?_
    rcases putAll_mem hp with ⟨q, hq, e⟩ | ⟨q, hq, _⟩
    · rw [← e]; exact h q hq
    · cases hq
  · refine .inr fun p hp => ?_
    rcases putAll_mem hp with ⟨q, hq, e⟩ | ⟨q, hq, _⟩
    · rw [← e]; exact h q hq
    · cases hq
section
variable {X : Cx} {pins : List (Addr × Obj)} {σ : St} {H : Hp} {s : Shared}
theorem mergeA {K : PySem.W.Frag} : ∀ {ps : List (D × D)} {qs : List (Key × Value)} {kvs : List (D × D)} {vs : List (Key × Value)}, Paired (RA K H) ps qs → Paired (RA K H) kvs vs → Paired (RA K H) (putAll kvs ps) (merged vs qs)
  | _, _, _, _, .nil, h => h
  | _, _, kvs, vs, .cons (a := p) (b := q) ⟨e, y, ry, rd⟩ t, h => by
    refine mergeA (kvs := putP kvs p) (vs := stored vs q.1 q.2) t ?_
    rw [putP_eq (akey_dkey e)]
    exact put_A e ry rd h
theorem mergeT {w : World} {K : PySem.W.Frag} : ∀ {ps : List (D × D)} {qs : List (NestedKey × Addr × Value)} {kvs : List (D × D)} {xs : List (NestedKey × Addr × Value)}, Paired (RT w K H) ps qs → Paired (RT w K H) kvs xs → Paired (RT w K H) (putAll kvs ps) (storedAllH xs qs)
  | _, _, _, _, .nil, h => h
  | _, _, kvs, xs, .cons (a := p) (b := q) ⟨e, dp, rk, y, ry, rd⟩ t, h => by
    refine mergeT (kvs := putP kvs p) (xs := storedH xs q.1 q.2.1 q.2.2) t ?_
    rw [putP_eq e]
    exact put_T e dp rk ry rd h
/-- two values of a pair's tuple -/
theorem pair_vals {K : PySem.W.Frag} {H : Hp} {x y : D} {v : V} (r : RD K H (.tup [x, y]) v) : ∃ a vx vy, v = .ref a ∧ SqN K H a [vx, vy] ∧ RD K H x vx ∧ RD K H y vy := by
  cases r with
  | @tup a vs ds h1 h2 =>
    cases h2 with
    | cons h3 h4 => cases h4 with
      | cons h5 h6 =>
        cases h6
        exact ⟨a, _, _, rfl, h1, h3, h5⟩
/-- a row of pairs as the library has it -/
structure PRow (s : Shared) (H : Hp) (K : PySem.W.Frag) (ps : List (D × D)) (its : List Value) (Ts : List Addr) (qs : List (Value × Value)) : Prop where
  e : its = Ts.map Value.ref
  l : qs.length = ps.length
  at_ : ∀ (j : Nat) (k v : Value), qs[j]? = some (k, v) → ∃ T, Ts[j]? = some T ∧ PairAt s.heap T k v
  rel : Paired (fun p q => (∃ y, RelV y q.1 ∧ RD K H p.1 y) ∧ ∃ y, RelV y q.2 ∧ RD K H p.2 y) ps qs
theorem prow (I : Inv X pins σ H s) : ∀ {ps : List (D × D)} {vs : List V} {its : List Value}, RDs X.K H (ps.map fun p => .tup [p.1, p.2]) vs → Vals vs its → ∃ Ts qs, PRow s H X.K ps its Ts qs
  | [], _, _, r, rv => by
    cases r
    cases rv
    exact ⟨[], [], rfl, rfl, fun j k v h => by simp at h, .nil⟩
  | p :: ps, _, _, r, rv => by
    rw [List.map_cons] at r
    cases r with
    | cons r1 r2 => cases rv with
      | cons v1 v2 =>
        obtain ⟨Ts, qs, ih⟩ := prow I r2 v2
        obtain ⟨a, vx, vy, rfl, hs, rx, ry⟩ := pair_vals r1
        cases v1
        obtain ⟨us, ru, pt, _⟩ := I.tuple hs.t
        obtain ⟨ux, uy, rfl, e1, e2⟩ := vals2 ru
        refine ⟨a :: Ts, (ux, uy) :: qs, by rw [ih.e]; rfl, by rw [List.length_cons, List.length_cons, ih.l], fun j k v h => ?_, .cons ⟨⟨vx, e1, rx⟩, vy, e2, ry⟩ ih.rel⟩
        cases j with
        | zero =>
          simp at h
          obtain ⟨rfl, rfl⟩ := h
          exact ⟨a, rfl, .inl pt⟩
        | succ j =>
          obtain ⟨T, h1, h2⟩ := ih.at_ j k v (by simpa using h)
          exact ⟨T, by simpa using h1, h2⟩
theorem prowA {K : PySem.W.Frag} {P : Program} {w : World} : ∀ {ps : List (D × D)} {qs : List (Value × Value)}, Paired (fun p q => (∃ y, RelV y q.1 ∧ RD K H p.1 y) ∧ ∃ y, RelV y q.2 ∧ RD K H p.2 y) ps qs → (∀ p ∈ ps, isAt p.1 = true) →
    ∃ rs : List (Key × Value), rs.length = ps.length ∧ (∀ (i : Nat) (k v : Value), qs[i]? = some (k, v) → ∃ kk, rs[i]? = some (kk, v) ∧ (mixKind P w).is kk k = true) ∧ Paired (RA K H) ps rs
  | _, _, .nil, _ => ⟨[], rfl, fun i k v h => by simp at h, .nil⟩
  | _, _, .cons (a := p) (b := q) ⟨⟨y, ry, rd⟩, z, rz, dz⟩ t, a => by
    obtain ⟨rs, h1, h2, h3⟩ := prowA (P := P) (w := w) t fun p hp => a p (List.mem_cons_of_mem _ hp)
    obtain ⟨kk, e1, e2⟩ := akey_of (a p List.mem_cons_self)
    refine ⟨(kk, q.2) :: rs, by rw [List.length_cons, List.length_cons, h1], fun i k v h => ?_, .cons ⟨e1, z, rz, dz⟩ h3⟩
    cases i with
    | zero =>
      simp at h
      subst h
      exact ⟨kk, rfl, akey_rel rd e1 ry⟩
    | succ i =>
      obtain ⟨k2, g1, g2⟩ := h2 i k v (by simpa using h)
      exact ⟨k2, by simpa using g1, g2⟩
theorem prowT (I : Inv X pins σ H s) : ∀ {ps : List (D × D)} {qs : List (Value × Value)}, Paired (fun p q => (∃ y, RelV y q.1 ∧ RD X.K H p.1 y) ∧ ∃ y, RelV y q.2 ∧ RD X.K H p.2 y) ps qs → (∀ p ∈ ps, isTu p.1 = true) → (∀ p ∈ ps, ∃ k, dkey p.1 = some k ∧ k.depth ≤ 8) →
    ∃ rs : List (NestedKey × Addr × Value), rs.length = ps.length ∧ (∀ (i : Nat) (k v : Value), qs[i]? = some (k, v) → ∃ kk b, rs[i]? = some (kk, b, v) ∧ k = .ref b) ∧ (∀ x ∈ rs, NestedIs s.heap x.1 (.ref x.2.1) ∧ x.1.depth ≤ 8) ∧ Paired (RT X.w X.K H) ps rs
  | _, _, .nil, _, _ => ⟨[], rfl, fun i k v h => by simp at h, fun x h => by simp at h, .nil⟩
  | _, _, .cons (a := p) (b := q) ⟨⟨y, ry, rd⟩, z, rz, dz⟩ t, a, ky => by
    obtain ⟨rs, h1, h2, h3, h4⟩ := prowT I t (fun p hp => a p (List.mem_cons_of_mem _ hp)) fun p hp => ky p (List.mem_cons_of_mem _ hp)
    obtain ⟨kk, e1, dp⟩ := ky p List.mem_cons_self
    obtain ⟨b, rfl, eb⟩ := tu_ref rd (a p List.mem_cons_self) ry
    have hn := nested_of I rd e1 ry
    rw [eb] at hn
    refine ⟨(kk, b, q.2) :: rs, by rw [List.length_cons, List.length_cons, h1], fun i k v h => ?_, fun x hx => ?_, .cons ⟨e1, dp, rd, z, rz, dz⟩ h4⟩
    · cases i with
      | zero =>
        simp at h
        subst h
        exact ⟨kk, b, rfl, eb⟩
      | succ i =>
        obtain ⟨k2, b2, g1, g2⟩ := h2 i k v (by simpa using h)
        exact ⟨k2, b2, by simpa using g1, g2⟩
    · rcases List.mem_cons.mp hx with rfl | hx
      · exact ⟨hn, dp⟩
      · exact h3 x hx
/-! ### dict(pairs) -/
def cDict : CD := fun xs M Q => ∃ x ps, xs = [x] ∧ itemsOf M x = some (ps.map fun p => .tup [p.1, p.2]) ∧ PairsOk ps ∧ ∀ p o, M p = none → Q (.ref p) (up M p (.dct o (putAll [] ps)))
/-- a sequence that has no dict -/
theorem plain_of (I : Inv X pins σ H s) {a : Addr} {vs : List V} (h : SqL X.K H a vs ∨ SqN X.K H a vs) : ∃ its : List Value, Vals vs its ∧ (PlainSeq "list" s.heap a its.toArray ∨ PlainSeq "tuple" s.heap a its.toArray) ∧ vs.length ≤ sizeLine := by
  rcases h with h | ⟨o, h, hd⟩ | ⟨o, its, n, h1, h2, h3, h4, h5, r⟩
  · obtain ⟨its, rv, ⟨o, n, g1, g2, g3, g4⟩, hz⟩ := I.list h
    exact ⟨its, rv, .inl ⟨o, n, g1, g2, g3, g4⟩, hz⟩
  · obtain ⟨g1, hz, its, rv, ⟨o2, g2, g3, n, g4⟩⟩ := I.hok a _ h
    rw [g1] at g2
    cases g2
    exact ⟨its, rv, .inr ⟨o, n, g1, g3, hd, g4⟩, hz⟩
  · refine ⟨its.toList, r, .inr ⟨o, n, I.kIn a o h1, h2, h3, by simpa using h4⟩, ?_⟩
    have z := r.length
    simp only [Array.length_toList] at z
    omega
theorem cr_cDict (hc : X.calm = true) (hu : X.A.units + 64 < cLine) : CallR X (.type "dict") (upC X cDict) := call_up fun pins s σ H M ds xs us Q Q0 I m rd rv ⟨x, ps, e, hn, ok, t⟩ q => by
  subst e
  obtain ⟨v, rfl, h⟩ := rds1 rd
  obtain ⟨a, vs, rfl, h1, h2⟩ := items_sq m h hn
  rw [Vals.ref1 rv]
  obtain ⟨its, rv', pl, hz⟩ := plain_of I h1
  obtain ⟨Ts, qs, pr⟩ := prow I h2 rv'
  have lp : ps.length = vs.length := by rw [← h2.length, List.length_map]
  have lz : qs.length ≤ sizeLine := by rw [pr.l, lp]; exact hz
  have pit : PairItems s.heap its.toArray (fun j => Ts.getD j 0) qs := by
    refine ⟨by rw [List.size_toArray, ← rv'.length, ← lp, pr.l], fun j k v e => ?_⟩
    obtain ⟨T, g1, g2⟩ := pr.at_ j k v e
    have eT : Ts.getD j 0 = T := by rw [List.getD_eq_getElem?_getD, g1]; rfl
    refine ⟨?_, by show PairAt s.heap (Ts.getD j 0) k v; rw [eT]; exact g2⟩
    show its.toArray[j]? = some (.ref (Ts.getD j 0))
    rw [eT, pr.e]
    simp [g1]
  obtain ⟨T, fp, OK, P, okH⟩ : ∃ T fp OK, PairArg X.prog X.w T a fp [] qs.length (PairRel qs) OK ∧ OK s.heap := by
    rcases pl with pl | pl
    · exact ⟨_, _, _, PairArg.list a its.toArray _ qs, pl, pit⟩
    · exact ⟨_, _, _, PairArg.tuple a its.toArray _ qs, pl, pit⟩
  have hm : (s.heap.objs.size == sysModules) = false := sys_no I (Nat.le_refl _)
  have hp := I.hok.fresh (Nat.le_refl s.heap.objs.size)
  have fin : ∀ (h' : Heap) (tk : Nat) (o : Obj) (es : List DictEntry) (ep : Nat), h'.get? s.heap.objs.size = some o → o.ExactDict → o.data = .dict es.toArray ep → Paired (REn X.K X.w H) (putAll [] ps) es → (∀ b o, s.heap.get? b = some o → h'.get? b = some o) → EP X pins σ Q (.ref s.heap.objs.size) { s with heap := h', toks := tk } := fun h' tk o es ep g1 g2 g3 g4 kp => by
    have lA : (putAll [] ps).length ≤ sizeLine := by
      have := putAll_length ps []
      rw [List.length_nil] at this
      omega
    refine ⟨.ref s.heap.objs.size, _, I.laid (t' := tk) kp (Nat.le_refl _) (raw_ok g1), rfl, ?_⟩
    exact q _ _ (t _ o (m.fresh hp)) _ _ (Stb.new hp) (.ref _) (m.new (o := .dct o (putAll [] ps)) hp ⟨es, ep, upd_same, g2, g3, hm, lA, putAll_uni ok.un, putAll_nodup List.nodup_nil, Paired.mapP g4 fun _ _ z => z.stb (Stb.new hp)⟩)
  rcases ok.un with hk | hk
  · obtain ⟨rs, l, ha, rel⟩ := prowA (P := X.prog) (w := X.w) pr.rel hk
    refine call_dict_pairs (knd := mixKind X.prog X.w) (kvs := rs) P (I.ok.hd hc) okH ⟨by rw [l, pr.l], fun i k v e => ha i k v e⟩ lz fun h' tk hd kp => ?_
    obtain ⟨o, es, ep, g1, g2, g3, g4, g5, g6⟩ := hd
    exact fin h' tk o es.toList ep g1 g2 (by rw [g3]) (fromA g5 (fun e he => g4 e (by simpa using he)) (mergeA rel .nil)) fun b o e => kp b o (by simp) e
  · obtain ⟨rs, l, ha, hs, rel⟩ := prowT I pr.rel hk ok.key
    refine call_dict_pairsH (knd := nestedKind X.prog X.w) (ps := rs) P (I.ok.hd hc) (by show X.A.units + 1 + 1 + 8 < cLine; omega) okH ⟨by rw [l, pr.l], fun i k v e => ha i k v e⟩ (fun h' kp x hx => ?_) lz fun h' tk hd kp => ?_
    · obtain ⟨g1, g2⟩ := hs x hx
      exact ⟨g1.at (fun b o vs n e _ => kp b o (Nat.ne_of_lt (Heap.lt_size e)) (by simp) e) _ _, g2⟩
    · obtain ⟨o, es, ep, g1, g2, g3, g4, g5, g6⟩ := hd
      refine fin h' tk o es.toList ep g1 g2 (by rw [g3]) ?_ fun b o e => kp b o (by simp) e
      rw [g4]
      exact fromT (mergeT rel .nil)
end
end Fg
/-! Fg26: dict comprehensions. -/
namespace Fg
open PySem PySem.Spec L2
open PyProof.Rows hiding St
/-! ### a store into the dict that a block makes -/
abbrev TStore := Addr → V → V → Hp → (Hp → Prop) → Prop
structure PStore (X : Cx) (ts : TStore) : Prop where
  run : ∀ (pins : List (Addr × Obj)) (s : Shared) (σ : St) (H : Hp) (a : Addr) (y z : V) (u r : Value) (Q : Hp → Prop), Inv X pins σ H s → RelV y u → RelV z r → ts a y z H Q → ∀ E : Value → Shared → Prop,
    wpAny (model X.prog X.w) X.A (dictSet a u r) (fun _ s' => ∃ H', Inv X pins σ H' s' ∧ Q H') E s
def tDcR (wi : TI) (g : TG) (tt : TT) (tk tv : TE) (ts : TStore) (vs : List Nat) : TE := fun σ H Q => wi σ H fun J H1 => ∀ D, H1 D = none → (D == sysModules) = false → ∃ W : Nat → Nat → Hp → Prop, (∃ m, W 0 m (upd H1 D (rawO D dct0))) ∧ ∀ i m G, W i m G →
  (J.stop i G ∧ Q (.ref D) G) ∨ (J.go i G ∧ ∃ Nx : Hp → Prop, (∀ G', Nx G' → ∃ m', m' < m ∧ W (i + 1) m' G') ∧ ∀ x G', J.yld i G x G' → g x (wipe σ vs) G' fun σ2 G2 => wipe σ2 vs = wipe σ vs ∧ tt σ2 G2 fun b G3 =>
    if b = true then tk σ2 G3 fun y G4 => tv σ2 G4 fun z G5 => ts D y z G5 Nx else Nx G3)
section
variable {X : Cx}
theorem dcr_core {pins : List (Addr × Obj)} {s : Shared} {σ : St} {H : Hp} {Q : VK} {ke ve tg iter : Expr} {ifs : List Expr} {scope : Scope} {ownN : List (Str × Nat)} {pos pos' : Pos} {wi : TI} {g : TG} {tt : TT} {tk tv : TE} {ts : TStore} {use : Option (Value → Sem Unit)} {Qf : Value → Shared → Prop}
    (hc : X.calm = true) (hN : X.N.Nodup) (I : Inv X pins σ H s) (hi : PI X tg iter wi) (ok : BlkOk X.N X.env.scope scope ownN)
    (hg : ∀ (s : Shared) (H : Hp) (C : Addr) (cl : List (Str × Addr)) (fp : List Addr), PG (X.blk s H scope (compEnvC scope cl C X.env) fp) tg g) (ht : ∀ (s : Shared) (H : Hp) (C : Addr) (cl : List (Str × Addr)) (fp : List Addr), PTs (X.blk s H scope (compEnvC scope cl C X.env) fp) ifs tt)
    (hk : ∀ (s : Shared) (H : Hp) (C : Addr) (cl : List (Str × Addr)) (fp : List Addr), PE (X.blk s H scope (compEnvC scope cl C X.env) fp) ke tk)
    (he : ∀ (s : Shared) (H : Hp) (C : Addr) (cl : List (Str × Addr)) (fp : List Addr), PE (X.blk s H scope (compEnvC scope cl C X.env) fp) ve tv) (hst : ∀ (s : Shared) (H : Hp) (C : Addr) (cl : List (Str × Addr)) (fp : List Addr), PStore (X.blk s H scope (compEnvC scope cl C X.env) fp) ts) (hs : ∀ x, foldedSetIterable iter X.env x = pure x)
    (h : tDcR wi g tt tk tv ts (ownN.map (·.2)) σ H Q)
    (hend : ∀ D C s' m H', Inv X pins σ H' s' → Q (.ref D) H' → s'.heap.Ns C m → FpOk X pins H' C → compPost (model X.prog X.w) X.A X.xe use Qf (.ref D) C (.ok .next) s') :
    wpAny (model X.prog X.w) X.A (comprehension (.DictComp ke ve [⟨tg, iter, ifs, 0⟩] scope pos) scope X.env pos' newDict false (eval iter X.env) use) Qf X.xe s := by
  have hfr : ∀ y ∈ scope.names, y.2 = .free → ∃ c, X.env.cells.lookup y.1 = some c := fun y hy e => by
    rcases ok.free y hy e with k | k
    · exact I.ok.has _ (.inl k)
    · exact I.ok.has _ (.inr k)
  refine wpAny_comprehension_free (use := use) rfl hs (closure_ok hfr) ok.kind (fun y hy e => by rw [ok.uniq y hy, e])
    (thn (hi.run pins s σ H _ I h) fun xv st1 hx => thn hx fun itv st2 h2 => ?_)
  obtain ⟨it, fp, tn, J, G2, e, J2, T, tst2, fp2, q⟩ := h2
  subst e
  refine wpAny_newObj_type (newEnv_comp ?_)
  generalize eD : st2.heap.objs.size = D
  have nD : G2 D = none := J2.hok.fresh (Nat.le_of_eq eD)
  obtain ⟨W, ⟨m0, w0⟩, trn⟩ := q D nD (sys_no J2 (Nat.le_of_eq eD))
  -- the new list
  generalize es3 : ({ st2 with heap := st2.heap.push { cls := .type "dict", data := .dict #[] } } : Shared) = st3
  have J3 : Inv X pins σ (upd G2 D (rawO D dct0)) st3 := by
    rw [← es3]
    refine J2.laid (t' := st2.toks) (fun b o e => Heap.get?_push_of_some _ e) (Nat.le_of_eq eD) ?_
    rw [← eD]
    exact raw_empty st2.heap
  have eq3 : st3.heap = st2.heap.push { cls := .type "dict", data := .dict #[] } := by rw [← es3]
  have below : ∀ b ∈ fp, b < st2.heap.objs.size := fun b hb => by
    obtain ⟨o, e, _⟩ := T.obj _ _ tst2 b hb
    exact Heap.lt_size e
  have fp3 : ∀ b ∈ fp, FpOk X pins (upd G2 D (rawO D dct0)) b ∧ b < st3.heap.objs.size := fun b hb => by
    have hlt := below b hb
    refine ⟨⟨?_, (fp2 b hb).2⟩, by rw [eq3, Heap.size_push]; exact Nat.lt_succ_of_lt hlt⟩
    rw [upd_ne (by rw [← eD]; exact Nat.ne_of_lt hlt)]
    exact (fp2 b hb).1
  have tst3 : tn 0 st3.heap := T.keep _ _ _ tst2 fun b _ o e => by rw [eq3]; exact Heap.get?_push_of_some _ e
  have J4 := block_start J3 ok hN fp3
  have pgD := hg st3 (upd G2 D (rawO D dct0)) st3.heap.objs.size (cellsFrom (st3.heap.objs.size + 1) scope.names (cloFrom X.env.cells scope.names [])) fp
  have ptD := ht st3 (upd G2 D (rawO D dct0)) st3.heap.objs.size (cellsFrom (st3.heap.objs.size + 1) scope.names (cloFrom X.env.cells scope.names [])) fp
  have pkD := hk st3 (upd G2 D (rawO D dct0)) st3.heap.objs.size (cellsFrom (st3.heap.objs.size + 1) scope.names (cloFrom X.env.cells scope.names [])) fp
  have pst := hst st3 (upd G2 D (rawO D dct0)) st3.heap.objs.size (cellsFrom (st3.heap.objs.size + 1) scope.names (cloFrom X.env.cells scope.names [])) fp
  have pe := he st3 (upd G2 D (rawO D dct0)) st3.heap.objs.size (cellsFrom (st3.heap.objs.size + 1) scope.names (cloFrom X.env.cells scope.names [])) fp
  show codeAny _ _ (.compStart (.DictComp ke ve [⟨tg, iter, ifs, 0⟩] scope pos) 0 (.ref it) (.ref D) (compEnvC scope (cellsFrom (st3.heap.objs.size + 1) scope.names (cloFrom X.env.cells scope.names [])) st3.heap.objs.size X.env)) (compPost (model X.prog X.w) X.A X.xe use Qf (.ref D) st3.heap.objs.size) { st3 with heap := pushCells (st3.heap.push { cls := .type "dict", data := .dict #[] }) scope.names }
  have nofp : ∀ b ∈ fp, (upd G2 D (rawO D dct0)) b = none := fun b hb => (fp3 b hb).1.1
  generalize ece : compEnvC scope (cellsFrom (st3.heap.objs.size + 1) scope.names (cloFrom X.env.cells scope.names [])) st3.heap.objs.size X.env = ce at J4 pgD ptD pkD pe pst ⊢
  have eloc : ce.locals = st3.heap.objs.size := by subst ece; rfl
  generalize eG3 : upd G2 D (rawO D dct0) = G3 at J3 J4 pgD ptD pkD pe pst w0 nofp fp3
  generalize es4 : ({ st3 with heap := pushCells (st3.heap.push { cls := .type "dict", data := .dict #[] }) scope.names } : Shared) = st4 at J4 ⊢
  have tst4 : tn 0 st4.heap := T.keep _ _ _ tst3 fun b _ o e => by rw [← es4]; exact pushCells_keeps _ _ _ _ (Heap.get?_push_of_some _ e)
  have stays : ∀ {σ' : St} {H' : Hp} {s' : Shared}, Inv (X.blk st3 G3 scope ce fp) [] σ' H' s' → (∀ b ∈ fp, H' b = none) → ∀ b ∈ fp, FpOk (X.blk st3 G3 scope ce fp) [] H' b := fun {σ' H' s'} I' hns b hb =>
    ⟨hns b hb, (I'.ok.exf b hb).1, I'.ok.exfs b hb, .inl hb, fun x c e => (I'.ok.exf b hb).2 x c e, fun p hp => absurd (show p ∈ ([] : List (Addr × Obj)) ++ [] from hp) (by simp)⟩
  have lp : codeAny (model X.prog X.w) X.A (.compLoop (.DictComp ke ve [⟨tg, iter, ifs, 0⟩] scope pos) 0 (.ref it) (.ref D) ce) (compPost (model X.prog X.w) X.A X.xe use Qf (.ref D) st3.heap.objs.size) st4 := by
    refine compLoop_anyD (fun n s' => ∃ i H', Inv (X.blk st3 G3 scope ce fp) [] (wipe σ (ownN.map (·.2))) H' s' ∧ tn i s'.heap ∧ (∀ b ∈ fp, H' b = none) ∧ W i n H') ?_ m0 ⟨0, G3, J4, tst4, nofp, w0⟩
    rintro n st5 ⟨i, G5, J5, tst5, no5, wv5⟩
    rcases trn i n G5 wv5 with ⟨stp, qD⟩ | ⟨goes, Nx, hNxt, stepD⟩
    · have tdn := T.done (X.blk st3 G3 scope ce fp) rfl rfl rfl hc i [] st5 _ G5 (fun _ _ => False) J5 (stays J5 no5) tst5 stp
      refine thnF tdn fun r st6 ⟨hr, J6⟩ => ?_
      subst hr
      -- back in the def's context
      have J7 : Inv X pins σ G5 st6 := J3.call' (ch := fp) J6.os J6.base J6.hok J6.bare fun b hb => ⟨(fp3 b hb).1.2.2.2.1, (fp3 b hb).1.2.1, (fp3 b hb).1.2.2.2.2.1, (fp3 b hb).1.2.2.2.2.2⟩
      have noC : G5 st3.heap.objs.size = none := by
        have z : G5 ce.locals = none := J6.free
        rw [eloc] at z
        exact z
      obtain ⟨m, hns, _⟩ := J6.loc
      have hns : st6.heap.Ns ce.locals m := hns
      rw [eloc] at hns
      exact hend D st3.heap.objs.size st6 m G5 J7 qD hns (J3.fpOk (Nat.le_refl _) noC)
    · have tit := T.item (X.blk st3 G3 scope ce fp) rfl rfl rfl hc i [] st5 _ G5 (fun _ _ => False) J5 (stays J5 no5) tst5 goes
      refine thnF tit fun r st6 ⟨u, hr, h6⟩ => ?_
      subst hr
      refine thnF h6 fun _ st7 ⟨x, G7, J7, rv7, yl7, tst7, no7⟩ => ?_
      have J7' := J7.pinned (stays J7 no7) (T.obj _ _ tst7)
      refine thnF (pgD.run _ st7 _ G7 x u _ J7' rv7 (stepD x G7 yl7)) fun _ st8 ⟨σ8, G8, J8, ew8, k8⟩ => ?_
      refine thnF (ptD.run _ st8 σ8 G8 _ J8 k8) fun b st9 ⟨G9, J9, k9⟩ => ?_
      -- the turn's end
      have finD : ∀ {s' : Shared} {H' : Hp}, Inv (X.blk st3 G3 scope ce fp) ([] ++ pinsAt fp st7.heap) σ8 H' s' → Nx H' → ∃ m, m < n ∧ ∃ i H', Inv (X.blk st3 G3 scope ce fp) [] (wipe σ (ownN.map (·.2))) H' s' ∧ tn i s'.heap ∧ (∀ b ∈ fp, H' b = none) ∧ W i m H' := fun {s' H'} I' nx => by
        obtain ⟨m', hm, w'⟩ := hNxt H' nx
        have pinD : ∀ b ∈ fp, ∀ o, st7.heap.get? b = some o → s'.heap.get? b = some o ∧ H' b = none := fun b hb o e =>
          let z := I'.pin (b, o) (List.mem_append_right _ (List.mem_append_right _ (mem_pinsAt hb e)))
          ⟨z.1, z.2.1⟩
        have hl : (wipe σ (ownN.map (·.2))).length = σ8.length := by rw [← ew8, wipe_length]
        refine ⟨m', hm, i + 1, H', (I'.unpinned (pins := [])).weak hl (fun j v e => ?_), T.keep _ _ _ tst7 fun b hb o e => (pinD b hb o e).1, fun b hb => ?_, w'⟩
        · rw [← ew8] at e
          exact (wipe_some e).1
        · obtain ⟨o, e, _⟩ := T.obj _ _ tst7 b hb
          exact (pinD b hb o e).2
      cases b with
      | false =>
        simp only [Bool.false_eq_true, if_false] at k9 ⊢
        exact finD J9 k9
      | true =>
        simp only [if_true] at k9 ⊢
        refine thnF (pkD.run _ st9 σ8 G9 _ J9 k9) fun z st10 ⟨yke, G10, J10, rv10, k10⟩ => ?_
        refine thnF (pe.run _ st10 σ8 G10 _ J10 k10) fun z2 st11 ⟨yve, G11, J11, rv11, k11⟩ => ?_
        exact thnF (pst.run _ st11 σ8 G11 D yke yve z z2 _ J11 rv10 rv11 k11 (fun _ _ => False)) fun _ st12 ⟨G12, J12, nx⟩ => finD J12 nx
  exact codeAny_compStart_dict lp (T.self X.A 0 _ _ _ tst4 lp)
/-- as a value -/
theorem pe_dcr {ke ve tg iter : Expr} {ifs : List Expr} {scope : Scope} {ownN : List (Str × Nat)} {pos : Pos} {wi : TI} {g : TG} {tt : TT} {tk tv : TE} {ts : TStore} (hc : X.calm = true) (hN : X.N.Nodup) (hi : PI X tg iter wi) (ok : BlkOk X.N X.env.scope scope ownN)
    (hg : ∀ (s : Shared) (H : Hp) (C : Addr) (cl : List (Str × Addr)) (fp : List Addr), PG (X.blk s H scope (compEnvC scope cl C X.env) fp) tg g) (ht : ∀ (s : Shared) (H : Hp) (C : Addr) (cl : List (Str × Addr)) (fp : List Addr), PTs (X.blk s H scope (compEnvC scope cl C X.env) fp) ifs tt)
    (hk : ∀ (s : Shared) (H : Hp) (C : Addr) (cl : List (Str × Addr)) (fp : List Addr), PE (X.blk s H scope (compEnvC scope cl C X.env) fp) ke tk)
    (he : ∀ (s : Shared) (H : Hp) (C : Addr) (cl : List (Str × Addr)) (fp : List Addr), PE (X.blk s H scope (compEnvC scope cl C X.env) fp) ve tv) (hst : ∀ (s : Shared) (H : Hp) (C : Addr) (cl : List (Str × Addr)) (fp : List Addr), PStore (X.blk s H scope (compEnvC scope cl C X.env) fp) ts) (hs : ∀ x, foldedSetIterable iter X.env x = pure x := by intro _; rfl) :
    PE X (.DictComp ke ve [⟨tg, iter, ifs, 0⟩] scope pos) (tDcR wi g tt tk tv ts (ownN.map (·.2))) := by
  refine ⟨fun pins s σ H Q I h => ?_⟩
  rw [arm_eval_DictComp]
  refine dcr_core hc hN I hi ok hg ht hk he hst hs h fun D C s' m H' I' q hns f => ⟨m, hns, fun h'' sb => ?_⟩
  obtain ⟨f0, f1, fp2, fp3, f4, f5⟩ := f
  exact ⟨.ref D, H', I'.turned (t' := s'.toks) (fun b o hb e => (sb.2 b hb).trans e) f0 f1 fp3 f4 f5, rfl, q⟩
end
/-! ### over data -/
def upSt (X : Cx) : TStore := fun a y z H Q => ∃ kd vd M kvs o k, RD X.K H kd y ∧ RD X.K H vd z ∧ RMx X H M ∧ M a = some (.dct o kvs) ∧ KOk kvs kd k ∧ kvs.length < sizeLine ∧ ∀ o' H', Stb H H' → RMx X H' (up M a (.dct o' (putKD kvs kd k vd))) → Q H'
section
variable {X : Cx}
theorem g_dset {pins : List (Addr × Obj)} {σ : St} {H : Hp} {s : Shared} {a : Addr} {kvs : List (D × D)} {es : List DictEntry} {kd : D} {k : NestedKey} {y : V} {u : Value} {v : D} {z : V} {uv : Value} {Q : Unit → Shared → Prop} {o : Obj} {A : Around} {E : Value → Shared → Prop} (hu : A.units + 64 < cLine) (I : Inv X pins σ H s) (d : DAt X H a kvs es)
    (hH : H a = some (rawO a o)) (ok : KOk kvs kd k) (hz : kvs.length < sizeLine) (r : RD X.K H kd y) (ru : RelV y u) (rv : RD X.K H v z) (rvu : RelV z uv)
    (h : ∀ o' es' ep' s', Inv X pins σ (upd H a (rawO a o')) s' → o'.ExactDict → o'.data = .dict es'.toArray ep' → Paired (REn X.K X.w H) (putKD kvs kd k v) es' → Q () s') : wpAny (model X.prog X.w) A (dictSet a u uv) Q E s := by
  rcases ok.kd with ⟨g1, g2⟩ | ⟨g1, g2⟩
  · obtain ⟨vs, dd, rel⟩ := dct_A I (d.at_ I) d.en d.nd g2
    obtain ⟨k', e1, e2⟩ := akey_of g1
    have ek : k = nkey k' := Option.some.inj (ok.key.symm.trans e2)
    subst ek
    refine wpAny_dictSet_pairs (hsz := by rw [← Paired.length rel]; omega) (akey_rel r e1 ru) dd fun h' dd' hs => ?_
    obtain ⟨ob, es', ep, w1, w2, w3, w4, w5, w6⟩ := dd'
    exact h ob es'.toList ep _ (d_write (t' := _) I (by rw [hH]; trivial) hs ⟨ob, w1⟩ (raw_ok w1)) w2 (by rw [w3]) (fromA w5 (fun e he => w4 e (by simpa using he)) (put_A e1 rvu rv rel))
  · obtain ⟨xs, dd, rel⟩ := dct_T I (d.at_ I) d.en d.nd g2
    obtain ⟨b, rfl, rfl⟩ := tu_ref r g1 ru
    refine wpAny_dictSet_heap (knd := nestedKind X.prog X.w) (hsz := by rw [← Paired.length rel]; omega) (by show A.units + 8 < cLine; omega) ⟨nested_of I r ok.key ru, ok.dp⟩ dd fun h' dd' hs => ?_
    obtain ⟨ob, es', ep, w1, w2, w3, w4, w5, w6⟩ := dd'
    refine h ob es'.toList ep _ (d_write (t' := _) I (by rw [hH]; trivial) hs ⟨ob, w1⟩ (raw_ok w1)) w2 (by rw [w3]) ?_
    rw [w4]
    exact fromT (put_T ok.key ok.dp r rvu rv rel)
theorem m_put {H : Hp} {M : MM} {a : Addr} {kvs : List (D × D)} {es es' : List DictEntry} {kd vd : D} {k : NestedKey} {o o' : Obj} {ep' : Nat} (m : RMx X H M) (da : DAt X H a kvs es) (hH : H a = some (rawO a o)) (ok : KOk kvs kd k) (hz : kvs.length < sizeLine) (x1 : o'.ExactDict)
    (x2 : o'.data = .dict es'.toArray ep') (p : Paired (REn X.K X.w H) (putKD kvs kd k vd) es') : Stb H (upd H a (rawO a o')) ∧ RMx X (upd H a (rawO a o')) (up M a (.dct o' (putKD kvs kd k vd))) := by
  have mu : Mut (H a) := by rw [hH]; trivial
  exact ⟨Stb.mut mu, m.mut mu ⟨es', ep', upd_same, x1, x2, da.sys, Nat.le_trans (putKD_length kvs kd k vd) hz, put_uni ok, put_nodup ok.key da.nd, Paired.mapP p fun _ _ z => z.stb (Stb.mut mu)⟩⟩
theorem st_up (hu : X.A.units + 64 < cLine) : PStore X (upSt X) := ⟨fun pins s σ H a y z u r Q I ry rz h E => by
  obtain ⟨kd, vd, M, kvs, o, k, r1, r2, m, e, ok, hz, q⟩ := h
  obtain ⟨es, ep, da, hH, hx, hdd⟩ := dct_at m e
  refine g_dset hu I da hH ok hz r1 ry r2 rz fun o' es' ep' s' I' x1 x2 p => ⟨_, I', ?_⟩
  obtain ⟨s1, m1⟩ := m_put m da hH ok hz x1 x2 p
  exact q o' _ s1 m1⟩
end
/-! ### {k: v for ..} -/
def dcD (stay : MM → Prop) (p : Addr) (ρ0 : En) (g : WG) (tt : WB) (tk tv : WE) : List D → List (D × D) → MM → (MM → Prop) → Prop
  | [], acc, M, K => stay M ∧ (∃ o, M p = some (.dct o acc)) ∧ K M
  | d :: ds, acc, M, K => stay M ∧ g d ρ0 M (fun ρ1 M1 => tt ρ1 M1 (fun b M2 => if b = true then tk ρ1 M2 (fun x M3 => tv ρ1 M3 (fun y M4 => ∃ o k, M4 p = some (.dct o acc) ∧ KOk acc x k ∧ acc.length < sizeLine ∧ ∀ o', dcD stay p ρ0 g tt tk tv ds (putKD acc x k y) (up M4 p (.dct o' (putKD acc x k y))) K) noX) noX
      else dcD stay p ρ0 g tt tk tv ds acc M2 K) noX) noX
def wDc (wi : WI) (own : List Nat) (g : WG) (tt : WB) (tk tv : WE) : WE := fun ρ M Q E => wi ρ M (fun ds stay M1 => ∀ p, M1 p = none → dcD stay p (wipeD ρ own) g tt tk tv ds [] (up M1 p (.dct dct0 [])) fun M2 => Q (.ref p) M2) E
theorem dcD_stay {stay : MM → Prop} {p : Addr} {ρ0 : En} {g : WG} {tt : WB} {tk tv : WE} {ds : List D} {acc : List (D × D)} {M : MM} {K : MM → Prop} (h : dcD stay p ρ0 g tt tk tv ds acc M K) : stay M := by
  cases ds with
  | nil => exact h.1
  | cons d ds => exact h.1
end Fg
/-! Fg27: dict comprehensions, displays, comprehensions of two clauses: their readings. -/
namespace Fg
open PySem PySem.Spec L2
open PyProof.Rows hiding St
section
variable {X : Cx} {W : WX}
theorem tDc_of {wi : WI} {own : List Nat} {g : WG} {tt : WB} {tk tv : WE} {σ : St} {H : Hp} {Q : VK} (h : upE X W (wDc wi own g tt tk tv) σ H Q) : tDcR (upI X W wi) (upGR X W0 (ownR own) g) (upB X W0 tt) (upE X W0 tk) (upE X W0 tv) (upSt X) own σ H Q := by
  obtain ⟨ρ, M, Q0, E0, r, m, t, q, xg⟩ := h
  refine ⟨ρ, M, _, E0, r, m, t, fun ds stay M1 t1 J H1 s1 m1 wk => ?_, xg⟩
  intro p hp hsys
  have z0 := t1 p (m1.fresh hp)
  have sN : Stb H1 (upd H1 p (rawO p dct0)) := Stb.new hp
  · refine ⟨fun i k G => i ≤ ds.length ∧ k = ds.length - i ∧ ∃ acc M', RMx X G M' ∧ Stb (upd H1 p (rawO p dct0)) G ∧ dcD stay p (wipeD ρ own) g tt tk tv (ds.drop i) acc M' fun M2 => Q0 (.ref p) M2,
      ⟨_, Nat.zero_le _, rfl, [], _, m1.new (o := .dct dct0 []) hp ⟨[], 0, upd_same, ⟨rfl, rfl, rfl⟩, rfl, hsys, Nat.zero_le _, .inl (fun p h => nomatch h), List.nodup_nil, .nil⟩, Stb.refl _, z0⟩, ?_⟩
    rintro i k G ⟨hi, rfl, acc, M', m', s', z'⟩
    have st := dcD_stay z'
    have sT := sN.trans s'
    obtain ⟨w1, w2⟩ := wk i G M' sT m' st
    by_cases hlt : i < ds.length
    · have hd : ds[i]? = some ds[i] := by simp [hlt]
      obtain ⟨go, yl⟩ := w2 _ hd
      rw [List.drop_eq_getElem_cons hlt] at z'
      refine .inr ⟨go, fun G2 => ∃ acc M2, RMx X G2 M2 ∧ Stb (upd H1 p (rawO p dct0)) G2 ∧ dcD stay p (wipeD ρ own) g tt tk tv (ds.drop (i + 1)) acc M2 fun M2 => Q0 (.ref p) M2, fun G2 ⟨acc, M2, a2, a3, a4⟩ => ⟨ds.length - (i + 1), by omega, hlt, rfl, acc, M2, a2, a3, a4⟩, fun x G2 hy => ?_⟩
      obtain ⟨s2, m2, rd⟩ := yl x G2 hy
      obtain ⟨_, z'⟩ := z'
      have rw_ : RE X.K G2 (wipeD ρ own) (wipe σ own) := (((r.stb s1).stb sT).stb s2).wipe own
      refine ⟨_, _, M', _, noX, rd, rw_, m2, z', fun ρ3 M3 z3 σ3 G3 s3 r3 m3 hR => ⟨by rw [show wipe σ3 own = wipe (wipe σ own) own from hR, wipe_wipe], ?_⟩, XGo.no⟩
      refine ⟨ρ3, M3, _, noX, r3, m3, z3, fun b M4 z4 G4 s4 m4 => ?_, XGo.no⟩
      have s14 := s'.trans ((s2.trans s3).trans s4)
      cases b with
      | false => exact ⟨acc, M4, m4, s14, z4⟩
      | true =>
        refine ⟨ρ3, M4, _, noX, r3.stb s4, m4, z4, fun x5 M5 z5 v5 G5 s5 rd5 m5 => ⟨ρ3, M5, _, noX, (r3.stb s4).stb s5, m5, z5, fun y6 M6 z6 v6 G6 s6 rd6 m6 => ?_, XGo.no⟩, XGo.no⟩
        obtain ⟨o, kk, h1, ok, h2, h5⟩ := z6
        exact ⟨x5, y6, M6, acc, o, kk, rd5.stb s6, rd6, m6, h1, ok, h2, fun o' G' sG mG => ⟨_, _, mG, ((s14.trans s5).trans s6).trans sG, h5 o'⟩⟩
    · have e : i = ds.length := by omega
      subst e
      rw [List.drop_length] at z'
      exact .inl ⟨w1 rfl, q _ _ z'.2.2 _ _ (s1.trans sT) (.ref p) m'⟩
/-! ### displays -/
def prsD : List (WE × WE) → En → MM → (List (D × D) → MM → Prop) → QX → Prop
  | [], _, M, K, _ => K [] M
  | (wk, wv) :: r, ρ, M, K, E => wk ρ M (fun x M1 => wv ρ M1 (fun y M2 => prsD r ρ M2 (fun ps M3 => K ((x, y) :: ps) M3) E) E) E
def wDisp (l : List (WE × WE)) : WE := fun ρ M Q E => ∀ p, M p = none → prsD l ρ (up M p (.dct dct0 [])) (fun ps M2 => (∃ o, M2 p = some (.dct o [])) ∧ PairsOk ps ∧ ps.length ≤ 15 ∧ ∀ o, Q (.ref p) (up M2 p (.dct o (putAll [] ps)))) E
def RP2 (K : PySem.W.Frag) (H : Hp) : List (D × D) → List (V × V) → Prop := Paired fun p q => RD K H p.1 q.1 ∧ RD K H p.2 q.2
theorem pairs_up {E0 : QX} : ∀ {l : List (WE × WE)} {ρ : En} {M : MM} {σ : St} {H : Hp} {K0 : List (D × D) → MM → Prop} {Q : List (V × V) → Hp → Prop}, RE X.K H ρ σ → RMx X H M → prsD l ρ M K0 E0 →
    (∀ ps M', K0 ps M' → ∀ vps H', Stb H H' → RP2 X.K H' ps vps → RMx X H' M' → Q vps H') → XGo X W σ H E0 → tPairs (l.map fun p => (upE X W p.1, upE X W p.2)) σ H Q
  | [], ρ, M, σ, H, K0, Q, r, m, t, q, xg => q [] M t [] H (Stb.refl H) .nil m
  | (wk, wv) :: l, ρ, M, σ, H, K0, Q, r, m, t, q, xg => by
    refine ⟨ρ, M, _, E0, r, m, t, fun x M1 t1 vx H1 s1 rx m1 => ⟨ρ, M1, _, E0, r.stb s1, m1, t1, fun y M2 t2 vy H2 s2 ry m2 => ?_, xg.stb s1⟩, xg⟩
    exact pairs_up (l := l) ((r.stb s1).stb s2) m2 t2 (fun ps M' k vps H' s' rp m' => q _ M' k _ H' ((s1.trans s2).trans s') (.cons ⟨(rx.stb s2).stb s', ry.stb s'⟩ rp) m') ((xg.stb s1).stb s2)
theorem RP2.stb {K : PySem.W.Frag} {H H' : Hp} (s : Stb H H') {ps : List (D × D)} {vs : List (V × V)} (h : RP2 K H ps vs) : RP2 K H' ps vs := Paired.mapP h fun _ _ q => ⟨q.1.stb s, q.2.stb s⟩
theorem store_all {pins : List (Addr × Obj)} {σ : St} {a : Addr} {A : Around} {E : Value → Shared → Prop} {Q : PUnit → Shared → Prop} (hu : A.units + 64 < cLine) : ∀ {ps : List (D × D)} {vps : List (V × V)} {ws : List (Value × Value)} {acc : List (D × D)} {o : Obj} {M : MM} {H : Hp} {s : Shared},
    Inv X pins σ H s → RMx X H M → M a = some (.dct o acc) → RP2 X.K H ps vps → VV vps ws → PairsOk ps → uni (acc ++ ps) → acc.length + ps.length ≤ sizeLine →
    (∀ o' H' s', Inv X pins σ H' s' → Stb H H' → RMx X H' (up M a (.dct o' (putAll acc ps))) → Q PUnit.unit s') → wpAny (model X.prog X.w) A (storeAll a ws) Q E s
  | [], _, _, acc, o, M, H, s, I, m, e, .nil, .nil, _, _, _, q => by
    have eM : up M a (.dct o acc) = M := by
      funext b
      unfold up
      split
      · rename_i h; rw [h, e]
      · rfl
    exact wpAny_pure (q o H s I (Stb.refl H) (by show RMx X H (up M a (.dct o acc)); rw [eM]; exact m))
  | p :: ps, _, _, acc, o, M, H, s, I, m, e, .cons (b := v) (l₂ := vs) ⟨r1, r2⟩ rp, .cons (b := w) (l₂ := ws) ⟨v1, v2⟩ rv, ok, un, hz, q => by
    obtain ⟨kk, hk, dp⟩ := ok.key p List.mem_cons_self
    have kok : KOk acc p.1 kk := ⟨hk, dp, un.imp (fun u => ⟨u p (by simp), fun x hx => u x (by simp [hx])⟩) fun u => ⟨u p (by simp), fun x hx => u x (by simp [hx])⟩⟩
    have hz1 : acc.length < sizeLine := by rw [List.length_cons] at hz; omega
    obtain ⟨es, ep, da, hH, hx, hdd⟩ := dct_at m e
    unfold storeAll
    rw [List.forIn_cons]
    refine wpAny_bind (wpAny_bind (g_dset hu I da hH kok hz1 r1 v1 r2 v2 fun o' es' ep' s' I' x1 x2 pe => wpAny_pure ?_))
    obtain ⟨s1, m1⟩ := m_put m da hH kok hz1 x1 x2 pe
    have eP : putP acc p = putKD acc p.1 kk p.2 := putP_eq hk
    have hl := putKD_length acc p.1 kk p.2
    have un' : uni (putKD acc p.1 kk p.2 ++ ps) := by
      rcases un with u | u
      · refine .inl fun x hx => ?_
        rcases List.mem_append.mp hx with hx | hx
        · rcases put_mem hx with e1 | ⟨z, hz, e1⟩
          · rw [e1]; exact u p (by simp)
          · rw [← e1]; exact u z (by simp [hz])
        · exact u x (by simp [hx])
      · refine .inr fun x hx => ?_
        rcases List.mem_append.mp hx with hx | hx
        · rcases put_mem hx with e1 | ⟨z, hz, e1⟩
          · rw [e1]; exact u p (by simp)
          · rw [← e1]; exact u z (by simp [hz])
        · exact u x (by simp [hx])
    have again := store_all (A := A) (E := E) (Q := Q) hu (ps := ps) (vps := vs) (ws := ws) (acc := putKD acc p.1 kk p.2) (o := o') I' m1 up_same (RP2.stb s1 rp) rv ok.tail un' (by rw [List.length_cons] at hz; omega) fun o2 H2 s2 I2 sx mx => ?_
    · exact again
    · refine q o2 H2 s2 I2 (s1.trans sx) ?_
      rw [up_up] at mx
      have e3 : putAll acc (p :: ps) = putAll (putKD acc p.1 kk p.2) ps := by show putAll (putP acc p) ps = _; rw [eP]
      rw [e3]
      exact mx
theorem vv_of {K : PySem.W.Frag} {H : Hp} {ps : List (D × D)} {vps : List (V × V)} (h : RP2 K H ps vps) : ps.length = vps.length := Paired.length h
theorem ue_disp {pos : Pos} {keys : List (Option Expr)} {values : List Expr} {l : List (WE × WE)} (hu : X.A.units + 64 < cLine) (h : PPs X pos keys values (l.map fun p => (upE X W p.1, upE X W p.2))) (hall : keys.all (·.isSome) = true) (hl : keys.length = values.length) (h0 : keys ≠ [])
    (h15 : keys.length ≤ 15) : PE X (.Dict keys values pos) (upE X W (wDisp l)) := by
  refine ⟨fun pins s σ H Q I ⟨ρ, M, Q0, E0, r, m, t, q, xg⟩ => ?_⟩
  have hp := I.hok.fresh (Nat.le_refl s.heap.objs.size)
  have J := I.laid (a := s.heap.objs.size) (o := rawO s.heap.objs.size dct0) (h' := s.heap.push dct0) (t' := s.toks) (fun _ _ e => Heap.get?_push_of_some _ e) (Nat.le_refl _) (raw_empty s.heap)
  have m1 := m.new (o := .dct dct0 []) hp ⟨[], 0, upd_same, ⟨rfl, rfl, rfl⟩, rfl, sys_no I (Nat.le_refl _), Nat.zero_le _, .inl (fun p h => nomatch h), List.nodup_nil, .nil⟩
  have s0 : Stb H (upd H s.heap.objs.size (rawO s.heap.objs.size dct0)) := Stb.new hp
  refine wpAny_Dict_any hall hl h0 h15 (thn (h.run pins _ σ _ (fun vps H2 => ∃ ps M2 o, RP2 X.K H2 ps vps ∧ RMx X H2 M2 ∧ Stb H H2 ∧ M2 s.heap.objs.size = some (.dct o []) ∧ PairsOk ps ∧ ps.length ≤ 15 ∧ ∀ o, Q0 (.ref s.heap.objs.size) (up M2 s.heap.objs.size (.dct o (putAll [] ps)))) J
    (pairs_up (E0 := E0) (r.stb s0) m1 (t _ (m.fresh hp)) (fun ps M' ⟨⟨o, e⟩, ok, le, z⟩ vps H' s' rp m' => ⟨ps, M', o, rp, m', s0.trans s', e, ok, le, z⟩) (xg.stb s0))) fun ws s2 ⟨vps, H2, I2, rel, ps, M2, o, rp, m2, sH, e, ok, le, z⟩ => ?_)
  refine store_all hu I2 m2 e rp rel ok (by rw [List.nil_append]; exact ok.un) (by rw [sizeLine_eq, List.length_nil]; omega) fun o' H' s' I' sx mx => ?_
  exact ⟨.ref s.heap.objs.size, H', I', rfl, q _ _ (z o') _ _ (sH.trans sx) (.ref _) mx⟩
end
end Fg
/-! Fg28: the same by form, for printed proofs. -/
namespace Fg
open PySem PySem.Spec L2
open PyProof.Rows hiding St
section
variable {U : Ud} {k : Nat} {n : Nm} {e a b c tg iter kx vx : Expr} {es : List Expr} {pos : Pos} {w wk wv : WE} {wi : WI} {g : WG} {keys : List (Option Expr)} {values : List Expr} {l : List (WE × WE)}
theorem m_wk (h : JE U k n e w) : JI U k n tg e (wWk w) := fun X W g => ui_wk (h X W g)
theorem f_lst (h : n.hot = false) : ∀ X W, Gd U k n X W → CallR X (.type "list") (upC X cLst) := fun _ _ g => cr_cLst (g.calm h)
theorem f_sorted : ∀ X W, Gd U k n X W → CallR X (.builtin "sorted") (upC X cSorted) := fun _ _ g => cr_cSorted g.hu
theorem f_dict (h : n.hot = false) : ∀ X W, Gd U k n X W → CallR X (.type "dict") (upC X cDict) := fun _ _ g => cr_cDict (g.calm h) g.hu
def JPs (U : Ud) (k : Nat) (n : Nm) (pos : Pos) (keys : List (Option Expr)) (values : List Expr) (l : List (WE × WE)) : Prop := ∀ X W, Gd U k n X W → PPs X pos keys values (l.map fun p => (upE X W p.1, upE X W p.2))
theorem p_nil : JPs U k n pos [] [] [] := fun X W g => pps_nil
theorem p_cons (ha : JE U k n a wk) (hb : JE U k n b wv) (hr : JPs U k n pos keys values l) : JPs U k n pos (some a :: keys) (b :: values) ((wk, wv) :: l) := fun X W g => pps_cons (ha X W g) (hb X W g) (hr X W g)
theorem n_disp (h : JPs U k n pos keys values l) (hb : (keys.all (·.isSome) && (keys.length == values.length && (!keys.isEmpty && decide (keys.length ≤ 15)))) = true) : JE U k n (.Dict keys values pos) (wDisp l) := fun X W g => by
  obtain ⟨h1, hb⟩ := He.ba hb
  obtain ⟨h2, hb⟩ := He.ba hb
  obtain ⟨h3, h4⟩ := He.ba hb
  exact ue_disp g.hu (h X W g) h1 (by simpa using h2) (by intro z; rw [z] at h3; cases h3) (of_decide_eq_true h4)
section
variable {scope : Scope} {tt : WB}
theorem m_dc (own : List (Str × Nat)) (h : (!n.hot && (blkC n.N n.sc scope own && !isSet iter)) = true) (hi : JI U k n tg iter wi) (hg : JG U k (n.blk scope) (ownR (own.map (·.2))) tg g) (ht : JTs U k (n.blk scope) es tt) (hk : JE U k (n.blk scope) kx wk) (hv : JE U k (n.blk scope) vx wv) :
    JE U k n (.DictComp kx vx [⟨tg, iter, es, 0⟩] scope pos) (wDc wi (own.map (·.2)) g tt wk wv) := fun X W g' =>
  (pe_dcr (g := upGR X W0 (ownR (own.map fun (p : Str × Nat) => p.2)) g) (tt := upB X W0 tt) (tk := upE X W0 wk) (tv := upE X W0 wv) (ts := upSt X) (g'.calm (nb (He.ba h).1)) g'.nm (hi X W g') (by have := blkOk_by (He.ba (He.ba h).2).1; rw [← g'.eN, ← g'.eS] at this; exact this)
    (fun s H C cl fp => hg _ _ (g'.blk (nb (He.ba h).1) s H scope C cl fp)) (fun s H C cl fp => ht _ _ (g'.blk (nb (He.ba h).1) s H scope C cl fp)) (fun s H C cl fp => hk _ _ (g'.blk (nb (He.ba h).1) s H scope C cl fp)) (fun s H C cl fp => hv _ _ (g'.blk (nb (He.ba h).1) s H scope C cl fp))
    (fun s H C cl fp => st_up (X := X.blk s H scope (compEnvC scope cl C X.env) fp) g'.hu) (fold_no (nb (He.ba (He.ba h).2).2))).imp fun σ H Q z => tDc_of z
end
end
end Fg
/-! Fg29: sorted() of tuples of which some are empty. -/
namespace Fg
open PySem PySem.Calls PySem.W PySem.SeqAt
open PyProof.Rows hiding St
section
variable {prog : Program} {w : World} {A : Around} {s : Shared} {E : Value → Shared → Prop}
theorem tup_lt_call {Q : Value → Shared → Prop} {l b : Addr} {xs ys : Array Value} {e r : Nat → Bool} (hl : s.heap.IsTuple l xs) (hb : s.heap.IsTuple b ys)
    (he : ∀ j (h1 : j < xs.size) (h2 : j < ys.size), EqAt A.in1 s xs[j] ys[j] (e j)) (hr : ∀ j (h1 : j < xs.size) (h2 : j < ys.size), e j = false → RcLt A.in1 s xs[j] ys[j] (r j))
    (h : Q (.bool (firstLt e r (decide (xs.size < ys.size)) (List.range (min xs.size ys.size)))) s) : wpAny (model prog w) A (call (.builtin "tuple.__lt__") [.ref l, .ref b]) Q E s := by
  obtain ⟨⟨c1, d1, t1, q1⟩, g1, k1, m1, j1⟩ := hl
  obtain ⟨⟨c2, d2, t2, q2⟩, g2, k2, m2, j2⟩ := hb
  dsimp only at k1 j1 k2 j2
  subst k1 j1 k2 j2
  exact call_meets F.slot_tuple_lt ⟨_, g1, rfl⟩ F.entry_tuple_lt (F.args_tuple_lt_2 _ _) (tuple_ltAt l b xs ys m1 m2 d1 d2 q1 q2 e r) ⟨g1, g2, he, hr, h⟩
theorem one_tup {xs ys : List PyData} {a b : Value} {as bs : List Addr} {Q : Bool → Shared → Prop} (ra : Reads s.heap a (.tuple xs) as) (rb : Reads s.heap b (.tuple ys) bs) (h : alike (.tuple xs) (.tuple ys) = true)
    (hu : A.units + min (PyData.tuple xs).depth (PyData.tuple ys).depth < cLine) (hq : Q (dataLt (.tuple xs) (.tuple ys)) s) : wpAny (model prog w) A (PyProof.Rows.oneLt' true a b) Q E s := by
  have hal : alikeAll xs ys = true := by simpa [alike] using h
  cases ra with
  | @tuple l o vs n _ as1 h1 h2 h3 h4 =>
    cases rb with
    | @tuple l' o' vs' n' _ bs1 k1 k2 k3 k4 =>
      have n1 : vs.size = xs.length := by simpa using ReadsAll.length _ _ _ h4
      have n2 : vs'.size = ys.length := by simpa using ReadsAll.length _ _ _ k4
      rw [dataLt_tuple, ← firstLt_toks xs ys hal, ← n1, ← n2] at hq
      rw [PyProof.Rows.oneLt'_eq, if_pos rfl]
      refine wpAny_bind (wpAny_cRoomFor (room_here hu) (wpAny_bind ?_))
      refine wpAny_callSpecialIfBound?_slot (T := "tuple") ⟨_, h1, h2⟩ F.slot_tuple_lt (tup_lt_call (e := pairEq xs ys) (r := fun j => dataLt (xs.getD j .none) (ys.getD j .none)) ⟨_, h1, h2, _, h3⟩ ⟨_, k1, k2, _, k3⟩ (fun j j1 j2 => ?_) (fun j j1 j2 hj => ?_) ?_)
      · have z := eqAt_alikeAll xs ys A.in1 s vs.toList vs'.toList _ _ h4 k4 hal (room_in hu) j (by simpa using j1) (by simpa using j2)
        simpa using z
      · have z := rcLt_alikeAll xs ys A.in1 s vs.toList vs'.toList _ _ h4 k4 hal (room_in hu) j (by simpa using j1) (by simpa using j2) hj
        simpa using z
      · exact wpAny_truthy_bool hq
def nonE : PyData → Bool
  | .tuple (_ :: _) => true
  | _ => false
theorem firsts_any : ∀ {vs : List Value} {ds : List PyData}, EachIs (fun v d => ∃ as, Reads s.heap v d as) vs ds → (∀ d ∈ ds, ∃ xs, d = .tuple xs) → ∃ fs : List (Option Value), fs.map (·.isSome) = ds.map nonE ∧ ∀ (E : Value → Shared → Prop) {Q : List (Option Value) → Shared → Prop}, Q fs s → wpAny (model prog w) A (vs.mapM PyProof.Rows.firstOfTuple') Q E s
  | _, _, .nil, _ => ⟨[], rfl, fun E Q h => by rw [List.mapM_nil]; exact wpAny_pure h⟩
  | v :: vs, d :: ds, .cons ⟨as, r⟩ t, ht => by
    obtain ⟨fs, e1, e2⟩ := firsts_any t fun x hx => ht x (List.mem_cons_of_mem _ hx)
    obtain ⟨xs, rfl⟩ := ht d (List.mem_cons_self ..)
    cases r with
    | @tuple l o us n _ _ h1 h2 h3 h4 =>
      have hl : us.toList.length = xs.length := ReadsAll.length _ _ _ h4
      refine ⟨us[0]? :: fs, ?_, fun E Q h => ?_⟩
      · rw [List.map_cons, List.map_cons, e1]
        congr 1
        cases xs with
        | nil =>
          have : us.size = 0 := by simpa using hl
          rw [Array.getElem?_eq_none (by omega)]; rfl
        | cons x xs =>
          have : 0 < us.size := by have := hl; simp at this; omega
          rw [Array.getElem?_eq_getElem this]; rfl
      · rw [List.mapM_cons]
        refine wpAny_bind ?_
        rw [kas_first_eq]
        refine wpAny_bind (Looks.here (show Looks (model prog w) s.heap (typeOf (.ref l)) o.cls from (Looks.ld h1).andThen .now) ?_)
        rw [h2, if_neg (by simp)]
        refine wpAny_bind (listItems_at h1 h3 (wpAny_pure ?_))
        exact wpAny_bind (e2 E (Q := fun bs s' => wpAny (model prog w) A (pure (us[0]? :: bs)) Q E s') (wpAny_pure h))
/-- tuples, some of them empty, perhaps -/
theorem sorts_tups {vs : List Value} {ds : List PyData} (e : EachIs (fun v d => ∃ as, Reads s.heap v d as) vs ds) (hal : AllAlike ds) (ht : ∀ d ∈ ds, ∃ xs, d = .tuple xs) (hu : ∀ d, d ∈ ds → A.units + d.depth < cLine) : SortsAt prog w A s (dataKind s.heap ds) vs := by
  by_cases full : ds.all nonE = true
  · refine SortsAt.data e hal (.inl fun d hd => ?_) hu
    obtain ⟨xs, rfl⟩ := ht d hd
    have := List.all_eq_true.mp full _ hd
    cases xs with
    | nil => cases this
    | cons x r => exact ⟨x, r, rfl⟩
  · have room : ∀ {d d' : PyData}, d ∈ ds → A.units + min d.depth d'.depth < cLine := fun {d d'} hd => Nat.lt_of_le_of_lt (Nat.add_le_add_left (Nat.min_le_left _ _) _) (hu d hd)
    refine ⟨fun v hv => ?_, ?_⟩
    · obtain ⟨d, hd, as, r⟩ := e.left v hv
      exact ⟨_, dataKind_some hal hd r⟩
    · have lt1 : H.LtAt prog w A s (dataKind s.heap ds) PyProof.Rows.oneType' := by
        intro E x y a b Q ha hb hq
        obtain ⟨d, as, hd, ra, rfl⟩ := dataKind_inv ha
        obtain ⟨d', bs, hd', rb, rfl⟩ := dataKind_inv hb
        rw [PyProof.Rows.keyLt'_oneType]
        have hdd := hal d hd d' hd'
        have hr := room (d' := d') hd
        obtain ⟨xs, rfl⟩ := ht d hd
        obtain ⟨ys, rfl⟩ := ht d' hd'
        exact one_tup ra rb hdd hr hq
      have lt2 : H.LtAt prog w A s (dataKind s.heap ds) PyProof.Rows.general' := by
        intro E x y a b Q ha hb hq
        obtain ⟨d, as, hd, ra, rfl⟩ := dataKind_inv ha
        obtain ⟨d', bs, hd', rb, rfl⟩ := dataKind_inv hb
        have hdd := hal d hd d' hd'
        have hr := room (d' := d') hd
        have hn : d ≠ .none := by
          obtain ⟨xs, rfl⟩ := ht d hd
          intro z; cases z
        show wpAny (model prog w) A (PyProof.Rows.oneLt' false x y) Q E s
        exact oneLt_alike (fun z => by cases z) ra rb hdd hn hr hq
      obtain ⟨fs, e1, e2⟩ := firsts_any (prog := prog) (w := w) (A := A) e ht
      have hall : (fs.toArray.all fun x => x.isSome) = false := by
        have h1 : fs.all (·.isSome) = (fs.map (·.isSome)).all id := by rw [List.all_map]; rfl
        have h2 : ds.all nonE = (ds.map nonE).all id := by rw [List.all_map]; rfl
        rw [List.all_toArray, h1, e1, ← h2]
        simpa using full
      have kinds : ∀ {kd : PyProof.Rows.SortKind} (E : Value → Shared → Prop) {Q : PyProof.Rows.SortKind → Shared → Prop}, 2 ≤ vs.length → (kd = if (fs.toArray[0]?.bind id).isSome = true then PyProof.Rows.general' else PyProof.Rows.oneType') → Q kd s → wpAny (model prog w) A (PyProof.Rows.keyKind' vs.toArray) Q E s := by
        intro kd E Q h2 hk hq
        rw [kat_kind_eq, List.mapM_toArray, map_eq_pure_bind]
        refine wpAny_bind (wpAny_bind (e2 E (wpAny_pure ?_)))
        rw [hall, if_neg (by decide)]
        by_cases q : (fs.toArray[0]?.bind id).isSome = true
        · rw [if_pos q] at hk
          rw [if_pos q]
          subst hk
          exact wpAny_pure hq
        · rw [if_neg q] at hk
          rw [if_neg q]
          subst hk
          rw [PyProof.Rows.oneTypeOnly'_eq, List.mapM_toArray, map_eq_pure_bind]
          refine wpAny_bind (wpAny_bind (wpAny_bind (kas_mapM (r := Value.type "tuple") _ (fun v hv Q' hq => ?_) (wpAny_pure ?_))))
          · obtain ⟨d, hd, as, r⟩ := e.left v hv
            have lk := looks_reads (M := model prog w) r
            obtain ⟨xs, rfl⟩ := ht d hd
            exact Looks.here lk hq
          · have ha : ((vs.map fun _ => Value.type "tuple").toArray.all fun x => x == Value.type "tuple") = true := by
              simp only [List.all_toArray, List.all_map, List.all_eq_true]
              intro _ _
              rfl
            have h0 : (vs.map fun _ => Value.type "tuple").toArray[0]? = some (Value.type "tuple") := by
              cases vs with
              | nil => simp at h2
              | cons v vs => simp
            rw [h0]
            simp only [ha, if_true]
            exact wpAny_pure (wpAny_pure hq)
      by_cases q : (fs.toArray[0]?.bind id).isSome = true
      · exact ⟨_, lt2, fun h2 E Q hq => kinds E h2 (by rw [if_pos q]) hq⟩
      · exact ⟨_, lt1, fun h2 E Q hq => kinds E h2 (by rw [if_neg q]) hq⟩
end
end Fg
/-! Fg30: dict comprehensions with two clauses. -/
namespace Fg
open PySem PySem.Spec L2
open PyProof.Rows hiding St
abbrev ntb (P : Program) (w : World) (A : Around) (env : Env) (R : Result → Shared → Prop) : Value → Shared → Prop := notedBy (model P w) A env fun e s' => R (.error e) s'
abbrev two0 (ke ve t0 i0 t1 i1 : Expr) (f0 f1 : List Expr) (sc : Scope) (pos : Pos) : Expr := .DictComp ke ve [⟨t0, i0, f0, 0⟩, ⟨t1, i1, f1, 0⟩] sc pos
theorem turn2_out (ke ve t0 i0 t1 i1 : Expr) (f0 f1 : List Expr) (sc : Scope) (pos : Pos) (it acc : Value) (env : Env) :
    compTurn (two0 ke ve t0 i0 t1 i1 f0 f1 sc pos) 0 it acc env = (do
      standAt i0.pos
      match ← pyNext it with
      | none => pure (.done .next)
      | some v =>
        letOwnedTupleGo t0 it v
        assign t0 env v
        let mut ok := true
        for c in f0 do
          if ok then ok ← isTrue c env (eval c env)
        if ok then
          let x ← eval i1 env
          standAt i1.pos
          let x ← foldedSetIterable i1 env x
          let _ ← runOwn (.compStart (two0 ke ve t0 i0 t1 i1 f0 f1 sc pos) 1 (← holding [x] (pyIter x)) acc env) env
        again (.compLoop (two0 ke ve t0 i0 t1 i1 f0 f1 sc pos) 0 it acc env)) := by rfl
theorem turn2_in (ke ve t0 i0 t1 i1 : Expr) (f0 f1 : List Expr) (sc : Scope) (pos : Pos) (it : Value) (D : Addr) (env : Env) :
    compTurn (two0 ke ve t0 i0 t1 i1 f0 f1 sc pos) 1 it (.ref D) env = (do
      standAt i1.pos
      match ← pyNext it with
      | none => pure (.done .next)
      | some v =>
        letOwnedTupleGo t1 it v
        assign t1 env v
        let mut ok := true
        for c in f1 do
          if ok then ok ← isTrue c env (eval c env)
        if ok then
          (do
            let a ← eval ke env
            let b ← holding [a] (eval ve env)
            standAt { ke.pos with endLine := ve.pos.endLine, endCol := ve.pos.endCol }
            holding [a, b] (dictSet D a b))
        again (.compLoop (two0 ke ve t0 i0 t1 i1 f0 f1 sc pos) 1 it (.ref D) env)) := by rfl
abbrev tsts (fs : List Expr) (env : Env) : Sem Bool := forIn fs true fun c r => if r = true then do let ok ← isTrue c env (eval c env); pure (ForInStep.yield ok) else pure (ForInStep.yield r)
section
variable {P : Program} {w : World} {A : Around} {R : Result → Shared → Prop} {ke ve t0 i0 t1 i1 : Expr} {f0 f1 : List Expr} {sc : Scope} {pos : Pos} {it acc : Value} {env : Env}
theorem loop2_out (hs : ∀ x, foldedSetIterable i1 env x = pure x) (I : Nat → Shared → Prop)
    (turn : ∀ n s, I n s → wpAny (model P w) A (pyNext it) (fun r sa => match r with
      | none => R (.ok .next) sa
      | some v => wpAny (model P w) A (letOwnedTupleGo t0 it v) (fun _ sb => wpAny (model P w) A (assign t0 env v) (fun _ sd => wpAny (model P w) A (tsts f0 env) (fun ok se =>
            if ok = true then wpAny (model P w) A (eval i1 env) (fun x sf => wpAny (model P w) A (pyIter x) (fun it1 sg =>
              codeAny (model P w) A (.compStart (two0 ke ve t0 i0 t1 i1 f0 f1 sc pos) 1 it1 acc env) (fun r s' => match r with
                | .ok _ => ∃ m, m < n ∧ I m s'
                | .error _ => False) sg) (ntb P w A env R) sf) (ntb P w A env R) se
            else ∃ m, m < n ∧ I m se) (ntb P w A env R) sd) (ntb P w A env R) sb) (ntb P w A env R) sa) (ntb P w A env R) s)
    (n : Nat) {s : Shared} (h : I n s) : codeAny (model P w) A (.compLoop (two0 ke ve t0 i0 t1 i1 f0 f1 sc pos) 0 it acc env) R s := by
  refine codeAny_loop rfl I (fun n s hI => ?_) n h
  show wpAny _ A ((compTurn (two0 ke ve t0 i0 t1 i1 f0 f1 sc pos) 0 it acc env).onRaise (fun x => do noteFrame x env; theTreesLotGoes x)) _ _ s
  refine wpAny_noted ?_
  rw [turn2_out]
  refine wpAny_bind (wpAny_standAt (wpAny_bind (wpAny_mono (turn n s hI) (fun r sa ha => ?_) fun _ _ z => z)))
  cases r with
  | none => exact wpAny_pure ha
  | some v =>
    refine wpAny_bind (wpAny_mono ha (fun _ sb hb => ?_) fun _ _ z => z)
    refine wpAny_bind (wpAny_mono hb (fun _ sd hd => wpAny_bind (wpAny_mono hd (fun ok se he => ?_) fun _ _ z => z)) fun _ _ z => z)
    cases ok with
    | false => exact wpAny_pure ⟨rfl, he⟩
    | true =>
      refine wpAny_bind (wpAny_mono he (fun x sf hf => ?_) fun _ _ z => z)
      refine wpAny_bind (wpAny_standAt (wpAny_bind (wpAny_of_eq (hs x) (wpAny_bind (wpAny_holding (wpAny_mono hf (fun it1 sg hg => ?_) fun _ _ z => z))))))
      refine wpAny_bind (wpAny_runOwn ?_)
      rw [Around.mark_none]
      refine codeAny_mono hg fun r s' hr => ?_
      cases r with
      | ok f => first | exact wpAny_pure ⟨rfl, hr⟩ | exact wpAny_bind (wpAny_pure (wpAny_pure ⟨rfl, hr⟩))
      | error e => exact hr.elim
theorem loop2_in {D : Addr} (I : Nat → Shared → Prop)
    (turn : ∀ n s, I n s → wpAny (model P w) A (pyNext it) (fun r sa => match r with
      | none => R (.ok .next) sa
      | some v => wpAny (model P w) A (letOwnedTupleGo t1 it v) (fun _ sb => wpAny (model P w) A (assign t1 env v) (fun _ sd => wpAny (model P w) A (tsts f1 env) (fun ok se =>
            if ok = true then wpAny (model P w) A (eval ke env) (fun kv sf => wpAny (model P w) A (eval ve env) (fun vv sg =>
              wpAny (model P w) A (dictSet D kv vv) (fun _ sh => ∃ m, m < n ∧ I m sh) (ntb P w A env R) sg) (ntb P w A env R) sf) (ntb P w A env R) se
            else ∃ m, m < n ∧ I m se) (ntb P w A env R) sd) (ntb P w A env R) sb) (ntb P w A env R) sa) (ntb P w A env R) s)
    (n : Nat) {s : Shared} (h : I n s) : codeAny (model P w) A (.compLoop (two0 ke ve t0 i0 t1 i1 f0 f1 sc pos) 1 it (.ref D) env) R s := by
  refine codeAny_loop rfl I (fun n s hI => ?_) n h
  show wpAny _ A ((compTurn (two0 ke ve t0 i0 t1 i1 f0 f1 sc pos) 1 it (.ref D) env).onRaise (fun x => do noteFrame x env; theTreesLotGoes x)) _ _ s
  refine wpAny_noted ?_
  rw [turn2_in]
  refine wpAny_bind (wpAny_standAt (wpAny_bind (wpAny_mono (turn n s hI) (fun r sa ha => ?_) fun _ _ z => z)))
  cases r with
  | none => exact wpAny_pure ha
  | some v =>
    refine wpAny_bind (wpAny_mono ha (fun _ sb hb => ?_) fun _ _ z => z)
    refine wpAny_bind (wpAny_mono hb (fun _ sd hd => wpAny_bind (wpAny_mono hd (fun ok se he => ?_) fun _ _ z => z)) fun _ _ z => z)
    cases ok with
    | false => exact wpAny_pure ⟨rfl, he⟩
    | true =>
      exact wpAny_bind (wpAny_bind (wpAny_mono he (fun kv sf hf => wpAny_bind (wpAny_holding (wpAny_mono hf (fun vv sg hg => wpAny_bind (wpAny_standAt (wpAny_holding (wpAny_mono hg (fun _ sh hh => wpAny_pure ⟨rfl, hh⟩) fun _ _ z => z)))) fun _ _ z => z))) fun _ _ z => z))
theorem start2_in {s : Shared} (h0 : codeAny (model P w) A (.compLoop (two0 ke ve t0 i0 t1 i1 f0 f1 sc pos) 1 it acc env) R s)
    (h : wpAny (model P w) A (pyIter it) (fun j s' => codeAny (model P w) A (.compLoop (two0 ke ve t0 i0 t1 i1 f0 f1 sc pos) 1 j acc env) R s') (ntb P w A env R) s) : codeAny (model P w) A (.compStart (two0 ke ve t0 i0 t1 i1 f0 f1 sc pos) 1 it acc env) R s := by
  refine codeAny_of_tree ?_
  show wpAny _ A ((compStart (two0 ke ve t0 i0 t1 i1 f0 f1 sc pos) 1 it acc env).onRaise (fun x => do noteFrame x env; standAt theWindowsPlace)) _ _ s
  refine wpAny_notedAt ?_
  unfold compStart
  show wpAny _ A (ask >>= _) _ _ s
  refine wpAny_bind (wpAny_askSetting (wpAny_ite ?_))
  split
  · first | exact wpAny_bind (wpAny_pure (wpAny_pure (And.intro rfl h0))) | exact wpAny_pure (And.intro rfl h0)
  · first
      | exact wpAny_bind (wpAny_rule (wpAny_bind (wpAny_standAt (wpAny_bind (wpAny_mono h (fun j s' z => wpAny_pure (And.intro rfl z)) fun _ _ x => x)))))
      | (refine wpAny_bind (wpAny_rule ?_); show wpAny _ _ (standAt i1.pos >>= _) _ _ s; exact wpAny_bind (wpAny_standAt (wpAny_bind (wpAny_mono h (fun j s' z => wpAny_pure (And.intro rfl z)) fun _ _ x => x))))
end
def tDc2 (wi : TI) (g : TG) (tt : TT) (wi1 : TI) (g1 : TG) (tt1 : TT) (tk tv : TE) (ts : TStore) (vs vs1 : List Nat) : TE := fun σ H Q => wi σ H fun J H1 => ∀ D, H1 D = none → (D == sysModules) = false → ∃ W : Nat → Nat → Hp → Prop, (∃ m, W 0 m (upd H1 D (rawO D dct0))) ∧ ∀ i m G, W i m G →
  (J.stop i G ∧ Q (.ref D) G) ∨ (J.go i G ∧ ∃ Nx : Hp → Prop, (∀ G', Nx G' → ∃ m', m' < m ∧ W (i + 1) m' G') ∧ ∀ x G', J.yld i G x G' → g x (wipe σ vs) G' fun σ2 G2 => wipe σ2 vs = wipe σ vs ∧ tt σ2 G2 fun b G3 =>
    if b = true then wi1 σ2 G3 fun J1 G4 => ∃ W1 : Nat → Nat → Hp → Prop, (∃ m, W1 0 m G4) ∧ ∀ j k G, W1 j k G →
      (J1.stop j G ∧ Nx G) ∨ (J1.go j G ∧ ∃ Nx1 : Hp → Prop, (∀ G', Nx1 G' → ∃ k', k' < k ∧ W1 (j + 1) k' G') ∧ ∀ x G', J1.yld j G x G' → g1 x (wipe σ2 vs1) G' fun σ3 G5 => wipe σ3 vs1 = wipe σ2 vs1 ∧ tt1 σ3 G5 fun b G6 =>
        if b = true then tk σ3 G6 fun y G7 => tv σ3 G7 fun z G8 => ts D y z G8 Nx1 else Nx1 G6)
    else Nx G3)
section
variable {X : Cx}
theorem dc2_core {pins : List (Addr × Obj)} {s : Shared} {σ : St} {H : Hp} {Q : VK} {ke ve tg iter tg1 iter1 : Expr} {ifs ifs1 : List Expr} {scope : Scope} {ownN : List (Str × Nat)} {pos pos' : Pos} {vs1 : List Nat} {wi wi1 : TI} {g g1 : TG} {tt tt1 : TT} {tk tv : TE} {ts : TStore} {use : Option (Value → Sem Unit)} {Qf : Value → Shared → Prop}
    (hc : X.calm = true) (hN : X.N.Nodup) (I : Inv X pins σ H s) (hi : PI X tg iter wi) (ok : BlkOk X.N X.env.scope scope ownN) (hv : ∀ i ∈ vs1, i ∈ ownN.map (·.2))
    (hg : ∀ (s : Shared) (H : Hp) (C : Addr) (cl : List (Str × Addr)) (fp : List Addr), PG (X.blk s H scope (compEnvC scope cl C X.env) fp) tg g) (ht : ∀ (s : Shared) (H : Hp) (C : Addr) (cl : List (Str × Addr)) (fp : List Addr), PTs (X.blk s H scope (compEnvC scope cl C X.env) fp) ifs tt)
    (hk : ∀ (s : Shared) (H : Hp) (C : Addr) (cl : List (Str × Addr)) (fp : List Addr), PE (X.blk s H scope (compEnvC scope cl C X.env) fp) ke tk)
    (he : ∀ (s : Shared) (H : Hp) (C : Addr) (cl : List (Str × Addr)) (fp : List Addr), PE (X.blk s H scope (compEnvC scope cl C X.env) fp) ve tv) (hst : ∀ (s : Shared) (H : Hp) (C : Addr) (cl : List (Str × Addr)) (fp : List Addr), PStore (X.blk s H scope (compEnvC scope cl C X.env) fp) ts) (hs : ∀ x, foldedSetIterable iter X.env x = pure x)
    (hi1 : ∀ (s : Shared) (H : Hp) (C : Addr) (cl : List (Str × Addr)) (fp : List Addr), PI (X.blk s H scope (compEnvC scope cl C X.env) fp) tg1 iter1 wi1) (hg1 : ∀ (s : Shared) (H : Hp) (C : Addr) (cl : List (Str × Addr)) (fp : List Addr), PG (X.blk s H scope (compEnvC scope cl C X.env) fp) tg1 g1) (ht1 : ∀ (s : Shared) (H : Hp) (C : Addr) (cl : List (Str × Addr)) (fp : List Addr), PTs (X.blk s H scope (compEnvC scope cl C X.env) fp) ifs1 tt1)
    (hs1 : ∀ env x, foldedSetIterable iter1 env x = pure x) (h : tDc2 wi g tt wi1 g1 tt1 tk tv ts (ownN.map (·.2)) vs1 σ H Q)
    (hend : ∀ D C s' m H', Inv X pins σ H' s' → Q (.ref D) H' → s'.heap.Ns C m → FpOk X pins H' C → compPost (model X.prog X.w) X.A X.xe use Qf (.ref D) C (.ok .next) s') :
    wpAny (model X.prog X.w) X.A (comprehension (two0 ke ve tg iter tg1 iter1 ifs ifs1 scope pos) scope X.env pos' newDict false (eval iter X.env) use) Qf X.xe s := by
  have hfr : ∀ y ∈ scope.names, y.2 = .free → ∃ c, X.env.cells.lookup y.1 = some c := fun y hy e => by
    rcases ok.free y hy e with k | k
    · exact I.ok.has _ (.inl k)
    · exact I.ok.has _ (.inr k)
  refine wpAny_comprehension_free (use := use) rfl hs (closure_ok hfr) ok.kind (fun y hy e => by rw [ok.uniq y hy, e])
    (thn (hi.run pins s σ H _ I h) fun xv st1 hx => thn hx fun itv st2 h2 => ?_)
  obtain ⟨it, fp, tn, J, G2, e, J2, T, tst2, fp2, q⟩ := h2
  subst e
  refine wpAny_newObj_type (newEnv_comp ?_)
  generalize eD : st2.heap.objs.size = D
  have nD : G2 D = none := J2.hok.fresh (Nat.le_of_eq eD)
  obtain ⟨W, ⟨m0, w0⟩, trn⟩ := q D nD (sys_no J2 (Nat.le_of_eq eD))
  -- the new list
  generalize es3 : ({ st2 with heap := st2.heap.push { cls := .type "dict", data := .dict #[] } } : Shared) = st3
  have J3 : Inv X pins σ (upd G2 D (rawO D dct0)) st3 := by
    rw [← es3]
    refine J2.laid (t' := st2.toks) (fun b o e => Heap.get?_push_of_some _ e) (Nat.le_of_eq eD) ?_
    rw [← eD]
    exact raw_empty st2.heap
  have eq3 : st3.heap = st2.heap.push { cls := .type "dict", data := .dict #[] } := by rw [← es3]
  have below : ∀ b ∈ fp, b < st2.heap.objs.size := fun b hb => by
    obtain ⟨o, e, _⟩ := T.obj _ _ tst2 b hb
    exact Heap.lt_size e
  have fp3 : ∀ b ∈ fp, FpOk X pins (upd G2 D (rawO D dct0)) b ∧ b < st3.heap.objs.size := fun b hb => by
    have hlt := below b hb
    refine ⟨⟨?_, (fp2 b hb).2⟩, by rw [eq3, Heap.size_push]; exact Nat.lt_succ_of_lt hlt⟩
    rw [upd_ne (by rw [← eD]; exact Nat.ne_of_lt hlt)]
    exact (fp2 b hb).1
  have tst3 : tn 0 st3.heap := T.keep _ _ _ tst2 fun b _ o e => by rw [eq3]; exact Heap.get?_push_of_some _ e
  have J4 := block_start J3 ok hN fp3
  have pgD := hg st3 (upd G2 D (rawO D dct0)) st3.heap.objs.size (cellsFrom (st3.heap.objs.size + 1) scope.names (cloFrom X.env.cells scope.names [])) fp
  have ptD := ht st3 (upd G2 D (rawO D dct0)) st3.heap.objs.size (cellsFrom (st3.heap.objs.size + 1) scope.names (cloFrom X.env.cells scope.names [])) fp
  have pkD := hk st3 (upd G2 D (rawO D dct0)) st3.heap.objs.size (cellsFrom (st3.heap.objs.size + 1) scope.names (cloFrom X.env.cells scope.names [])) fp
  have pst := hst st3 (upd G2 D (rawO D dct0)) st3.heap.objs.size (cellsFrom (st3.heap.objs.size + 1) scope.names (cloFrom X.env.cells scope.names [])) fp
  have pi1 := hi1 st3 (upd G2 D (rawO D dct0)) st3.heap.objs.size (cellsFrom (st3.heap.objs.size + 1) scope.names (cloFrom X.env.cells scope.names [])) fp
  have pg1 := hg1 st3 (upd G2 D (rawO D dct0)) st3.heap.objs.size (cellsFrom (st3.heap.objs.size + 1) scope.names (cloFrom X.env.cells scope.names [])) fp
  have pt1 := ht1 st3 (upd G2 D (rawO D dct0)) st3.heap.objs.size (cellsFrom (st3.heap.objs.size + 1) scope.names (cloFrom X.env.cells scope.names [])) fp
  have pe := he st3 (upd G2 D (rawO D dct0)) st3.heap.objs.size (cellsFrom (st3.heap.objs.size + 1) scope.names (cloFrom X.env.cells scope.names [])) fp
  show codeAny _ _ (.compStart (two0 ke ve tg iter tg1 iter1 ifs ifs1 scope pos) 0 (.ref it) (.ref D) (compEnvC scope (cellsFrom (st3.heap.objs.size + 1) scope.names (cloFrom X.env.cells scope.names [])) st3.heap.objs.size X.env)) (compPost (model X.prog X.w) X.A X.xe use Qf (.ref D) st3.heap.objs.size) { st3 with heap := pushCells (st3.heap.push { cls := .type "dict", data := .dict #[] }) scope.names }
  have nofp : ∀ b ∈ fp, (upd G2 D (rawO D dct0)) b = none := fun b hb => (fp3 b hb).1.1
  generalize ece : compEnvC scope (cellsFrom (st3.heap.objs.size + 1) scope.names (cloFrom X.env.cells scope.names [])) st3.heap.objs.size X.env = ce at J4 pgD ptD pkD pe pst pi1 pg1 pt1 ⊢
  have eloc : ce.locals = st3.heap.objs.size := by subst ece; rfl
  generalize eG3 : upd G2 D (rawO D dct0) = G3 at J3 J4 pgD ptD pkD pe pst pi1 pg1 pt1 w0 nofp fp3
  generalize es4 : ({ st3 with heap := pushCells (st3.heap.push { cls := .type "dict", data := .dict #[] }) scope.names } : Shared) = st4 at J4 ⊢
  have tst4 : tn 0 st4.heap := T.keep _ _ _ tst3 fun b _ o e => by rw [← es4]; exact pushCells_keeps _ _ _ _ (Heap.get?_push_of_some _ e)
  have stays : ∀ {σ' : St} {H' : Hp} {s' : Shared}, Inv (X.blk st3 G3 scope ce fp) [] σ' H' s' → (∀ b ∈ fp, H' b = none) → ∀ b ∈ fp, FpOk (X.blk st3 G3 scope ce fp) [] H' b := fun {σ' H' s'} I' hns b hb =>
    ⟨hns b hb, (I'.ok.exf b hb).1, I'.ok.exfs b hb, .inl hb, fun x c e => (I'.ok.exf b hb).2 x c e, fun p hp => absurd (show p ∈ ([] : List (Addr × Obj)) ++ [] from hp) (by simp)⟩
  have lp : codeAny (model X.prog X.w) X.A (.compLoop (two0 ke ve tg iter tg1 iter1 ifs ifs1 scope pos) 0 (.ref it) (.ref D) ce) (compPost (model X.prog X.w) X.A X.xe use Qf (.ref D) st3.heap.objs.size) st4 := by
    refine loop2_out (hs1 ce) (fun n s' => ∃ i H', Inv (X.blk st3 G3 scope ce fp) [] (wipe σ (ownN.map (·.2))) H' s' ∧ tn i s'.heap ∧ (∀ b ∈ fp, H' b = none) ∧ W i n H') ?_ m0 ⟨0, G3, J4, tst4, nofp, w0⟩
    rintro n st5 ⟨i, G5, J5, tst5, no5, wv5⟩
    rcases trn i n G5 wv5 with ⟨stp, qD⟩ | ⟨goes, Nx, hNxt, stepD⟩
    · have tdn := T.done (X.blk st3 G3 scope ce fp) rfl rfl rfl hc i [] st5 _ G5 (fun _ _ => False) J5 (stays J5 no5) tst5 stp
      refine thnF tdn fun r st6 ⟨hr, J6⟩ => ?_
      subst hr
      -- back in the def's context
      have J7 : Inv X pins σ G5 st6 := J3.call' (ch := fp) J6.os J6.base J6.hok J6.bare fun b hb => ⟨(fp3 b hb).1.2.2.2.1, (fp3 b hb).1.2.1, (fp3 b hb).1.2.2.2.2.1, (fp3 b hb).1.2.2.2.2.2⟩
      have noC : G5 st3.heap.objs.size = none := by
        have z : G5 ce.locals = none := J6.free
        rw [eloc] at z
        exact z
      obtain ⟨m, hns, _⟩ := J6.loc
      have hns : st6.heap.Ns ce.locals m := hns
      rw [eloc] at hns
      exact hend D st3.heap.objs.size st6 m G5 J7 qD hns (J3.fpOk (Nat.le_refl _) noC)
    · have tit := T.item (X.blk st3 G3 scope ce fp) rfl rfl rfl hc i [] st5 _ G5 (fun _ _ => False) J5 (stays J5 no5) tst5 goes
      refine thnF tit fun r st6 ⟨u, hr, h6⟩ => ?_
      subst hr
      refine thnF h6 fun _ st7 ⟨x, G7, J7, rv7, yl7, tst7, no7⟩ => ?_
      have J7' := J7.pinned (stays J7 no7) (T.obj _ _ tst7)
      refine thnF (pgD.run _ st7 _ G7 x u _ J7' rv7 (stepD x G7 yl7)) fun _ st8 ⟨σ8, G8, J8, ew8, k8⟩ => ?_
      refine thnF (ptD.run _ st8 σ8 G8 _ J8 k8) fun b st9 ⟨G9, J9, k9⟩ => ?_
      -- a turn ends, from any slots that know what the block knew when it began
      have finD : ∀ {σ9 : St} {s' : Shared} {H' : Hp}, Inv (X.blk st3 G3 scope ce fp) ([] ++ pinsAt fp st7.heap) σ9 H' s' → (wipe σ (ownN.map (·.2))).length = σ9.length → (∀ (j : Nat) v, (wipe σ (ownN.map (·.2)))[j]? = some (some v) → σ9[j]? = some (some v)) → Nx H' → ∃ m, m < n ∧ ∃ i H', Inv (X.blk st3 G3 scope ce fp) [] (wipe σ (ownN.map (·.2))) H' s' ∧ tn i s'.heap ∧ (∀ b ∈ fp, H' b = none) ∧ W i m H' := fun {σ9 s' H'} I' hl hk nx => by
        obtain ⟨m', hm, w'⟩ := hNxt H' nx
        have pinD : ∀ b ∈ fp, ∀ o, st7.heap.get? b = some o → s'.heap.get? b = some o ∧ H' b = none := fun b hb o e =>
          let z := I'.pin (b, o) (List.mem_append_right _ (List.mem_append_right _ (mem_pinsAt hb e)))
          ⟨z.1, z.2.1⟩
        refine ⟨m', hm, i + 1, H', (I'.unpinned (pins := [])).weak hl hk, T.keep _ _ _ tst7 fun b hb o e => (pinD b hb o e).1, fun b hb => ?_, w'⟩
        obtain ⟨o, e, _⟩ := T.obj _ _ tst7 b hb
        exact (pinD b hb o e).2
      have len8 : (wipe σ (ownN.map (·.2))).length = σ8.length := by rw [← ew8, wipe_length]
      have kno8 : ∀ (j : Nat) v, (wipe σ (ownN.map (·.2)))[j]? = some (some v) → σ8[j]? = some (some v) := fun j v e => by
        rw [← ew8] at e
        exact (wipe_some e).1
      have kno9 : ∀ (j : Nat) v, (wipe σ (ownN.map (·.2)))[j]? = some (some v) → (wipe σ8 vs1)[j]? = some (some v) := fun j v e => by
        rw [← ew8] at e
        obtain ⟨e1, e2⟩ := wipe_some e
        rw [wipe_out fun z => e2 (hv j z)]
        exact e1
      cases b with
      | false =>
        simp only [Bool.false_eq_true, if_false] at k9 ⊢
        exact finD J9 len8 kno8 k9
      | true =>
        simp only [if_true] at k9 ⊢
        refine thnF (pi1.run _ st9 σ8 G9 _ J9 k9) fun xv st10 hx => thnF hx fun itv st11 h11 => ?_
        obtain ⟨it1, fp1, tn1, J1, G11, e1, J11, T1, tst11, fpb, W1, ⟨m1, w1⟩, trn1⟩ := h11
        subst e1
        have stays1 : ∀ {H' : Hp}, (∀ b ∈ fp1, H' b = none) → ∀ b ∈ fp1, FpOk (X.blk st3 G3 scope ce fp) ([] ++ pinsAt fp st7.heap) H' b := fun hn b hb => ⟨hn b hb, (fpb b hb).2⟩
        have lp1 : codeAny (model X.prog X.w) X.A (.compLoop (two0 ke ve tg iter tg1 iter1 ifs ifs1 scope pos) 1 (.ref it1) (.ref D) ce)
            (fun r s' => match r with
              | .ok _ => ∃ m, m < n ∧ ∃ i H', Inv (X.blk st3 G3 scope ce fp) [] (wipe σ (ownN.map (·.2))) H' s' ∧ tn i s'.heap ∧ (∀ b ∈ fp, H' b = none) ∧ W i m H'
              | .error _ => False) st11 := by
          refine loop2_in (fun k s' => ∃ j H', Inv (X.blk st3 G3 scope ce fp) ([] ++ pinsAt fp st7.heap) (wipe σ8 vs1) H' s' ∧ tn1 j s'.heap ∧ (∀ b ∈ fp1, H' b = none) ∧ W1 j k H') ?_ m1 ⟨0, G11, J11.weak (wipe_length _ _) (fun j v e => (wipe_some e).1), tst11, fun b hb => (fpb b hb).1, w1⟩
          rintro k st12 ⟨j, G12, J12, tst12, no12, wv12⟩
          rcases trn1 j k G12 wv12 with ⟨stp1, nxt1⟩ | ⟨goes1, Nx1, hNxt1, stepE⟩
          · refine thnF (T1.done (X.blk st3 G3 scope ce fp) rfl rfl rfl hc j _ st12 (wipe σ8 vs1) G12 (fun _ _ => False) J12 (stays1 no12) tst12 stp1) fun r st13 ⟨hr, J13⟩ => ?_
            subst hr
            exact finD J13 (len8.trans (wipe_length σ8 vs1).symm) kno9 nxt1
          · refine thnF (T1.item (X.blk st3 G3 scope ce fp) rfl rfl rfl hc j _ st12 (wipe σ8 vs1) G12 (fun _ _ => False) J12 (stays1 no12) tst12 goes1) fun r st13 ⟨u1, hr, h13⟩ => ?_
            subst hr
            refine thnF h13 fun _ st14 ⟨x1, G14, J14, rv14, yl14, tst14, no14⟩ => ?_
            have J14' := J14.pinned (stays1 no14) (T1.obj _ _ tst14)
            refine thnF (pg1.run _ st14 (wipe σ8 vs1) G14 x1 u1 _ J14' rv14 (stepE x1 G14 yl14)) fun _ st15 ⟨σ15, G15, J15, ew15, k15⟩ => ?_
            refine thnF (pt1.run _ st15 σ15 G15 _ J15 k15) fun b1 st16 ⟨G16, J16, k16⟩ => ?_
            have finE : ∀ {s' : Shared} {H' : Hp}, Inv (X.blk st3 G3 scope ce fp) (([] ++ pinsAt fp st7.heap) ++ pinsAt fp1 st14.heap) σ15 H' s' → Nx1 H' → ∃ m, m < k ∧ ∃ j H', Inv (X.blk st3 G3 scope ce fp) ([] ++ pinsAt fp st7.heap) (wipe σ8 vs1) H' s' ∧ tn1 j s'.heap ∧ (∀ b ∈ fp1, H' b = none) ∧ W1 j m H' := fun {s' H'} I' nx => by
              obtain ⟨m', hm, w'⟩ := hNxt1 H' nx
              have pinE : ∀ b ∈ fp1, ∀ o, st14.heap.get? b = some o → s'.heap.get? b = some o ∧ H' b = none := fun b hb o e =>
                let z := I'.pin (b, o) (List.mem_append_right _ (List.mem_append_right _ (mem_pinsAt hb e)))
                ⟨z.1, z.2.1⟩
              refine ⟨m', hm, j + 1, H', I'.unpinned.weak (by rw [← ew15, wipe_length]) (fun j v e => by rw [← ew15] at e; exact (wipe_some e).1), T1.keep _ _ _ tst14 fun b hb o e => (pinE b hb o e).1, fun b hb => ?_, w'⟩
              obtain ⟨o, e, _⟩ := T1.obj _ _ tst14 b hb
              exact (pinE b hb o e).2
            cases b1 with
            | false =>
              simp only [Bool.false_eq_true, if_false] at k16 ⊢
              exact finE J16 k16
            | true =>
              simp only [if_true] at k16 ⊢
              refine thnF (pkD.run _ st16 σ15 G16 _ J16 k16) fun z st17 ⟨yke, G17, J17, rv17, k17⟩ => ?_
              refine thnF (pe.run _ st17 σ15 G17 _ J17 k17) fun z2 st18 ⟨yve, G18, J18, rv18, k18⟩ => ?_
              exact thnF (pst.run _ st18 σ15 G18 D yke yve z z2 _ J18 rv17 rv18 k18 (fun _ _ => False)) fun _ st19 ⟨G19, J19, nx⟩ => finE J19 nx
        exact start2_in lp1 (T1.self X.A 0 _ _ _ tst11 lp1)
  exact codeAny_compStart_dict lp (T.self X.A 0 _ _ _ tst4 lp)
/-- as a value -/
theorem pe_dc2 {ke ve tg iter tg1 iter1 : Expr} {ifs ifs1 : List Expr} {scope : Scope} {ownN : List (Str × Nat)} {pos : Pos} {vs1 : List Nat} {wi wi1 : TI} {g g1 : TG} {tt tt1 : TT} {tk tv : TE} {ts : TStore} (hc : X.calm = true) (hN : X.N.Nodup) (hi : PI X tg iter wi) (ok : BlkOk X.N X.env.scope scope ownN) (hv : ∀ i ∈ vs1, i ∈ ownN.map (·.2))
    (hg : ∀ (s : Shared) (H : Hp) (C : Addr) (cl : List (Str × Addr)) (fp : List Addr), PG (X.blk s H scope (compEnvC scope cl C X.env) fp) tg g) (ht : ∀ (s : Shared) (H : Hp) (C : Addr) (cl : List (Str × Addr)) (fp : List Addr), PTs (X.blk s H scope (compEnvC scope cl C X.env) fp) ifs tt)
    (hk : ∀ (s : Shared) (H : Hp) (C : Addr) (cl : List (Str × Addr)) (fp : List Addr), PE (X.blk s H scope (compEnvC scope cl C X.env) fp) ke tk)
    (he : ∀ (s : Shared) (H : Hp) (C : Addr) (cl : List (Str × Addr)) (fp : List Addr), PE (X.blk s H scope (compEnvC scope cl C X.env) fp) ve tv) (hst : ∀ (s : Shared) (H : Hp) (C : Addr) (cl : List (Str × Addr)) (fp : List Addr), PStore (X.blk s H scope (compEnvC scope cl C X.env) fp) ts) 
    (hi1 : ∀ (s : Shared) (H : Hp) (C : Addr) (cl : List (Str × Addr)) (fp : List Addr), PI (X.blk s H scope (compEnvC scope cl C X.env) fp) tg1 iter1 wi1) (hg1 : ∀ (s : Shared) (H : Hp) (C : Addr) (cl : List (Str × Addr)) (fp : List Addr), PG (X.blk s H scope (compEnvC scope cl C X.env) fp) tg1 g1) (ht1 : ∀ (s : Shared) (H : Hp) (C : Addr) (cl : List (Str × Addr)) (fp : List Addr), PTs (X.blk s H scope (compEnvC scope cl C X.env) fp) ifs1 tt1)
    (hs : ∀ x, foldedSetIterable iter X.env x = pure x := by intro _; rfl) (hs1 : ∀ env x, foldedSetIterable iter1 env x = pure x := by intro _ _; rfl) :
    PE X (two0 ke ve tg iter tg1 iter1 ifs ifs1 scope pos) (tDc2 wi g tt wi1 g1 tt1 tk tv ts (ownN.map (·.2)) vs1) := by
  refine ⟨fun pins s σ H Q I h => ?_⟩
  rw [arm_eval_DictComp]
  refine dc2_core hc hN I hi ok hv hg ht hk he hst hs hi1 hg1 ht1 hs1 h fun D C s' m H' I' q hns f => ⟨m, hns, fun h'' sb => ?_⟩
  obtain ⟨f0, f1, fp2, fp3, f4, f5⟩ := f
  exact ⟨.ref D, H', I'.turned (t' := s'.toks) (fun b o hb e => (sb.2 b hb).trans e) f0 f1 fp3 f4 f5, rfl, q⟩
end
end Fg
/-! Fg31: comprehensions with two clauses over data; sorted of any tuples; max(.., default=..). -/
namespace Fg
open PySem PySem.Spec L2
open PyProof.Rows hiding St

def lcI (stay : MM → Prop) (p : Addr) (ρ0 : En) (g : WG) (tt : WB) (te : WE) : List D → List D → MM → (List D → MM → Prop) → Prop
  | [], acc, M, K => stay M ∧ K acc M
  | d :: ds, acc, M, K => stay M ∧ g d ρ0 M (fun ρ1 M1 => tt ρ1 M1 (fun b M2 => if b = true then te ρ1 M2 (fun y M3 => M3 p = some (.lst acc) ∧ acc.length < sizeLine ∧ lcI stay p ρ0 g tt te ds (acc ++ [y]) (up M3 p (.lst (acc ++ [y]))) K) noX else lcI stay p ρ0 g tt te ds acc M2 K) noX) noX
def lc2D (stay : MM → Prop) (p : Addr) (ρ0 : En) (g : WG) (tt : WB) (wi1 : WI) (g1 : WG) (tt1 : WB) (te : WE) (vs1 : List Nat) : List D → List D → MM → (MM → Prop) → Prop
  | [], acc, M, K => stay M ∧ M p = some (.lst acc) ∧ K M
  | d :: ds, acc, M, K => stay M ∧ g d ρ0 M (fun ρ1 M1 => tt ρ1 M1 (fun b M2 => if b = true then wi1 ρ1 M2 (fun ds1 st1 M3 => lcI st1 p (wipeD ρ1 vs1) g1 tt1 te ds1 acc M3 fun acc' M4 => lc2D stay p ρ0 g tt wi1 g1 tt1 te vs1 ds acc' M4 K) noX
      else lc2D stay p ρ0 g tt wi1 g1 tt1 te vs1 ds acc M2 K) noX) noX
def wLc2 (wi : WI) (own : List Nat) (g : WG) (tt : WB) (wi1 : WI) (g1 : WG) (tt1 : WB) (te : WE) (vs1 : List Nat) : WE := fun ρ M Q E => wi ρ M (fun ds stay M1 => ∀ p, M1 p = none → lc2D stay p (wipeD ρ own) g tt wi1 g1 tt1 te vs1 ds [] (up M1 p (.lst [])) fun M2 => Q (.ref p) M2) E
theorem lcI_stay {stay : MM → Prop} {p : Addr} {ρ0 : En} {g : WG} {tt : WB} {te : WE} {ds : List D} {acc : List D} {M : MM} {K : List D → MM → Prop} (h : lcI stay p ρ0 g tt te ds acc M K) : stay M := by
  cases ds with
  | nil => exact h.1
  | cons d ds => exact h.1
theorem lc2D_stay {stay : MM → Prop} {p : Addr} {ρ0 : En} {g : WG} {tt : WB} {wi1 : WI} {g1 : WG} {tt1 : WB} {te : WE} {vs1 : List Nat} {ds : List D} {acc : List D} {M : MM} {K : MM → Prop} (h : lc2D stay p ρ0 g tt wi1 g1 tt1 te vs1 ds acc M K) : stay M := by
  cases ds with
  | nil => exact h.1
  | cons d ds => exact h.1
section
variable {X : Cx} {W : WX}
theorem tLc2_of {wi : WI} {own : List Nat} {g : WG} {tt : WB} {wi1 : WI} {g1 : WG} {tt1 : WB} {te : WE} {vs1 : List Nat} {σ : St} {H : Hp} {Q : VK} (h : upE X W (wLc2 wi own g tt wi1 g1 tt1 te vs1) σ H Q) :
    tLc2 (upI X W wi) (upGR X W0 (ownR own) g) (upB X W0 tt) (upI X W0 wi1) (upGR X W0 (ownR vs1) g1) (upB X W0 tt1) (upE X W0 te) own vs1 σ H Q := by
  obtain ⟨ρ, M, Q0, E0, r, m, t, q, xg⟩ := h
  refine ⟨ρ, M, _, E0, r, m, t, fun ds stay M1 t1 J H1 s1 m1 wk => ?_, xg⟩
  intro p hp
  have z0 := t1 p (m1.fresh hp)
  have sN : Stb H1 (upd H1 p (.lst [])) := Stb.new hp
  refine ⟨fun i k G => i ≤ ds.length ∧ k = ds.length - i ∧ ∃ acc M', RMx X G M' ∧ Stb (upd H1 p (.lst [])) G ∧ lc2D stay p (wipeD ρ own) g tt wi1 g1 tt1 te vs1 (ds.drop i) acc M' fun M2 => Q0 (.ref p) M2,
      ⟨_, Nat.zero_le _, rfl, [], _, m1.new (o := .lst []) hp ⟨[], upd_same, .nil⟩, Stb.refl _, z0⟩, ?_⟩
  rintro i k G ⟨hi, rfl, acc, M', m', s', z'⟩
  have st := lc2D_stay z'
  have sT := sN.trans s'
  obtain ⟨w1, w2⟩ := wk i G M' sT m' st
  by_cases hlt : i < ds.length
  · have hd : ds[i]? = some ds[i] := by simp [hlt]
    obtain ⟨go, yl⟩ := w2 _ hd
    rw [List.drop_eq_getElem_cons hlt] at z'
    refine .inr ⟨go, fun G2 => ∃ acc M2, RMx X G2 M2 ∧ Stb (upd H1 p (.lst [])) G2 ∧ lc2D stay p (wipeD ρ own) g tt wi1 g1 tt1 te vs1 (ds.drop (i + 1)) acc M2 fun M2 => Q0 (.ref p) M2, fun G2 ⟨acc, M2, a2, a3, a4⟩ => ⟨ds.length - (i + 1), by omega, hlt, rfl, acc, M2, a2, a3, a4⟩, fun x G2 hy => ?_⟩
    obtain ⟨s2, m2, rd⟩ := yl x G2 hy
    obtain ⟨_, z'⟩ := z'
    have rw_ : RE X.K G2 (wipeD ρ own) (wipe σ own) := (((r.stb s1).stb sT).stb s2).wipe own
    refine ⟨_, _, M', _, noX, rd, rw_, m2, z', fun ρ3 M3 z3 σ3 G3 s3 r3 m3 hR => ⟨by rw [show wipe σ3 own = wipe (wipe σ own) own from hR, wipe_wipe], ?_⟩, XGo.no⟩
    refine ⟨ρ3, M3, _, noX, r3, m3, z3, fun b M4 z4 G4 s4 m4 => ?_, XGo.no⟩
    have s14 := s'.trans ((s2.trans s3).trans s4)
    cases b with
    | false => exact ⟨acc, M4, m4, s14, z4⟩
    | true =>
      refine ⟨ρ3, M4, _, noX, r3.stb s4, m4, z4, fun ds1 st1 M5 z5 J1 G5 s5 m5 wk1 => ?_, XGo.no⟩
      have s15 := s14.trans s5
      refine ⟨fun j k G => j ≤ ds1.length ∧ k = ds1.length - j ∧ ∃ acc M', RMx X G M' ∧ Stb G5 G ∧ lcI st1 p (wipeD ρ3 vs1) g1 tt1 te (ds1.drop j) acc M' fun acc' M4 => lc2D stay p (wipeD ρ own) g tt wi1 g1 tt1 te vs1 (ds.drop (i + 1)) acc' M4 fun M2 => Q0 (.ref p) M2,
        ⟨_, Nat.zero_le _, rfl, acc, M5, m5, Stb.refl _, z5⟩, ?_⟩
      rintro j k G ⟨hj, rfl, acc, M6, m6, s6, z6⟩
      have sti := lcI_stay z6
      obtain ⟨v1, v2⟩ := wk1 j G M6 s6 m6 sti
      by_cases hjl : j < ds1.length
      · have hd1 : ds1[j]? = some ds1[j] := by simp [hjl]
        obtain ⟨go1, yl1⟩ := v2 _ hd1
        rw [List.drop_eq_getElem_cons hjl] at z6
        refine .inr ⟨go1, fun G2 => ∃ acc M2, RMx X G2 M2 ∧ Stb G5 G2 ∧ lcI st1 p (wipeD ρ3 vs1) g1 tt1 te (ds1.drop (j + 1)) acc M2 fun acc' M4 => lc2D stay p (wipeD ρ own) g tt wi1 g1 tt1 te vs1 (ds.drop (i + 1)) acc' M4 fun M2 => Q0 (.ref p) M2, fun G2 ⟨acc, M2, a2, a3, a4⟩ => ⟨ds1.length - (j + 1), by omega, hjl, rfl, acc, M2, a2, a3, a4⟩, fun x G7 hy => ?_⟩
        obtain ⟨s7, m7, rd7⟩ := yl1 x G7 hy
        obtain ⟨_, z6⟩ := z6
        have rw1 : RE X.K G7 (wipeD ρ3 vs1) (wipe σ3 vs1) := ((((r3.stb s4).stb s5).stb s6).stb s7).wipe vs1
        refine ⟨_, _, M6, _, noX, rd7, rw1, m7, z6, fun ρ8 M8 z8 σ8 G8 s8 r8 m8 hR8 => ⟨by rw [show wipe σ8 vs1 = wipe (wipe σ3 vs1) vs1 from hR8, wipe_wipe], ?_⟩, XGo.no⟩
        refine ⟨ρ8, M8, _, noX, r8, m8, z8, fun b M9 z9 G9 s9 m9 => ?_, XGo.no⟩
        have s59 := s6.trans ((s7.trans s8).trans s9)
        cases b with
        | false => exact ⟨acc, M9, m9, s59, z9⟩
        | true =>
          refine ⟨ρ8, M9, _, noX, r8.stb s9, m9, z9, fun y M10 z10 v G10 s10 rd10 m10 => ?_, XGo.no⟩
          obtain ⟨h1, h2, h5⟩ := z10
          obtain ⟨vs, h3, h4⟩ := m10 p _ h1
          have mu : Mut (G10 p) := by rw [h3]; trivial
          exact ⟨vs, h3, by rw [← h4.length]; exact h2, _, _, m10.mut (o := .lst (acc ++ [y])) mu ⟨vs ++ [v], upd_same, RDs.stb (Stb.mut mu) (h4.append (.cons rd10 .nil))⟩, (s59.trans s10).trans (Stb.mut mu), h5⟩
      · have e : j = ds1.length := by omega
        subst e
        rw [List.drop_length] at z6
        exact .inl ⟨v1 rfl, acc, M6, m6, s15.trans s6, z6.2⟩
  · have e : i = ds.length := by omega
    subst e
    rw [List.drop_length] at z'
    exact .inl ⟨w1 rfl, q _ _ z'.2.2 _ _ (s1.trans sT) (.ref p) m'⟩
end

def dcI (stay : MM → Prop) (p : Addr) (ρ0 : En) (g : WG) (tt : WB) (tk tv : WE) : List D → List (D × D) → MM → (List (D × D) → MM → Prop) → Prop
  | [], acc, M, K => stay M ∧ K acc M
  | d :: ds, acc, M, K => stay M ∧ g d ρ0 M (fun ρ1 M1 => tt ρ1 M1 (fun b M2 => if b = true then tk ρ1 M2 (fun x M3 => tv ρ1 M3 (fun y M4 => ∃ o k, M4 p = some (.dct o acc) ∧ KOk acc x k ∧ acc.length < sizeLine ∧ ∀ o', dcI stay p ρ0 g tt tk tv ds (putKD acc x k y) (up M4 p (.dct o' (putKD acc x k y))) K) noX) noX else dcI stay p ρ0 g tt tk tv ds acc M2 K) noX) noX
def dc2D (stay : MM → Prop) (p : Addr) (ρ0 : En) (g : WG) (tt : WB) (wi1 : WI) (g1 : WG) (tt1 : WB) (tk tv : WE) (vs1 : List Nat) : List D → List (D × D) → MM → (MM → Prop) → Prop
  | [], acc, M, K => stay M ∧ (∃ o, M p = some (.dct o acc)) ∧ K M
  | d :: ds, acc, M, K => stay M ∧ g d ρ0 M (fun ρ1 M1 => tt ρ1 M1 (fun b M2 => if b = true then wi1 ρ1 M2 (fun ds1 st1 M3 => dcI st1 p (wipeD ρ1 vs1) g1 tt1 tk tv ds1 acc M3 fun acc' M4 => dc2D stay p ρ0 g tt wi1 g1 tt1 tk tv vs1 ds acc' M4 K) noX
      else dc2D stay p ρ0 g tt wi1 g1 tt1 tk tv vs1 ds acc M2 K) noX) noX
def wDc2 (wi : WI) (own : List Nat) (g : WG) (tt : WB) (wi1 : WI) (g1 : WG) (tt1 : WB) (tk tv : WE) (vs1 : List Nat) : WE := fun ρ M Q E => wi ρ M (fun ds stay M1 => ∀ p, M1 p = none → dc2D stay p (wipeD ρ own) g tt wi1 g1 tt1 tk tv vs1 ds [] (up M1 p (.dct dct0 [])) fun M2 => Q (.ref p) M2) E
theorem dcI_stay {stay : MM → Prop} {p : Addr} {ρ0 : En} {g : WG} {tt : WB} {tk tv : WE} {ds : List D} {acc : List (D × D)} {M : MM} {K : List (D × D) → MM → Prop} (h : dcI stay p ρ0 g tt tk tv ds acc M K) : stay M := by
  cases ds with
  | nil => exact h.1
  | cons d ds => exact h.1
theorem dc2D_stay {stay : MM → Prop} {p : Addr} {ρ0 : En} {g : WG} {tt : WB} {wi1 : WI} {g1 : WG} {tt1 : WB} {tk tv : WE} {vs1 : List Nat} {ds : List D} {acc : List (D × D)} {M : MM} {K : MM → Prop} (h : dc2D stay p ρ0 g tt wi1 g1 tt1 tk tv vs1 ds acc M K) : stay M := by
  cases ds with
  | nil => exact h.1
  | cons d ds => exact h.1
section
variable {X : Cx} {W : WX}
theorem tDc2_of {wi : WI} {own : List Nat} {g : WG} {tt : WB} {wi1 : WI} {g1 : WG} {tt1 : WB} {tk tv : WE} {vs1 : List Nat} {σ : St} {H : Hp} {Q : VK} (h : upE X W (wDc2 wi own g tt wi1 g1 tt1 tk tv vs1) σ H Q) :
    tDc2 (upI X W wi) (upGR X W0 (ownR own) g) (upB X W0 tt) (upI X W0 wi1) (upGR X W0 (ownR vs1) g1) (upB X W0 tt1) (upE X W0 tk) (upE X W0 tv) (upSt X) own vs1 σ H Q := by
  obtain ⟨ρ, M, Q0, E0, r, m, t, q, xg⟩ := h
  refine ⟨ρ, M, _, E0, r, m, t, fun ds stay M1 t1 J H1 s1 m1 wk => ?_, xg⟩
  intro p hp hsys
  have z0 := t1 p (m1.fresh hp)
  have sN : Stb H1 (upd H1 p (rawO p dct0)) := Stb.new hp
  refine ⟨fun i k G => i ≤ ds.length ∧ k = ds.length - i ∧ ∃ acc M', RMx X G M' ∧ Stb (upd H1 p (rawO p dct0)) G ∧ dc2D stay p (wipeD ρ own) g tt wi1 g1 tt1 tk tv vs1 (ds.drop i) acc M' fun M2 => Q0 (.ref p) M2,
      ⟨_, Nat.zero_le _, rfl, [], _, m1.new (o := .dct dct0 []) hp ⟨[], 0, upd_same, ⟨rfl, rfl, rfl⟩, rfl, hsys, Nat.zero_le _, .inl (fun p h => nomatch h), List.nodup_nil, .nil⟩, Stb.refl _, z0⟩, ?_⟩
  rintro i k G ⟨hi, rfl, acc, M', m', s', z'⟩
  have st := dc2D_stay z'
  have sT := sN.trans s'
  obtain ⟨w1, w2⟩ := wk i G M' sT m' st
  by_cases hlt : i < ds.length
  · have hd : ds[i]? = some ds[i] := by simp [hlt]
    obtain ⟨go, yl⟩ := w2 _ hd
    rw [List.drop_eq_getElem_cons hlt] at z'
    refine .inr ⟨go, fun G2 => ∃ acc M2, RMx X G2 M2 ∧ Stb (upd H1 p (rawO p dct0)) G2 ∧ dc2D stay p (wipeD ρ own) g tt wi1 g1 tt1 tk tv vs1 (ds.drop (i + 1)) acc M2 fun M2 => Q0 (.ref p) M2, fun G2 ⟨acc, M2, a2, a3, a4⟩ => ⟨ds.length - (i + 1), by omega, hlt, rfl, acc, M2, a2, a3, a4⟩, fun x G2 hy => ?_⟩
    obtain ⟨s2, m2, rd⟩ := yl x G2 hy
    obtain ⟨_, z'⟩ := z'
    have rw_ : RE X.K G2 (wipeD ρ own) (wipe σ own) := (((r.stb s1).stb sT).stb s2).wipe own
    refine ⟨_, _, M', _, noX, rd, rw_, m2, z', fun ρ3 M3 z3 σ3 G3 s3 r3 m3 hR => ⟨by rw [show wipe σ3 own = wipe (wipe σ own) own from hR, wipe_wipe], ?_⟩, XGo.no⟩
    refine ⟨ρ3, M3, _, noX, r3, m3, z3, fun b M4 z4 G4 s4 m4 => ?_, XGo.no⟩
    have s14 := s'.trans ((s2.trans s3).trans s4)
    cases b with
    | false => exact ⟨acc, M4, m4, s14, z4⟩
    | true =>
      refine ⟨ρ3, M4, _, noX, r3.stb s4, m4, z4, fun ds1 st1 M5 z5 J1 G5 s5 m5 wk1 => ?_, XGo.no⟩
      have s15 := s14.trans s5
      refine ⟨fun j k G => j ≤ ds1.length ∧ k = ds1.length - j ∧ ∃ acc M', RMx X G M' ∧ Stb G5 G ∧ dcI st1 p (wipeD ρ3 vs1) g1 tt1 tk tv (ds1.drop j) acc M' fun acc' M4 => dc2D stay p (wipeD ρ own) g tt wi1 g1 tt1 tk tv vs1 (ds.drop (i + 1)) acc' M4 fun M2 => Q0 (.ref p) M2,
        ⟨_, Nat.zero_le _, rfl, acc, M5, m5, Stb.refl _, z5⟩, ?_⟩
      rintro j k G ⟨hj, rfl, acc, M6, m6, s6, z6⟩
      have sti := dcI_stay z6
      obtain ⟨v1, v2⟩ := wk1 j G M6 s6 m6 sti
      by_cases hjl : j < ds1.length
      · have hd1 : ds1[j]? = some ds1[j] := by simp [hjl]
        obtain ⟨go1, yl1⟩ := v2 _ hd1
        rw [List.drop_eq_getElem_cons hjl] at z6
        refine .inr ⟨go1, fun G2 => ∃ acc M2, RMx X G2 M2 ∧ Stb G5 G2 ∧ dcI st1 p (wipeD ρ3 vs1) g1 tt1 tk tv (ds1.drop (j + 1)) acc M2 fun acc' M4 => dc2D stay p (wipeD ρ own) g tt wi1 g1 tt1 tk tv vs1 (ds.drop (i + 1)) acc' M4 fun M2 => Q0 (.ref p) M2, fun G2 ⟨acc, M2, a2, a3, a4⟩ => ⟨ds1.length - (j + 1), by omega, hjl, rfl, acc, M2, a2, a3, a4⟩, fun x G7 hy => ?_⟩
        obtain ⟨s7, m7, rd7⟩ := yl1 x G7 hy
        obtain ⟨_, z6⟩ := z6
        have rw1 : RE X.K G7 (wipeD ρ3 vs1) (wipe σ3 vs1) := ((((r3.stb s4).stb s5).stb s6).stb s7).wipe vs1
        refine ⟨_, _, M6, _, noX, rd7, rw1, m7, z6, fun ρ8 M8 z8 σ8 G8 s8 r8 m8 hR8 => ⟨by rw [show wipe σ8 vs1 = wipe (wipe σ3 vs1) vs1 from hR8, wipe_wipe], ?_⟩, XGo.no⟩
        refine ⟨ρ8, M8, _, noX, r8, m8, z8, fun b M9 z9 G9 s9 m9 => ?_, XGo.no⟩
        have s59 := s6.trans ((s7.trans s8).trans s9)
        cases b with
        | false => exact ⟨acc, M9, m9, s59, z9⟩
        | true =>
          refine ⟨ρ8, M9, _, noX, r8.stb s9, m9, z9, fun x10 M10 z10 v10 G10 s10 rd10 m10 => ⟨ρ8, M10, _, noX, (r8.stb s9).stb s10, m10, z10, fun y11 M11 z11 v11 G11 s11 rd11 m11 => ?_, XGo.no⟩, XGo.no⟩
          obtain ⟨o, kk, h1, ok, h2, h5⟩ := z11
          exact ⟨x10, y11, M11, acc, o, kk, rd10.stb s11, rd11, m11, h1, ok, h2, fun o' G' sG mG => ⟨_, _, mG, ((s59.trans s10).trans s11).trans sG, h5 o'⟩⟩
      · have e : j = ds1.length := by omega
        subst e
        rw [List.drop_length] at z6
        exact .inl ⟨v1 rfl, acc, M6, m6, s15.trans s6, z6.2⟩
  · have e : i = ds.length := by omega
    subst e
    rw [List.drop_length] at z'
    exact .inl ⟨w1 rfl, q _ _ z'.2.2 _ _ (s1.trans sT) (.ref p) m'⟩
end

section
variable {U : Ud} {k : Nat} {n : Nm} {elt tg iter tg1 iter1 kx vx : Expr} {es es1 : List Expr} {pos : Pos} {w wk wv : WE} {wi wi1 : WI} {g g1 : WG} {scope : Scope} {tt tt1 : WB}
def two2B (n : Nm) (scope : Scope) (own : List (Str × Nat)) (vs1 : List Nat) (iter iter1 : Expr) : Bool := !n.hot && (blkC n.N n.sc scope own && (!isSet iter && (!isSet iter1 && vs1.all fun i => (own.map (·.2)).contains i)))
theorem two2_ok {own : List (Str × Nat)} {vs1 : List Nat} (h : two2B n scope own vs1 iter iter1 = true) : n.hot = false ∧ blkC n.N n.sc scope own = true ∧ isSet iter = false ∧ isSet iter1 = false ∧ ∀ i ∈ vs1, i ∈ own.map (·.2) := by
  obtain ⟨h1, h⟩ := He.ba h
  obtain ⟨h2, h⟩ := He.ba h
  obtain ⟨h3, h⟩ := He.ba h
  obtain ⟨h4, h5⟩ := He.ba h
  exact ⟨Fg.nb h1, h2, Fg.nb h3, Fg.nb h4, fun i hi => by simpa using List.all_eq_true.mp h5 i hi⟩
theorem m_lc2 (own : List (Str × Nat)) (vs1 : List Nat) (h : two2B n scope own vs1 iter iter1 = true) (hi : JI U k n tg iter wi) (hg : JG U k (n.blk scope) (ownR (own.map (·.2))) tg g) (ht : JTs U k (n.blk scope) es tt)
    (hi1 : JI U k (n.blk scope) tg1 iter1 wi1) (hg1 : JG U k (n.blk scope) (ownR vs1) tg1 g1) (ht1 : JTs U k (n.blk scope) es1 tt1) (he : JE U k (n.blk scope) elt w) :
    JE U k n (.ListComp elt [⟨tg, iter, es, 0⟩, ⟨tg1, iter1, es1, 0⟩] scope pos) (wLc2 wi (own.map (·.2)) g tt wi1 g1 tt1 w vs1) := fun X W g' => by
  obtain ⟨hh, ok, h3, h4, h5⟩ := two2_ok h
  exact (pe_lc2 (g := upGR X W0 (ownR (own.map fun (p : Str × Nat) => p.2)) g) (tt := upB X W0 tt) (g1 := upGR X W0 (ownR vs1) g1) (tt1 := upB X W0 tt1) (te := upE X W0 w) (wi1 := upI X W0 wi1) (g'.calm hh) g'.nm (hi X W g') (by have := blkOk_by ok; rw [← g'.eN, ← g'.eS] at this; exact this) h5
    (fun s H C cl fp => hg _ _ (g'.blk hh s H scope C cl fp)) (fun s H C cl fp => ht _ _ (g'.blk hh s H scope C cl fp)) (fun s H C cl fp => hi1 _ _ (g'.blk hh s H scope C cl fp)) (fun s H C cl fp => hg1 _ _ (g'.blk hh s H scope C cl fp)) (fun s H C cl fp => ht1 _ _ (g'.blk hh s H scope C cl fp)) (fun s H C cl fp => he _ _ (g'.blk hh s H scope C cl fp))
    (fold_no h3) (fun env x => fold_no h4 x)).imp fun σ H Q z => tLc2_of z
theorem m_dc2 (own : List (Str × Nat)) (vs1 : List Nat) (h : two2B n scope own vs1 iter iter1 = true) (hi : JI U k n tg iter wi) (hg : JG U k (n.blk scope) (ownR (own.map (·.2))) tg g) (ht : JTs U k (n.blk scope) es tt)
    (hi1 : JI U k (n.blk scope) tg1 iter1 wi1) (hg1 : JG U k (n.blk scope) (ownR vs1) tg1 g1) (ht1 : JTs U k (n.blk scope) es1 tt1) (hk : JE U k (n.blk scope) kx wk) (hv : JE U k (n.blk scope) vx wv) :
    JE U k n (.DictComp kx vx [⟨tg, iter, es, 0⟩, ⟨tg1, iter1, es1, 0⟩] scope pos) (wDc2 wi (own.map (·.2)) g tt wi1 g1 tt1 wk wv vs1) := fun X W g' => by
  obtain ⟨hh, ok, h3, h4, h5⟩ := two2_ok h
  exact (pe_dc2 (g := upGR X W0 (ownR (own.map fun (p : Str × Nat) => p.2)) g) (tt := upB X W0 tt) (g1 := upGR X W0 (ownR vs1) g1) (tt1 := upB X W0 tt1) (tk := upE X W0 wk) (tv := upE X W0 wv) (ts := upSt X) (wi1 := upI X W0 wi1) (g'.calm hh) g'.nm (hi X W g') (by have := blkOk_by ok; rw [← g'.eN, ← g'.eS] at this; exact this) h5
    (fun s H C cl fp => hg _ _ (g'.blk hh s H scope C cl fp)) (fun s H C cl fp => ht _ _ (g'.blk hh s H scope C cl fp)) (fun s H C cl fp => hk _ _ (g'.blk hh s H scope C cl fp)) (fun s H C cl fp => hv _ _ (g'.blk hh s H scope C cl fp))
    (fun s H C cl fp => st_up (X := X.blk s H scope (compEnvC scope cl C X.env) fp) g'.hu) (fun s H C cl fp => hi1 _ _ (g'.blk hh s H scope C cl fp)) (fun s H C cl fp => hg1 _ _ (g'.blk hh s H scope C cl fp)) (fun s H C cl fp => ht1 _ _ (g'.blk hh s H scope C cl fp))
    (fold_no h3) (fun env x => fold_no h4 x)).imp fun σ H Q z => tDc2_of z
end
end Fg
/-! Fg32: sorted of any tuples; max(.., default=..). -/
namespace Fg
open PySem PySem.Spec L2
open PyProof.Rows hiding St
/-! ### sorted -/
structure SortOkT (ds : List D) : Prop where
  dat : dats ds = true
  al : ∀ d ∈ ds, ∀ e ∈ ds, PySem.W.alike (toP d) (toP e) = true
  one : (∀ d ∈ ds, ∃ l, d = .tup l) ∨ ∀ d ∈ ds, isAt d = true
  dp : deps ds ≤ 50
theorem SortOk.wk {ds : List D} (h : SortOk ds) : SortOkT ds := ⟨h.dat, h.al, h.one.imp (fun o d hd => let ⟨x, r, e⟩ := o d hd; ⟨x :: r, e⟩) id, h.dp⟩
def cSortT : CD := fun xs M Q => ∃ x ds, xs = [x] ∧ lstOf M x = some ds ∧ SortOkT ds ∧ ∀ p, M p = none → Q (.ref p) (up M p (.lst (ds.mergeSort leD)))
section
variable {X : Cx}
theorem cr_cSortT (hu : X.A.units + 64 < cLine) : CallR X (.builtin "sorted") (upC X cSortT) := call_up fun pins s σ H M ds xs us Q Q0 I m rd rv ⟨x, es, e, hn, ok, t⟩ q => by
  subst e
  obtain ⟨v, rfl, h⟩ := rds1 rd
  obtain ⟨a, vs, rfl, h1, h2⟩ := lstOf_sq m h hn
  rw [Vals.ref1 rv]
  obtain ⟨its, rv', hl, hz⟩ := I.list h1
  have hz' : its.length ≤ sizeLine := by rw [← rv'.length]; exact hz
  have ea := each_of h2 rv'
  have al : PySem.W.AllAlike (toPs es) := fun p hp q hq => by
    obtain ⟨d, hd, rfl⟩ := mem_toPs hp
    obtain ⟨e, he, rfl⟩ := mem_toPs hq
    exact ok.al d hd e he
  have er : PySem.W.EachIs (fun u d => ∃ as, PySem.Reads (PySem.W.sortingHeap (PySem.W.copyHeap s.heap its) (s.heap.objs.size + 1) its) u (toP d) as) its es := (PySem.W.each_mem ea).mono fun u d ⟨⟨y, ry, rdy⟩, hd⟩ => by
    obtain ⟨as, q1⟩ := reads_of I rdy (dat_of ok.dat hd) ry
    exact ⟨as, PyProof.Rows.Reads.keeps (fun b o e => PySem.W.sorting_copy_old e) q1⟩
  have eP := PySem.W.each_map (R := fun u d => ∃ as, PySem.Reads (PySem.W.sortingHeap (PySem.W.copyHeap s.heap its) (s.heap.objs.size + 1) its) u d as) toP er
  rw [← toPs_map] at eP
  have room : ∀ p ∈ toPs es, X.A.in1.in1.units + p.depth < cLine := fun p hp => by
    obtain ⟨d, hd, rfl⟩ := mem_toPs hp
    have := dep_of hd
    have := ok.dp
    rw [dep_toP]
    show X.A.units + 1 + 1 + dep d < cLine
    omega
  have SA : PySem.W.SortsAt X.prog X.w X.A.in1.in1 { s with heap := PySem.W.sortingHeap (PySem.W.copyHeap s.heap its) (s.heap.objs.size + 1) its } (PySem.W.dataKind (PySem.W.sortingHeap (PySem.W.copyHeap s.heap its) (s.heap.objs.size + 1) its) (toPs es)) its := by
    rcases ok.one with o | o
    · refine sorts_tups (s := { s with heap := PySem.W.sortingHeap (PySem.W.copyHeap s.heap its) (s.heap.objs.size + 1) its }) eP al (fun p hp => ?_) room
      obtain ⟨d, hd, rfl⟩ := mem_toPs hp
      obtain ⟨l, rfl⟩ := o d hd
      exact ⟨toPs l, by rw [toP]⟩
    · refine PySem.W.SortsAt.data (s := { s with heap := PySem.W.sortingHeap (PySem.W.copyHeap s.heap its) (s.heap.objs.size + 1) its }) eP al (.inr fun p hp => ?_) room
      obtain ⟨d, hd, rfl⟩ := mem_toPs hp
      have := o d hd
      cases d <;> simp [isAt, toP] at this ⊢
  refine PySem.W.sorted_vals hl.isList SA hz' ?_
  have so2 := PySem.W.sortVals_data (enc := toP) (bs := es) false ea er (by rw [← toPs_map]; exact al)
  rw [← toPs_map] at so2
  obtain ⟨vs2, k1, k2⟩ := of_each so2
  obtain ⟨ep, he'⟩ := PyProof.Rows.sortedAll_at s.heap its (PySem.W.sortVals (PySem.W.dataKind (PySem.W.sortingHeap (PySem.W.copyHeap s.heap its) (s.heap.objs.size + 1) its) (toPs es)) false its its).toArray
  have hp := I.hok.fresh (Nat.le_succ s.heap.objs.size)
  have hlen : vs2.length ≤ sizeLine := by
    rw [← k1.length, List.length_mergeSort, h2.length]
    exact hz
  refine ⟨.ref _, upd H (s.heap.objs.size + 1) (.lst vs2), I.laid (t' := s.toks) (fun _ _ => PyProof.Rows.sortedAll_old) (Nat.le_succ _) ⟨hlen, _, ep, k2, he'⟩, rfl, ?_⟩
  exact q _ _ (t _ (m.fresh hp)) _ _ (Stb.new hp) (.ref _) (m.new (o := .lst (es.mergeSort leD)) hp ⟨vs2, upd_same, RDs.stb (Stb.new hp) k1⟩)
/-! ### a built-in function called with keywords -/
abbrev KD := List D → List D → MM → QD → Prop
def upCK (X : Cx) (o : KD) : List V → List V → Hp → VK → Prop := fun xs zs H Q => ∃ ds es M Q0, RDs X.K H ds xs ∧ RDs X.K H es zs ∧ RMx X H M ∧ o ds es M Q0 ∧ ∀ z M', Q0 z M' → ∀ v H', Stb H H' → RD X.K H' z v → RMx X H' M' → Q v H'
def wClK (o : KD) (wa wk : WA) : WE := fun ρ M Q E => wa ρ M (fun ds M1 => wk ρ M1 (fun es M2 => o ds es M2 Q) E) E
theorem ue_clK {W : WX} {x : Str} {id : String} {ks : List Str} {e : Expr} {es : List Expr} {kws : List Keyword} {p pos : Pos} {o : KD} {wa wk : WA} (hc : CallRK X (.builtin id) ks (upCK X o)) (hg : Gl X x) (hm : X.mg x = none) (hv : bootBuiltins x = some (.builtin id)) (ha : PA X (e :: es) (upA X W wa)) (hk : PK X kws (upA X W wk)) (hn : x ≠ "__name__") (hdb : (x == ("__debug__" : Str)) = false)
    (hs : (e :: es).all noStar = true) (hall : (backToKw pos (keywordEach kws X.env)).all (·.1.isSome) = true) (hks : (backToKw pos (keywordEach kws X.env)).filterMap (·.1) = ks) (hpl : (backToKw pos (keywordEach kws X.env)).any (·.1.isNone) = false) :
    PE X (.Call (.Name x p) (e :: es) kws pos) (upE X W (wClK o wa wk)) := by
  have hs1 : noStar e = true := by rw [List.all_cons, Bool.and_eq_true] at hs; exact hs.1
  refine (pe_callBK hc hg hm hv ha hk hn hdb (by rw [star_cons hs1]; rfl) (star_plain hs) hall hpl hks).imp fun σ H Q ⟨ρ, M, Q0, E0, r, m, t, q, xg⟩ => ?_
  exact ⟨ρ, M, _, E0, r, m, t, fun ds M1 t1 ys H1 s1 rd m1 => ⟨ρ, M1, _, E0, r.stb s1, m1, t1, fun zs M2 t2 ys2 H2 s2 rd2 m2 => ⟨ds, zs, M2, Q0, RDs.stb s2 rd, rd2, m2, t2, fun z M' hz v H' s' rv mv => q z M' hz v H' ((s1.trans s2).trans s') rv mv⟩, xg.stb s1⟩, xg⟩
def cMaxD : KD := fun xs zs M Q => ∃ x ns d, xs = [x] ∧ zs = [d] ∧ lstOf M x = some (ns.map D.int) ∧ Q (match ns with | [] => d | n :: r => .int (r.foldl max n)) M
theorem reads_ints {h : Heap} : ∀ {vs : List Value} {ns : List Int}, IntsAre vs ns → ∃ as, PySem.ReadsAll h vs (ns.map PyData.int) as
  | _, _, .nil => ⟨[], .nil⟩
  | _, _, .cons n t r => let ⟨as, q⟩ := reads_ints r; ⟨[] ++ as, .cons (.int n t) q⟩
theorem alike_ints_ (ns : List Int) : PySem.W.AlikeAll (ns.map PyData.int) := by
  refine ⟨fun x hx y hy => ?_, fun x hx => ?_⟩
  · obtain ⟨i, _, rfl⟩ := List.mem_map.mp hx
    obtain ⟨j, _, rfl⟩ := List.mem_map.mp hy
    rfl
  · obtain ⟨i, _, rfl⟩ := List.mem_map.mp hx
    intro z; cases z
theorem depth_ints_ : ∀ ns : List Int, PyData.depthAll (ns.map PyData.int) = 0
  | [] => by simp [PyData.depthAll]
  | n :: ns => by
    rw [List.map_cons, PyData.depthAll, depth_ints_ ns]
    simp [PyData.depth]
theorem rds_ints {K : PySem.W.Frag} {H : Hp} : ∀ {ns : List Int} {vs : List V}, RDs K H (ns.map D.int) vs → vs = ns.map V.int
  | [], _, .nil => rfl
  | n :: ns, _, .cons h t => by
    cases h
    rw [rds_ints t]; rfl
theorem cr_maxD (hc : X.calm = true) (hu : X.A.units + 64 < cLine) : CallRK X (.builtin "max") [Str.ofString "default"] (upCK X cMaxD) := by
  intro pins s σ H xs zs us ws Q I rx rz h
  obtain ⟨ds, es, M, Q0, rd, re, m, ⟨x, ns, d, e1, e2, h1, t⟩, q⟩ := h
  subst e1 e2
  obtain ⟨v, rfl, hx⟩ := rds1 rd
  obtain ⟨y, rfl, hy⟩ := rds1 re
  obtain ⟨a, vs, rfl, h2, h3⟩ := lstOf_sq m hx h1
  rw [Vals.ref1 rx]
  obtain ⟨its, rv, hl, hz⟩ := I.list h2
  have ev := rds_ints h3
  subst ev
  have hi := rv.ints
  obtain ⟨as, hr⟩ := reads_ints (h := s.heap) hi
  cases rz with
  | @cons _ u _ _ r1 rz =>
    cases rz
    show wpAny _ _ (call (.builtin "max") [.ref a] [(Str.ofString "default", u)]) _ _ _
    refine PySem.W.max_list_default (xs := ns.map PyData.int) (I.ok.hd hc) hl.isList (by simpa using hr) (alike_ints_ ns) (by rw [depth_ints_]; show X.A.units + 1 + 0 < cLine; omega) (fun hn h' tk hk => ?_) (fun y0 ys i v h' tk bs ex hv rv' hk => ?_)
    · have : ns = [] := by simpa using hn
      subst this
      exact ⟨y, H, I.kept hk, r1, q _ _ t _ _ (Stb.refl H) hy m⟩
    · cases ns with
      | nil => simp at ex
      | cons n r =>
        rw [List.map_cons, List.cons.injEq] at ex
        obtain ⟨rfl, rfl⟩ := ex
        rw [PySem.W.maxD_ints] at rv'
        cases rv'
        exact ⟨.int _, H, I.kept hk, ⟨_, rfl⟩, q _ _ t _ _ (Stb.refl H) (.int _) m⟩
end
section
variable {U : Ud} {k : Nat} {n : Nm} {e : Expr} {es : List Expr} {pos p : Pos} {x : Str} {ks : List Str} {kws : List Keyword} {wa wk : WA} {id : String} {o : KD}
theorem f_sortT : ∀ X W, Gd U k n X W → CallR X (.builtin "sorted") (upC X cSortT) := fun _ _ g => cr_cSortT g.hu
theorem f_maxD (h : n.hot = false) : ∀ X W, Gd U k n X W → CallRK X (.builtin "max") [Str.ofString "default"] (upCK X cMaxD) := fun _ _ g => cr_maxD (g.calm h) g.hu
def bkB (n : Nm) (x : Str) (v : Value) (es : List Expr) (kws : List Keyword) (ks : List Str) : Bool := bfB n x v es && decide (kws.map (·.1) = ks.map some)
theorem m_blK (hc : ∀ X W, Gd U k n X W → CallRK X (.builtin id) ks (upCK X o)) (f : U.mg x = none) (h : bkB n x (.builtin id) (e :: es) kws ks = true) (ha : JA U k n (e :: es) wa) (hk : JK U k n kws wk) : JE U k n (.Call (.Name x p) (e :: es) kws pos) (wClK o wa wk) := fun X W g => by
  obtain ⟨h, h5⟩ := He.ba h
  obtain ⟨h1, h⟩ := He.ba h
  obtain ⟨h2, h⟩ := He.ba h
  obtain ⟨h3, h4⟩ := He.ba h
  obtain ⟨i1, i2, i3⟩ := kw_all kws ks (of_decide_eq_true h5) pos X.env
  exact ue_clK (hc X W g) (g.gl (of_decide_eq_true (He.ba h1).1)) (by rw [g.eM]; exact f) (of_decide_eq_true h2) (ha X W g) (hk X W g) (of_decide_eq_true h3) (dbg_ok (He.ba h1).2) h4 i1 i2 i3
end
end Fg
/-! Fg33: a, b = e1, e2; pop(i). -/
namespace Fg
open PySem PySem.Spec L2
open PyProof.Rows hiding St
section
variable {U : Ud} {k : Nat} {n : Nm} {a b : Expr} {x y : Str} {px py pt pos pt2 : Pos} {kt k2 : Nat} {wa wb : WE}
def parB (n : Nm) (i j : Nat) (x y : Str) (a b : Expr) : Bool := decide (n.N[i]? = some x) && (decide (n.N[j]? = some y) && (decide (i ≠ j) && (decide (n.sc.names.lookup x = some .local) && (decide (n.sc.names.lookup y = some .local) && (noStar a && (noStar b && !n.hot))))))
theorem m_par (i j : Nat) (h : parB n i j x y a b = true) (hw : ∀ env : PySem.Env, env.scope = n.sc → swappedStores [.Tuple [.Name x px, .Name y py] kt pt] (.Tuple [a, b] k2 pt2) env = pure (some [x, y])) (ha : JE U k n a wa) (hb : JE U k n b wb) :
    JS U k n (.Assign [.Tuple [.Name x px, .Name y py] kt pt] (.Tuple [a, b] k2 pt2) pos) (wPar i j wa wb) := fun X W g => by
  obtain ⟨h1, h⟩ := He.ba h
  obtain ⟨h2, h⟩ := He.ba h
  obtain ⟨h3, h⟩ := He.ba h
  obtain ⟨h4, h⟩ := He.ba h
  obtain ⟨h5, h⟩ := He.ba h
  obtain ⟨h6, h⟩ := He.ba h
  obtain ⟨h7, h8⟩ := He.ba h
  exact us_par (a := a) (b := b) (ps_par (g.calm (nb h8)) g.nm (g.ix (of_decide_eq_true h1)) (g.ix (of_decide_eq_true h2)) (of_decide_eq_true h3) (by rw [g.eS]; exact of_decide_eq_true h4) (by rw [g.eS]; exact of_decide_eq_true h5)
    (pa_cons (ha X W g) (pa_cons (hb X W g) pa_nil (star_cons h7)) (star_cons h6)) (hw X.env g.eS) rfl)
end
section
variable {X : Cx}
def mPopA : MD := fun o xs M Q => ∃ a ds i j d, o = .ref a ∧ xs = [.int i] ∧ M a = some (.lst ds) ∧ -(2 ^ 63) ≤ i ∧ i < 2 ^ 63 ∧ ixN ds.length i = some j ∧ ds[j]? = some d ∧ Q d (up M a (.lst (ds.eraseIdx j)))
theorem RDs.eraseIdx {K : PySem.W.Frag} {H : Hp} : ∀ {ds : List D} {vs : List V}, RDs K H ds vs → ∀ j, RDs K H (ds.eraseIdx j) (vs.eraseIdx j)
  | _, _, .nil, j => .nil
  | _, _, .cons r t, 0 => t
  | _, _, .cons r t, j + 1 => .cons r (RDs.eraseIdx t j)
theorem md_popA : MtR X "list.pop" (upM X mPopA) := fun pins s σ H x xs v us Q I rx rv ⟨d, ds, M, Q0, rd, rds, m, ⟨a, es, i, j, e, e1, e2, h1, g1, g2, hj, h2, t⟩, q⟩ => by
  subst e1 e2
  cases rd
  obtain ⟨y0, rfl, ry0⟩ := rds1 rds
  cases ry0
  obtain ⟨vs, h3, h4⟩ := m a _ h1
  have mu := mut_lst h3
  obtain ⟨y, h5, ry⟩ := h4.get h2
  have s1 : Stb H (upd H a (.lst (vs.eraseIdx j))) := Stb.mut mu
  refine mt_popAt pins s σ H _ _ v us Q I rx rv ⟨a, vs, i, j, y, rfl, rfl, h3, g1, g2, ?_, h5, q _ _ t _ _ s1 (ry.stb s1) (m.mut (o := .lst (es.eraseIdx j)) mu ⟨_, upd_same, RDs.stb s1 (h4.eraseIdx j)⟩)⟩
  rw [← h4.length]
  exact (ixN_seq hj).1
end
end Fg
/-! Fg34: own defs called within an except suite. -/
namespace Fg
open PySem PySem.Spec L2
open PyProof.Rows hiding St
/-- a promise without exceptions -/
def upSpH (K : PySem.W.Frag) (w : World) (sp : SpD) : Sp := fun vs H Q _ => ∃ ds M Q0, RDs K H ds vs ∧ RM K w H M ∧ sp ds M Q0 noX ∧ ∀ d M', Q0 d M' → ∀ y H', Stb H H' → RD K H' d y → RM K w H' M' → Q y H'
def FnHasH (P : Program) (w : World) (K : PySem.W.Frag) (mg : Str → Option Value) (base : Heap) (k : Nat) (x : Str) (sp : SpD) : Prop :=
  ∃ f, mg x = some (.ref f) ∧ ∃ fd ps, L2H.FnH P w K mg base (L2N.CX P w) k f fd ps (upSpH K w sp) ∧ PySem.W.keepIn K (.ref f) = true ∧ Binds K fd ps []
def wCallH (sp : SpD) (wa : WA) : WE := fun ρ M Q E => wa ρ M (fun ds M1 => sp ds M1 Q noX) E
theorem passH {CX : CXT} {X : Cx} {σ : St} (h : ∀ (o : List Env) (H : Hp) (s : Shared) (e : Value) (s' : Shared), ¬ CX o H s (fun _ _ _ => False) e s') : PassesAt CX X σ (fun _ _ _ => False) := fun _ _ _ _ _ _ c => (h _ _ _ _ _ c).elim
section
variable {U : Ud} {k : Nat} {N ps : List Str} {x qual : Str} {params : Arguments} {body : List Stmt} {scope : Scope} {f : Addr} {fd : FuncData} {w : WS}
theorem fn_okH (F : FunD U.K x qual params body scope [] [] f fd) (S : FnScope N ps scope) (h : JSs U k ⟨N, scope, fun _ => true, true, none, true⟩ body w) :
    L2H.FnH U.P U.w U.K U.mg U.base (L2N.CX U.P U.w) (k + 1) f fd ps (upSpH U.K U.w (spW N ps.length w)) := by
  obtain ⟨oc, od, dV, kV, doc, pm, an, cdv, ct, osl, rfl, lk, hcd, _, _⟩ := F.ex
  refine L2H.fn_ofH lk hcd S (fun vs H Q E z => ?_) (fun A outer s H vs Q E p hot hr z => ?_)
  · obtain ⟨ds, M, Q0, rd, m, z, q⟩ := z
    rw [← rd.length]; exact z.1
  · obtain ⟨ds, M, Q0, rd, m, z, q⟩ := z
    refine ⟨_, h (L2H.cxH (L2N.CX U.P U.w) U.P U.w U.K U.mg U.base N qual scope f cdv A outer s H E p) W0 ⟨rfl, rfl, rfl, rfl, rfl, rfl, rfl, S.nd, fun h => (nomatch h), fun h => (nomatch h), Nat.lt_of_le_of_lt (show (A.deeper (envOfC qual scope s.heap.objs.size f cdv)).units + 64 ≤ _ by omega) hr.un, takes0N, fun h => (nomatch h), fun _ _ _ h => (nomatch h), fun _ => ⟨⟨p, hot, List.mem_cons_self ..⟩, hr⟩, fun _ => ⟨rfl, rfl⟩, fun _ _ => rfl⟩, ?_⟩
    exact ⟨_, M, _, _, re_start rd, m, z.2, ⟨fun ρ' M' z σ' H' s' r' m' => q _ M' z _ H' s' .non m', fun d M' z y H' s' rd' m' => q d M' z y H' s' rd' m', fun _ _ z => z.elim, fun _ _ z => z.elim⟩, fun x ρ' M' z cls d σ' H' s' r' x' m' => z.elim⟩
end
section
variable {hd : Hd} {U : Ud}
theorem Fct.fnH (F : Fct hd U) {k : Nat} {N ps : List Str} {w : WS} (i j : Nat) {d : He.DefD} {x : Str} (h : hd.fn[i]? = some d) (ha : d.at_ = (x, none)) (hf : d.dfl = [] ∧ d.kwd = []) (hg : hd.fa[j]? = some (.glo x)) (S : FnScope N ps d.scope)
    (hb : ∀ (kV doc pm : Value) (an : Option Addr) (cdv ct : Value) (us : List Value), us.length = ps.length → bindArgs (PySem.W.fnOf d.name d.qual d.params d.body d.scope .none kV doc pm an cdv ct) ⟨us, []⟩ = pure (ps.zip us))
    (hk : JSs U k ⟨N, d.scope, fun _ => true, true, none, true⟩ d.body w) : FnHasH U.P U.w U.K U.mg U.base (k + 1) x (spW N ps.length w) := by
  obtain ⟨fd, D⟩ := F.says.1.1.def_ i h
  have e1 : d.dvs U.K = [] := by unfold He.DefD.dvs; rw [hf.1]; rfl
  have e2 : d.kws U.K = [] := by unfold He.DefD.kws; rw [hf.2]; rfl
  rw [e1, e2, ha] at D
  exact ⟨_, F.glo j hg, fd, ps, fn_okH D S hk, D.kp, D.bindsN hb⟩
end
theorem cx_no {P : Program} {w : World} {o : List Env} {H : Hp} {s : Shared} {e : Value} {s' : Shared} : ¬ L2N.CX P w o H s (fun _ _ _ => False) e s' := fun c => by
  obtain ⟨_, _, _, _, _, _, _, _, _, _, _, _, z⟩ := c
  exact z
section
variable {X : Cx} {W : WX} {e : Expr} {es : List Expr} {pos p : Pos} {x : Str} {k : Nat} {sp : SpD} {wa : WA}
theorem ue_callH (hf : FnHasH X.prog X.w X.K X.mg X.base k x sp) (hr : L2H.RoomH k X.A) (hc : L2H.HotC X) (hg : Gl X x) (hdb : (x == ("__debug__" : Str)) = false) (ha : PA X (e :: es) (upA X W wa)) (hs : (e :: es).all noStar = true) :
    PE X (.Call (.Name x p) (e :: es) [] pos) (upE X W (wCallH sp wa)) := by
  obtain ⟨f, hm, fd, ps, F, kp, bd⟩ := hf
  rw [List.all_cons, Bool.and_eq_true] at hs
  refine (L2H.pe_callH (E := fun _ _ _ _ => False) F hr hc hg hm kp bd (fun σ => passH fun _ _ _ _ _ => cx_no) ha hdb (star_cons hs.1) (star_plain hs.2)).imp fun σ H Q ⟨ρ, M, Q0, E0, r, m, t, q, xg⟩ => ?_
  exact ⟨ρ, M, _, E0, r, m, t, fun ds M1 t1 ys H1 s1 rd m1 => ⟨ds, M1, Q0, rd, m1, t1, fun d M' qd y H' s' => q d M' qd y H' (s1.trans s')⟩, xg⟩
end
section
variable {U : Ud} {k : Nat} {n : Nm} {e : Expr} {es : List Expr} {pos p : Pos} {x : Str} {ws : WA} {st : Stmt}
def caH (n : Nm) (x : Str) (es : List Expr) : Bool := gB n x && es.all noStar
theorem m_callH {sp : SpD} {j : Nat} (f : FnHasH U.P U.w U.K U.mg U.base j x sp) (hh : n.hot = true) (hj : j ≤ k) (h : caH n x (e :: es) = true) (ha : JA U k n (e :: es) ws) : JE U k n (.Call (.Name x p) (e :: es) [] pos) (wCallH sp ws) := fun X W g => by
  obtain ⟨h1, h2⟩ := He.ba h
  refine ue_callH (k := j) ?_ ((g.hotc hh).2.mono hj) (g.hotc hh).1 (g.gl (of_decide_eq_true (He.ba h1).1)) (dbg_ok (He.ba h1).2) (ha X W g) h2
  rw [g.eP, g.eW, g.eK, g.eM, g.eB]; exact f
/-- a statement that is never met -/
def wNo : WS := fun _ _ _ _ => False
theorem s_no : JS U k n st wNo := fun X W g => ⟨fun pins s σ H B I ⟨_, _, _, _, _, _, z, _⟩ => z.elim⟩
end
end Fg
/-! Fg35: min of a list of texts within an except suite. -/
namespace Fg
open PySem PySem.Spec L2 HotX
open PyProof.Rows hiding St
section
variable {prog : Program} {w : World} {A : Around} {E : Value → Shared → Prop} {s : Shared}
theorem hot_keeps {A : Around} {x1 : Addr} {h h' : Heap} (c : HotAt A x1 h) (k : ∀ o, h.get? x1 = some o → h'.get? x1 = some o) : HotAt A x1 h' := by
  obtain ⟨hh, o, vs, h1, d1, c1⟩ := c
  exact ⟨hh, o, vs, k _ h1, d1, c1⟩
theorem lend_hot {it l x1 : Addr} {i : Nat} {items : Array Value} {Q : Option Value → Shared → Prop} (hot : HotAt A x1 s.heap) (hne : x1 ≠ it) (hit : s.heap.IsListIter it l i) (hl : s.heap.IsList l items) (hx : items[i]? = none)
    (hQ : ∀ h', (∀ b o, b ≠ it → s.heap.get? b = some o → h'.get? b = some o) → Q none { s with heap := h' }) : wpAny (model prog w) A (pyNext (.ref it)) Q E s := by
  obtain ⟨o, ho, hc, hd⟩ := id hit
  obtain ⟨ol, hol, _, nl, hdl⟩ := hl
  obtain ⟨hh, o1, vs1, h1, d1, c1⟩ := hot
  unfold pyNext
  refine wpAny_bind (wpAny_attempt (wpAny_callSpecial?_slot (name := Str.ofString "__next__") hit.typeIs slot_listiter_next (wpAny_call_entry slot_listiter_next hit.typeIs entry_listiter_next (show wpAny _ _ (field (.ref it) 0 >>= _) _ _ s from ?_) (args_listiter_next _))))
  refine wpAny_bind (wpAny_field ho hd (x := .ref l) rfl (show wpAny _ _ (if (Value.ref l == Value.none) = true then _ else _) _ _ s from ?_))
  rw [if_neg (show ¬ ((Value.ref l == Value.none) = true) from Bool.false_ne_true)]
  refine (show wpAny _ _ (field (.ref it) 1 >>= _) _ _ s from wpAny_bind (wpAny_field ho hd (x := .int i 0) rfl (show wpAny _ _ (seqItems? (.ref l) >>= _) _ _ s from wpAny_bind (wpAny_seqItems hol hdl ?_))))
  simp only [Int.toNat_natCast, hx]
  refine wpAny_bind (wpAny_rule (wpAny_bind (wpAny_setField ho hd (by simp) (show wpAny _ _ (newExc (.type "StopIteration") [] >>= _) _ _ _ from wpAny_bind ?_))))
  simp only [newExc, newTuple]
  refine wpAny_bind (wpAny_newObj_type (wpAny_bind (m := firstArgMember _ _) (wpAny_of_eq (a := Value.none) (by first | rfl | (simp only [firstArgMember]; rfl)) (wpAny_newObj_type ?_ (by size_fits))) ) (by size_fits))
  have k1 : ∀ b o, b ≠ it → s.heap.get? b = some o → (s.heap.update it (Obj.mapFields (·.setIfInBounds 0 .none))).get? b = some o := fun b o hb e => by rw [Heap.get?_update_other _ _ (Ne.symm hb)]; exact e
  refine raiseNew_hot ⟨hh, o1, vs1, Heap.get?_push_of_some _ (Heap.get?_push_of_some _ (k1 _ _ hne h1)), d1, c1⟩ (Nat.ne_of_lt (Heap.lt_size (Heap.get?_push_of_some _ (k1 _ _ hne h1)))) (Heap.get?_push_size _ rfl) rfl (by first | (simp; done) | (simp; omega) | (simp only [Array.size_append]; simp; omega)) ?_
  refine wpAny_bind (wpAny_isInstance (T := "StopIteration") (b := true) ⟨_, Heap.get?_update_self _ (Heap.get?_push_size _ rfl) rfl, rfl⟩ isSubtype_stop ?_)
  refine wpAny_pure (hQ _ fun b o hb e => ?_)
  have e1 := k1 b o hb e
  rw [Heap.get?_update_other _ _ (Nat.ne_of_gt (Heap.lt_size (Heap.get?_push_of_some _ e1)))]
  exact Heap.get?_push_of_some _ (Heap.get?_push_of_some _ e1)
theorem walks_hot {I ax x1 : Addr} (hne : ax ≠ I) (hx1 : x1 ≠ I) (items : Array Value) : WalksS prog w A I [I, ax, x1] [I] (fun a b => b = a) items.size (fun i v => items[i]? = some v) (fun i s' => s'.heap.IsListIter I ax i ∧ s'.heap.IsList ax items ∧ HotAt A x1 s'.heap) where
  sub := fun b hb => by simp at hb; simp [hb]
  grefl := fun _ => rfl
  gtrans := fun _ _ _ h1 h2 => h2.trans h1
  frame := fun i s h' tk st _ hk => ⟨st.1.at fun o e => hk I (by simp) o e, st.2.1.at fun o e => hk ax (by simp) o e, hot_keeps st.2.2 fun o e => hk x1 (by simp) o e⟩
  item := fun i s Q E hi st hQ => by
    refine wpAny_pyNext_list_item st.1 st.2.1 (x := items[i]) (by simp [hi]) fun h' hit' hs' => ?_
    have k1 : ∀ b o, b ≠ I → s.heap.get? b = some o → h'.get? b = some o := fun b o hb e => hs'.extBut b o hb e
    exact hQ _ _ (by simp [hi]) ⟨hit', st.2.1.extBut hs'.extBut hne, hot_keeps st.2.2 fun o e => k1 x1 o hx1 e⟩ ⟨fun b o hb e => k1 b o (fun z => hb (by simp [z])) e, rfl, rfl, rfl, Nat.le_refl _⟩
  done := fun s Q E st hQ => lend_hot st.2.2 hx1 st.1 st.2.1 (by simp) fun h' k1 => hQ _ ⟨fun b o hb e => k1 b o (fun z => hb (by simp [z])) e, rfl, rfl, rfl, Nat.le_refl _⟩
  self := fun _ _ _ _ st hQ => wpAny_pyIter_listiter st.1 hQ
theorem min_hot {l x1 : Addr} {vs : Array Value} {x : PyData} {xs : List PyData} {as : List Addr} {Q : Value → Shared → Prop} (hot : HotAt A x1 s.heap) (hl : s.heap.IsList l vs) (hr : ReadsAll s.heap vs.toList (x :: xs) as) (ha : PySem.W.AlikeAll (x :: xs)) (hu : A.units + 1 + PyData.depthAll (x :: xs) < cLine)
    (h : ∀ (i : Nat) v h' tk bs, vs[i]? = some v → Reads h' v (PySem.W.minD x xs) bs → (∀ b o, s.heap.get? b = some o → h'.get? b = some o) → Q v { s with heap := h', toks := tk }) :
    wpAny (model prog w) A (call (.builtin "min") [.ref l]) Q E s := by
  have hn : vs.size = xs.length + 1 := PySem.W.readsAll_len hr
  have hlt : l < s.heap.objs.size := by obtain ⟨_, e, _⟩ := hl; exact Heap.lt_size e
  have hxt : x1 < s.heap.objs.size := by obtain ⟨_, _, _, e, _⟩ := hot; exact Heap.lt_size e
  have kp : ∀ b o, s.heap.get? b = some o → (s.heap.push { cls := .type "list_iterator", data := .fields #[.ref l, .int 0 0] }).get? b = some o := fun b o e => Heap.get?_push_of_some _ e
  refine call_min_walkH (wpAny_pyIter_list hl ⟨s.heap.objs.size, _, _, _, _, _, _, s.heap, _, rfl, walks_hot (A := A.in1) (x1 := x1) (Nat.ne_of_lt hlt) (Nat.ne_of_lt hxt) vs, ⟨⟨_, Heap.get?_push_size _ rfl, rfl, rfl⟩, hl.push _, hot_keeps (A := A.in1) hot fun o e => kp _ o e⟩, fun b hb => ?_, by omega, fun b o e hb => ?_, kp, PySem.W.cmpIn_lt (A := A.in1) hr ha (by show A.units + 1 + _ < _; exact hu), fun v s' hP m => ?_⟩)
  · show b < (s.heap.push _).objs.size
    rw [Heap.size_push]
    simp at hb
    rcases hb with e | e | e
    · rw [e]; exact Nat.lt_succ_self _
    · rw [e]; exact Nat.lt_succ_of_lt hlt
    · rw [e]; exact Nat.lt_succ_of_lt hxt
  · simp at hb
    exact absurd (Heap.lt_size e) (hb ▸ Nat.lt_irrefl _)
  · obtain ⟨h', tk, rfl, hk'⟩ := PySem.W.moved_old rfl rfl m
    obtain ⟨bs, r, _, _, _⟩ := PySem.W.readsAll_atA hr _ v hP
    have e1 : vs.size - 1 = xs.length := by omega
    have e2 := (PySem.W.argBest_fold PySem.W.dataLt PyData.none x xs xs.length (Nat.le_refl _)).2
    rw [List.take_length] at e2
    rw [e1] at r
    exact h _ v h' tk bs hP (PySem.W.reads_keeps hk' (by unfold PySem.W.minD; rw [← e2]; exact r)) hk'
variable {X : Cx}
def minS (n : Str) (r : List Str) : Str := r.foldl (fun a y => if ltD (.str y) (.str a) = true then y else a) n
theorem minD_texts (r : List Str) : ∀ n : Str, PySem.W.minD (.str n) (r.map PyData.str) = .str (minS n r) := by
  induction r with
  | nil => intro n; rfl
  | cons y r ih =>
    intro n
    show PySem.W.minD (if PySem.W.dataLt (.str y) (.str n) = true then PyData.str y else PyData.str n) (r.map PyData.str) = .str (minS (if ltD (.str y) (.str n) = true then y else n) r)
    have e : PySem.W.dataLt (.str y) (.str n) = ltD (.str y) (.str n) := rfl
    rw [e]
    cases ltD (.str y) (.str n) with
    | true => exact ih y
    | false => exact ih n
def cMinS : CD := fun xs M Q => ∃ x n r, xs = [x] ∧ lstOf M x = some ((n :: r).map D.str) ∧ Q (.str (minS n r)) M
theorem rds_texts {K : PySem.W.Frag} {H : Hp} : ∀ {ns : List Str} {vs : List V}, RDs K H (ns.map D.str) vs → vs = ns.map V.str
  | [], _, .nil => rfl
  | n :: ns, _, .cons h t => by
    cases h
    rw [rds_texts t]; rfl
theorem reads_texts {h : Heap} : ∀ {ns : List Str} {us : List Value}, Vals (ns.map V.str) us → ∃ as, PySem.ReadsAll h us (ns.map PyData.str) as
  | [], _, .nil => ⟨[], .nil⟩
  | n :: ns, _, .cons r t => by
    obtain ⟨as, q⟩ := reads_texts (h := h) t
    obtain ⟨tk, rfl⟩ := r
    exact ⟨[] ++ as, .cons (.str n tk) q⟩
theorem alike_texts (ns : List Str) : PySem.W.AlikeAll (ns.map PyData.str) := by
  refine ⟨fun x hx y hy => ?_, fun x hx => ?_⟩
  · obtain ⟨i, _, rfl⟩ := List.mem_map.mp hx
    obtain ⟨j, _, rfl⟩ := List.mem_map.mp hy
    rfl
  · obtain ⟨i, _, rfl⟩ := List.mem_map.mp hx
    intro z; cases z
theorem depth_texts : ∀ ns : List Str, PyData.depthAll (ns.map PyData.str) = 0
  | [] => by simp [PyData.depthAll]
  | n :: ns => by
    rw [List.map_cons, PyData.depthAll, depth_texts ns]
    simp [PyData.depth]
theorem cr_minSH (hc : L2H.HotC X) (hu : X.A.units + 64 < cLine) : CallR X (.builtin "min") (upC X cMinS) := call_up fun pins s σ H M ds xs us Q Q0 I m rd rv ⟨x, n, r, e, hn, t⟩ q => by
  subst e
  obtain ⟨v, rfl, h⟩ := rds1 rd
  obtain ⟨a, vs, rfl, h2, h3⟩ := lstOf_sq m h hn
  rw [Vals.ref1 rv]
  obtain ⟨its, rw_, hl, hz⟩ := I.list h2
  have ev := rds_texts h3
  subst ev
  obtain ⟨as, hr⟩ := reads_texts (h := s.heap) rw_
  obtain ⟨x1, hot⟩ := hc.at I
  refine min_hot hot hl.isList (x := .str n) (xs := r.map PyData.str) (by simpa using hr) (alike_texts (n :: r)) (by rw [show PyData.str n :: r.map PyData.str = (n :: r).map PyData.str from rfl, depth_texts]; omega) fun i v h' tk bs hv rv' hk => ?_
  rw [minD_texts] at rv'
  cases rv'
  exact ⟨.str _, H, I.kept hk, ⟨_, rfl⟩, q _ _ t _ _ (Stb.refl H) (.str _) m⟩
end
section
variable {U : Ud} {k : Nat} {n : Nm}
theorem f_minSH (h : n.hot = true) : ∀ X W, Gd U k n X W → CallR X (.builtin "min") (upC X cMinS) := fun _ _ g => cr_minSH (g.hotc h).1 g.hu
end
end Fg
/-! Fg36: name = {dict comprehension}. -/
namespace Fg
open PySem PySem.Spec L2
open PyProof.Rows hiding St
section
variable {X : Cx}
theorem ps_setDc {i : Nat} {y : Str} {py : Pos} {ke ve tg iter : Expr} {ifs : List Expr} {scope : Scope} {ownN : List (Str × Nat)} {pos spos : Pos} {wi : TI} {g : TG} {tt : TT} {tk tv : TE} {ts : TStore} (hc : X.calm = true) (hN : X.N.Nodup) (hy : X.N[i]? = some y) (hyl : X.env.scope.names.lookup y = some .local)
    (hsw : swapsWith (.DictComp ke ve [⟨tg, iter, ifs, 0⟩] scope pos) (some (.Name y py)) spos.line X.env = pure true) (hi : PI X tg iter wi) (ok : BlkOk X.N X.env.scope scope ownN)
    (hg : ∀ (s : Shared) (H : Hp) (C : Addr) (cl : List (Str × Addr)) (fp : List Addr), PG (X.blk s H scope (compEnvC scope cl C X.env) fp) tg g)
    (ht : ∀ (s : Shared) (H : Hp) (C : Addr) (cl : List (Str × Addr)) (fp : List Addr), PTs (X.blk s H scope (compEnvC scope cl C X.env) fp) ifs tt)
    (hk : ∀ (s : Shared) (H : Hp) (C : Addr) (cl : List (Str × Addr)) (fp : List Addr), PE (X.blk s H scope (compEnvC scope cl C X.env) fp) ke tk)
    (he : ∀ (s : Shared) (H : Hp) (C : Addr) (cl : List (Str × Addr)) (fp : List Addr), PE (X.blk s H scope (compEnvC scope cl C X.env) fp) ve tv) (hst : ∀ (s : Shared) (H : Hp) (C : Addr) (cl : List (Str × Addr)) (fp : List Addr), PStore (X.blk s H scope (compEnvC scope cl C X.env) fp) ts) (hs : ∀ x, foldedSetIterable iter X.env x = pure x) :
    PS X (.Assign [.Name y py] (.DictComp ke ve [⟨tg, iter, ifs, 0⟩] scope pos) spos) (tAsg (tDcR wi g tt tk tv ts (ownN.map (·.2))) (gName i)) := by
  refine ⟨fun pins s σ H D I h => ?_⟩
  rw [exec_Assign_Name_used _ _ _ _ hsw]
  refine wpAny_bind (wpAny_standAt (wpAny_bind ?_))
  show wpAny _ X.A (do let _ ← comprehension (.DictComp ke ve [⟨tg, iter, ifs, 0⟩] scope pos) scope X.env (firstIterPos [⟨tg, iter, ifs, 0⟩] pos) newDict false (eval iter X.env) (some (assign (.Name y py) X.env))) _ _ s
  have h : tDcR wi g tt tk tv ts (ownN.map (·.2)) σ H (fun x H1 => gName i x σ H1 D.nx) := h
  refine wpAny_bind (thn (dcr_core (Qf := fun _ s' => SP X pins D .next s') hc hN I hi ok hg ht hk he hst hs h fun L C s' m H' I' q hn f => ?_) fun _ s' hq => wpAny_pure (wpAny_pure hq))
  show wpAny _ _ (assign (.Name y py) X.env (.ref L)) _ _ _
  obtain ⟨f0, f1, f2, f3, f4, f5⟩ := f
  refine wpAny_assign_Name (store_ok2 (v := V.ref L) I' hN hy (.inl hyl) rfl (fun s2 I2 ⟨a, sb, ha⟩ => ?_) (.inr hyl))
  have haC : C ≠ a := ha.elim (fun z => by rw [z]; exact f1) fun z e => f4 y a z e.symm
  exact ⟨m, hn.sameBut sb haC, fun h3 sb3 => ⟨_, H', I2.turned (t' := s2.toks) (fun b o hb e => (sb3.2 b hb).trans e) f0 f1 f3 f4 f5, q⟩⟩
end
section
variable {U : Ud} {k : Nat} {n : Nm} {kx vx tg iter : Expr} {es : List Expr} {pos py spos : Pos} {x : Str} {wk wv : WE} {wi : WI} {g : WG} {tt : WB} {scope : Scope} {w : WE} {i : Nat}
theorem swap_dc {gs : List Comprehension} {l : Nat} {env : PySem.Env} (h : env.scope = n.sc) : swapsWith (.DictComp kx vx gs scope pos) (some (.Name x py)) l env = pure (swB n.sc scope x py pos) := by
  unfold swapsWith swB PySem.Env.blockKind PySem.Env.kindOf
  rw [h]
  rfl
theorem m_sdc (own : List (Str × Nat)) (i : Nat) (h : ((!n.hot && (blkC n.N n.sc scope own && !isSet iter)) && stoB n i x) = true) (hi : JI U k n tg iter wi) (hg : JG U k (n.blk scope) (ownR (own.map (·.2))) tg g)
    (ht : JTs U k (n.blk scope) es tt) (hk : JE U k (n.blk scope) kx wk) (hv : JE U k (n.blk scope) vx wv) : JS U k n (.Assign [.Name x py] (.DictComp kx vx [⟨tg, iter, es, 0⟩] scope pos) spos) (wAsg (wDc wi (own.map (·.2)) g tt wk wv) (gNm i)) := fun X W g' => by
  obtain ⟨h, h3⟩ := He.ba h
  obtain ⟨s1, s2⟩ := sto_ok h3
  cases q : swB n.sc scope x py pos with
  | false => exact us_set g'.nm (g'.ix s1) (g'.loc s2.loc) (m_dc own h hi hg ht hk hv X W g') ((swap_dc g'.eS).trans (congrArg _ q)) (g'.st s2)
  | true =>
    have hl : n.sc.names.lookup x = some .local := by
      unfold swB at q
      simp only [Bool.and_eq_true, beq_iff_eq] at q
      exact q.1.1.2
    have hh := nb (He.ba h).1
    refine (ps_setDc (i := i) (g := upGR X W0 (ownR (own.map fun (p : Str × Nat) => p.2)) g) (tt := upB X W0 tt) (tk := upE X W0 wk) (tv := upE X W0 wv) (ts := upSt X) (g'.calm hh) g'.nm (g'.ix s1) (by rw [g'.eS]; exact hl) ((swap_dc g'.eS).trans (congrArg _ q)) (hi X W g') (by have := blkOk_by (He.ba (He.ba h).2).1; rw [← g'.eN, ← g'.eS] at this; exact this)
      (fun s H C cl fp => hg _ _ (g'.blk hh s H scope C cl fp)) (fun s H C cl fp => ht _ _ (g'.blk hh s H scope C cl fp)) (fun s H C cl fp => hk _ _ (g'.blk hh s H scope C cl fp)) (fun s H C cl fp => hv _ _ (g'.blk hh s H scope C cl fp))
      (fun s H C cl fp => st_up (X := X.blk s H scope (compEnvC scope cl C X.env) fp) g'.hu) (fold_no (nb (He.ba (He.ba h).2).2))).imp fun B σ H z => ?_
    obtain ⟨ρ, M, N, E0, r, m, z, gg, xg⟩ := z
    exact tDc_of (X := X) (W := W) ⟨ρ, M, _, _, r, m, z, fun d M1 z1 y H1 s1 rd m1 => gg.nx _ M1 z1 _ H1 s1 ((r.stb s1).set rd) m1, xg.at_ r⟩
end
end Fg
/-! Fg37: tests by chains, methods of texts, a tuple once or not at all. -/
namespace Fg
open PySem PySem.Spec L2
open PyProof.Rows hiding St
section
variable {X : Cx} {W : WX} {wa wb wc : WE}
theorem chain_of {o o' : OD} {σ : St} {H : Hp} {Q : VK} (h : upE X W (wChain o o' wa wb wc) σ H Q) : tChain (upO X o) (upO X o') (upE X W wa) (upE X W wb) (upE X W wc) σ H Q := by
  obtain ⟨ρ, M, Q0, E0, r, m, t, q, xg⟩ := h
  refine ⟨ρ, M, _, E0, r, m, t, fun d M1 t1 y H1 s1 rd m1 => ⟨ρ, M1, _, E0, r.stb s1, m1, t1, fun d2 M2 t2 y2 H2 s2 rd2 m2 => ?_, xg.stb s1⟩, xg⟩
  refine ⟨d, d2, M2, _, rd.stb s2, rd2, m2, t2, fun z M3 t3 v3 H3 s3 rz m3 => ?_⟩
  cases z with
  | bl k =>
    cases rz
    refine ⟨k, rfl, ?_⟩
    cases k with
    | true => exact ⟨ρ, M3, _, E0, ((r.stb s1).stb s2).stb s3, m3, t3, fun d4 M4 t4 y4 H4 s4 rd4 m4 => ⟨d2, d4, M4, Q0, (rd2.stb s3).stb s4, rd4, m4, t4, fun z M5 qz v5 H5 s5 rz5 m5 => q z M5 qz v5 H5 ((((s1.trans s2).trans s3).trans s4).trans s5) rz5 m5⟩, ((xg.stb s1).stb s2).stb s3⟩
    | false => exact q _ M3 t3 _ H3 ((s1.trans s2).trans s3) (.bl _) m3
  | _ => exact (show False from t3).elim
end
section
variable {U : Ud} {k : Nat} {n : Nm} {a b c : Expr} {pos : Pos} {wa wb wc : WE}
theorem t_chain {op op' : CmpOp} {o o' : OD} (ho : JC op o) (ho' : JC op' o') (ha : JE U k n a wa) (hb : JE U k n b wb) (hc : JE U k n c wc) (hm : lastMarks [op, op'] [b, c] = false) :
    JT U k n (.Compare a [op, op'] [b, c] pos) (wBl (wChain o o' wa wb wc)) := fun X W g =>
  (pt_chain (ho _ _ _ X W g) (ho' _ _ _ X W g) (ha X W g) (hb X W g) (hc X W g) hm).imp fun σ H Q z => chain_of (upE_bl z)
end
/-! ### methods of texts -/
section
variable {X : Cx}
def mSplit : MD := fun o xs M Q => ∃ a b, o = .str a ∧ xs = [.str b] ∧ (b.length == 0) = false ∧ a.length + 2 ≤ sizeLine ∧ ∀ p, M p = none → Q (.ref p) (up M p (.lst ((Txt.split a b).map D.str)))
def mUpper : MD := fun o xs M Q => ∃ a, o = .str a ∧ xs = [] ∧ a.length ≤ 5592405 ∧ Q (.str (Txt.upper a)) M
def mIndex : MD := fun o xs M Q => ∃ a b i rest, o = .str a ∧ xs = [.str b] ∧ Builtin.Str.occurrences a b 0 a.length 1 = i :: rest ∧ Q (.int (i : Nat)) M
theorem rds_of_strs {K : PySem.W.Frag} {H : Hp} : ∀ l : List Str, RDs K H (l.map D.str) (l.map V.str)
  | [] => .nil
  | s :: l => .cons (.str s) (rds_of_strs l)
theorem md_split : MtR X "str.split" (upM X mSplit) := fun pins s σ H x xs v us Q I rx rv ⟨d, ds, M, Q0, rd, rds, m, ⟨a, b, e1, e2, hb, hz, t⟩, q⟩ => by
  subst e1 e2
  cases rd
  obtain ⟨y, rfl, ry⟩ := rds1 rds
  cases ry
  exact mt_split pins s σ H _ _ v us Q I rx rv ⟨a, b, rfl, rfl, hb, hz, fun p hp => q _ _ (t p (m.fresh hp)) _ _ (Stb.new hp) (.ref p) (m.new hp ⟨_, upd_same, rds_of_strs _⟩)⟩
theorem md_upper : MtR X "str.upper" (upM X mUpper) := fun pins s σ H x xs v us Q I rx rv ⟨d, ds, M, Q0, rd, rds, m, ⟨a, e1, e2, hz, t⟩, q⟩ => by
  subst e1 e2
  cases rd
  cases rds
  exact mt_upper pins s σ H _ _ v us Q I rx rv ⟨a, rfl, rfl, hz, q _ M t _ H (Stb.refl H) (.str _) m⟩
theorem md_index : MtR X "str.index" (upM X mIndex) := fun pins s σ H x xs v us Q I rx rv ⟨d, ds, M, Q0, rd, rds, m, ⟨a, b, i, rest, e1, e2, ho, t⟩, q⟩ => by
  subst e1 e2
  cases rd
  obtain ⟨y, rfl, ry⟩ := rds1 rds
  cases ry
  exact mt_sindex pins s σ H _ _ v us Q I rx rv ⟨a, b, i, rest, rfl, rfl, ho, q _ M t _ H (Stb.refl H) (.int _) m⟩
theorem f_split : Mth "str" "split" "str.split" := ⟨F.plainAttrs_str, F.slot_str_split, F.type_str_split⟩
theorem f_upper : Mth "str" "upper" "str.upper" := ⟨F.plainAttrs_str, F.slot_str_upper, F.type_str_upper⟩
theorem f_index : Mth "str" "index" "str.index" := ⟨F.plainAttrs_str, F.slot_str_index, F.type_str_index⟩
/-! ### a tuple once, or not at all -/
theorem tmul_same (l : Addr) (items : Array Value) (n : Nat) (dd : Option Addr) (sl : Array (Option Value)) (x : Int) (u : Tok) (c0 : (decide (x < -(2 ^ 63)) || decide (x ≥ 2 ^ 63)) = false) (c1 : (items.isEmpty || x == 1) = true) :
    Meets (Builtin.«tuple.__mul__» ⟨[.ref l, .int x u], []⟩) (fun _ R s => s.heap.get? l = some { cls := .type "tuple", dict := dd, data := .seq items n, slots := sl } ∧ R (.ok (.ret (Value.ref l))) s) :=
  .of_wp fun prog w A R s h => by
    obtain ⟨hp, g, d, tk, os⟩ := s
    obtain ⟨hl, h⟩ := h
    have f1 := AutoSeq1.idx_int
    wp_walk using wpAny_loadPart' hl
    all_goals repeat (first
      | exact ⟨_, rfl, h⟩
      | (refine wpAny_ite_false (decide_eq_false (by rw [c0]; exact Bool.false_ne_true)) ?_; wp_walk using wpAny_loadPart' hl)
      | (refine wpAny_ite_true (decide_eq_true c1) ?_; wp_walk using wpAny_loadPart' hl))
theorem tmul_none (l : Addr) (items : Array Value) (n : Nat) (dd : Option Addr) (sl : Array (Option Value)) (x : Int) (u : Tok) (c0 : (decide (x < -(2 ^ 63)) || decide (x ≥ 2 ^ 63)) = false) (c1 : (items.isEmpty || x == 1) = false) (c2 : (decide (x ≤ 0) || items.isEmpty) = true) :
    Meets (Builtin.«tuple.__mul__» ⟨[.ref l, .int x u], []⟩) (fun _ R s => s.heap.get? l = some { cls := .type "tuple", dict := dd, data := .seq items n, slots := sl } ∧
      R (.ok (.ret (Value.ref s.heap.objs.size))) { s with heap := s.heap.push (tupO []), toks := s.toks }) :=
  .of_wp fun prog w A R s h => by
    obtain ⟨hp, g, d, tk, os⟩ := s
    obtain ⟨hl, h⟩ := h
    have f1 := AutoSeq1.idx_int
    wp_walk using wpAny_loadPart' hl
    all_goals repeat (first
      | exact ⟨_, rfl, h⟩
      | (refine wpAny_ite_false (decide_eq_false (by rw [c0]; exact Bool.false_ne_true)) ?_; wp_walk using wpAny_loadPart' hl)
      | (refine wpAny_ite_false (decide_eq_false (by rw [c1]; exact Bool.false_ne_true)) ?_; wp_walk using wpAny_loadPart' hl)
      | (refine wpAny_ite_true (decide_eq_true c2) ?_; wp_walk using wpAny_loadPart' hl))
def dMulT : OD := fun x y M Q => match x, y with
  | .tup ds, .int k => (k = 1 ∧ Q (.tup ds) M) ∨ (k = 0 ∧ Q (.tup []) M)
  | _, _ => False
theorem op_dMulT : OpR X (binaryOp .Mult) (upO X dMulT) := by
  intro pins s σ H x y v u Q I rx ry h
  obtain ⟨d, e, M, Q0, rd, re, m, t, q⟩ := h
  unfold dMulT at t
  split at t
  · rename_i ds k
    cases re
    cases rd with
    | @tup l vs _ g1 g2 =>
      cases rx
      obtain ⟨tk, rfl⟩ := ry
      obtain ⟨its, r, ⟨⟨cls, dd, data, sl⟩, ho, hc, n, hd⟩, hs⟩ := I.tuple g1.t
      simp only at hc hd
      subst hc hd
      have go : (Meets (Builtin.«tuple.__mul__» ⟨[.ref l, .int k tk], []⟩) (fun _ R s => s.heap.get? l = some { cls := .type "tuple", dict := dd, data := .seq its.toArray n, slots := sl } ∧ R (.ok (.ret (Value.ref l))) s) ∧ Q0 (.tup ds) M) ∨
          (Meets (Builtin.«tuple.__mul__» ⟨[.ref l, .int k tk], []⟩) (fun _ R s => s.heap.get? l = some { cls := .type "tuple", dict := dd, data := .seq its.toArray n, slots := sl } ∧
      R (.ok (.ret (Value.ref s.heap.objs.size))) { s with heap := s.heap.push (tupO []), toks := s.toks }) ∧ Q0 (.tup []) M) := by
        rcases t with ⟨rfl, t⟩ | ⟨rfl, t⟩
        · exact .inl ⟨tmul_same l _ n dd sl 1 tk (by decide) (by simp), t⟩
        · cases hi : its.toArray.isEmpty with
          | true =>
            have hn : its = [] := by simpa using hi
            subst hn
            cases r
            cases g2
            exact .inl ⟨tmul_same l _ n dd sl 0 tk (by decide) (by simp), t⟩
          | false => exact .inr ⟨tmul_none l _ n dd sl 0 tk (by decide) (by rw [hi]; decide) (by rw [hi]; decide), t⟩
      rcases go with ⟨mt, t⟩ | ⟨mt, t⟩
      · exact wpAny_binaryOp_repeat_ref (T := "tuple") (U := "int") (by decide) ⟨_, ho, rfl⟩ (fun s' => typeIs_int s' k tk) noFill_tuple_mul F.fills_int_mul F.slot_int_rmul repeat_tuple F.slot_int_index.lookup
          (call_meets F.slot_int_rmul (typeIs_int s k tk) F.entry_int_rmul (F.args_int_rmul_2 _ _) (int_rmul_tuple k tk l its.toArray n dd sl)
            ⟨ho, rfl, ⟨_, ho, rfl⟩, call_meets F.slot_tuple_mul ⟨_, ho, rfl⟩ F.entry_tuple_mul (F.args_tuple_mul_2 _ _) mt ⟨ho, .ref l, H, I, rfl, q _ _ t _ _ (Stb.refl H) (.tup g1 g2) m⟩⟩)
      · have hp : H s.heap.objs.size = none := I.hok.fresh (Nat.le_refl _)
        have s1 : Stb H (upd H s.heap.objs.size (.frz (tupO []) (.tup []))) := Stb.new hp
        exact wpAny_binaryOp_repeat_ref (T := "tuple") (U := "int") (by decide) ⟨_, ho, rfl⟩ (fun s' => typeIs_int s' k tk) noFill_tuple_mul F.fills_int_mul F.slot_int_rmul repeat_tuple F.slot_int_index.lookup
          (call_meets F.slot_int_rmul (typeIs_int s k tk) F.entry_int_rmul (F.args_int_rmul_2 _ _) (int_rmul_tuple k tk l its.toArray n dd sl)
            ⟨ho, rfl, ⟨_, ho, rfl⟩, call_meets F.slot_tuple_mul ⟨_, ho, rfl⟩ F.entry_tuple_mul (F.args_tuple_mul_2 _ _) mt ⟨ho, .ref s.heap.objs.size, _, I.laid (t' := s.toks) (o := .frz (tupO []) (.tup [])) (fun b ob q => Heap.get?_push_of_some _ q) (Nat.le_refl _) (tup_ok (Heap.get?_push_size _ rfl) .nil (Nat.zero_le _)), rfl, q _ _ t _ _ s1 (.tup sqN_new .nil) (m.laid hp)⟩⟩)
  · exact t.elim
theorem b_mulT : JB .Mult dMulT := fun _ => op_dMulT
end
end Fg
/-! Fg38: zip of a tuple with a list; list(text). -/
namespace Fg
open PySem PySem.Spec L2
open PyProof.Rows hiding St
/-- an iterator i over l, in the state G, that gives v and goes over to G' -/
structure Src (prog : Program) (w : World) (A : Around) (i l : Addr) (v : Value) (G G' : Heap → Prop) : Prop where
  hold : ∀ {h h' : Heap}, G h → (∀ b, b = i ∨ b = l → ∀ o, h.get? b = some o → h'.get? b = some o) → G h'
  hold' : ∀ {h h' : Heap}, G' h → (∀ b, b = i ∨ b = l → ∀ o, h.get? b = some o → h'.get? b = some o) → G' h'
  next : ∀ {s : Shared} {E : Value → Shared → Prop} {Q : Value → Shared → Prop}, G s.heap → (∀ h', G' h' → Heap.SameBut i s.heap h' → Q v { s with heap := h' }) → wpAny (model prog w) A (Builtin.SmallTypes.nextOf (.ref i)) Q E s
/-- .. that is at its end -/
structure Dry (prog : Program) (w : World) (A : Around) (i l : Addr) (G : Heap → Prop) : Prop where
  hold : ∀ {h h' : Heap}, G h → (∀ b, b = i ∨ b = l → ∀ o, h.get? b = some o → h'.get? b = some o) → G h'
  next : ∀ {s : Shared} {E : Value → Shared → Prop} {Q : Value → Shared → Prop}, G s.heap → (∀ h' e, Heap.ExtBut i s.heap h' → (∃ o, h'.get? e = some o ∧ o.cls = .type "StopIteration") → E (.ref e) { s with heap := h' }) → wpAny (model prog w) A (Builtin.SmallTypes.nextOf (.ref i)) Q E s
section
variable {prog : Program} {w : World} {A : Around} {E : Value → Shared → Prop} {s : Shared} {z P O i j a b : Addr} {x y c d : Value} {G G' L L' : Heap → Prop}
theorem src_tuple {k : Nat} {xs : Array Value} (ne : a ≠ i) (hx : xs[k]? = some x) : Src prog w A i a x (fun h => h.IsTupleIter i a k ∧ h.IsTuple a xs) (fun h => h.IsTupleIter i a (k + 1) ∧ h.IsTuple a xs) where
  hold := fun g e => ⟨g.1.at (e i (.inl rfl)), g.2.at (e a (.inr rfl))⟩
  hold' := fun g e => ⟨g.1.at (e i (.inl rfl)), g.2.at (e a (.inr rfl))⟩
  next := fun g q => RZ.nextOf_tuple_item g.1 g.2 hx fun h' it sb => q h' ⟨it, g.2.extBut sb.extBut ne⟩ sb
theorem src_list {k : Nat} {xs : Array Value} (ne : a ≠ i) (hx : xs[k]? = some x) : Src prog w A i a x (fun h => h.IsListIter i a k ∧ h.IsList a xs) (fun h => h.IsListIter i a (k + 1) ∧ h.IsList a xs) where
  hold := fun g e => ⟨g.1.at (e i (.inl rfl)), g.2.at (e a (.inr rfl))⟩
  hold' := fun g e => ⟨g.1.at (e i (.inl rfl)), g.2.at (e a (.inr rfl))⟩
  next := fun g q => wpAny_nextOf_list_item g.1 g.2 hx fun h' it sb => q h' ⟨it, g.2.extBut sb.extBut ne⟩ sb
theorem dry_tuple {k : Nat} {xs : Array Value} (hh : A.handled = none) (hx : xs[k]? = none) : Dry prog w A i a (fun h => h.IsTupleIter i a k ∧ h.IsTuple a xs) where
  hold := fun g e => ⟨g.1.at (e i (.inl rfl)), g.2.at (e a (.inr rfl))⟩
  next := fun g q => RZ.nextOf_tuple_end hh g.1 g.2 hx q
theorem dry_list {k : Nat} {xs : Array Value} (hh : A.handled = none) (hx : xs[k]? = none) : Dry prog w A i a (fun h => h.IsListIter i a k ∧ h.IsList a xs) where
  hold := fun g e => ⟨g.1.at (e i (.inl rfl)), g.2.at (e a (.inr rfl))⟩
  next := fun g q => wpAny_nextOf_list_end hh g.1 g.2 hx q
/-- what lies elsewhere -/
def Els (h h' : Heap) (l : List Addr) : Prop := ∀ q o, q ∉ l → h.get? q = some o → h'.get? q = some o
theorem Els.of {h h' : Heap} {q : Addr} (sb : Heap.SameBut q h h') : Els h h' [q] := fun r o hr e => (sb.2 r fun y => hr (by rw [y]; exact List.mem_singleton.mpr rfl)).trans e
theorem Els.step {h h1 h2 : Heap} {l : List Addr} {q : Addr} (x : Els h h1 l) (sb : Heap.SameBut q h1 h2) (hq : q ∈ l) : Els h h2 l := fun r o hr e => (sb.2 r fun y => hr (y ▸ hq)).trans (x r o hr e)
theorem Els.two {h h1 h2 : Heap} {l : List Addr} {q : Addr} (x : Els h h1 l) (sb : Heap.SameBut q h1 h2) : Els h h2 (q :: l) := fun r o hr e => (sb.2 r fun y => hr (y ▸ List.mem_cons_self)).trans (x r o (fun y => hr (List.mem_cons_of_mem _ y)) e)
/-- the two objects that an iterator stands on stay -/
theorem two_stay {h h' : Heap} {l : List Addr} (x : Els h h' l) (hi : i ∉ l) (ha : a ∉ l) : ∀ b, b = i ∨ b = a → ∀ o, h.get? b = some o → h'.get? b = some o := fun b hb o e => by
  rcases hb with rfl | rfl
  · exact x _ o hi e
  · exact x _ o ha e
theorem both_next {Q : Value → Shared → Prop} (D : ZipApart z P O i j a b) (hz : IsZip s.heap z P O .none) (hP : IsPair s.heap P (.ref i) (.ref j)) (hO : IsPair s.heap O c d)
    (S : Src prog w A i a x G G') (T : Src prog w A j b y L L') (g : G s.heap) (l : L s.heap)
    (k : ∀ h', IsZip h' z P O (rawInt s.heap.objs.size) → IsPair h' O x y → G' h' → L' h' → IsPair h' s.heap.objs.size x y → h'.objs.size = s.heap.objs.size + 1 → Els s.heap h' [z, O, i, j] → Q (.ref s.heap.objs.size) { s with heap := h' }) :
    wpAny (model prog w) A (Builtin.«zip.__next__» ⟨[.ref z], []⟩) (fun fin s' => ∃ v, fin = .done (.ret v) ∧ Q v s') E s := by
  show wpAny (model prog w) A (field (.ref z) 2 >>= fun _ => _) _ E s
  refine wpAny_bind (wpAny_field hz rfl (x := .bool false) rfl (wpAny_bind (m := field (.ref z) 3) (wpAny_field hz rfl (x := .ref P) rfl (wpAny_bind (wpAny_seqItems hP rfl ?_)))))
  refine wpAny_bind (m := Builtin.SmallTypes.ownedTupleIsFree (.ref z)) ?_
  unfold Builtin.SmallTypes.ownedTupleIsFree
  refine wpAny_bind (wpAny_field hz rfl (x := .none) rfl (wpAny_pure ?_))
  simp only [if_true]
  refine wpAny_bind (wpAny_rule (wpAny_bind (wpAny_field hz rfl (x := .ref O) rfl (wpAny_bind (wpAny_setField_rec hz (by simp) fun m1 y1 b1 => wpAny_bind ?_)))))
  have y1 : IsZip m1 z P O .ellipsis := y1
  have w1 : Els s.heap m1 [z] := Els.of b1
  have nz : i ∉ [z] ∧ a ∉ [z] ∧ O ∉ [z] := ⟨fun q => D.i1z (List.mem_singleton.mp q), fun q => D.l1z (List.mem_singleton.mp q), fun q => D.TOz (List.mem_singleton.mp q)⟩
  simp only [List.zipIdx_cons, List.zipIdx_nil, List.forIn_cons, List.forIn_nil]
  -- the first one's
  refine wpAny_bind (wpAny_bind (wpAny_onRaise (wpAny_bind (m := Builtin.SmallTypes.nextOf (.ref i)) (S.next (S.hold g (two_stay w1 nz.1 nz.2.1)) fun m2 g2 b2 => wpAny_pure ?_))))
  have w2 : Els s.heap m2 [i, z] := w1.two b2
  have o2 : IsPair m2 O c d := w2 _ _ (by simp only [List.mem_cons, List.not_mem_nil, or_false, not_or]; exact ⟨D.TOi1, D.TOz⟩) hO
  refine wpAny_bind (wpAny_seqItems o2 rfl (wpAny_bind (wpAny_updateSeq_pair o2 fun m3 o3 b3 => wpAny_bind (wpAny_letGo (wpAny_pure ?_)))))
  have o3 : IsPair m3 O x d := o3
  have w3 : Els s.heap m3 [O, i, z] := w2.two b3
  have nj : j ∉ [O, i, z] ∧ b ∉ [O, i, z] := by
    simp only [List.mem_cons, List.not_mem_nil, or_false, not_or]
    exact ⟨⟨D.TOi2.symm, D.i12.symm, D.i2z⟩, D.l2TO, D.l2i1, D.l2z⟩
  -- the second one's
  refine wpAny_bind (wpAny_bind (wpAny_onRaise (wpAny_bind (m := Builtin.SmallTypes.nextOf (.ref j)) (T.next (T.hold l (two_stay w3 nj.1 nj.2)) fun m4 l4 b4 => wpAny_pure ?_))))
  have o4 : IsPair m4 O x d := (b4.2 O D.TOi2).trans o3
  refine wpAny_bind (wpAny_seqItems o4 rfl (wpAny_bind (wpAny_updateSeq_pair o4 fun m5 o5 b5 => wpAny_bind (wpAny_letGo (wpAny_pure (wpAny_pure ?_))))))
  have o5 : IsPair m5 O x y := o5
  have w5 : Els s.heap m5 [j, O, i, z] := (w3.two b4).step b5 (by simp)
  have y5 : IsZip m5 z P O .ellipsis := (b5.2 z D.TOz.symm).trans ((b4.2 z D.i2z.symm).trans ((b3.2 z D.TOz.symm).trans ((b2.2 z D.i1z.symm).trans y1)))
  have n5 : m5.objs.size = s.heap.objs.size := by rw [b5.1, b4.1, b3.1, b2.1, b1.1]
  have g5 : G' m5 := S.hold' g2 fun q hq o e => by
    have hO' : q ≠ O := by
      rcases hq with rfl | rfl
      · exact D.TOi1.symm
      · exact D.l1TO
    have hj' : q ≠ j := by
      rcases hq with rfl | rfl
      · exact D.i12
      · exact D.l1i2
    exact (b5.2 q hO').trans ((b4.2 q hj').trans ((b3.2 q hO').trans e))
  have l5 : L' m5 := T.hold' l4 fun q hq o e => by
    have hO' : q ≠ O := by
      rcases hq with rfl | rfl
      · exact D.TOi2.symm
      · exact D.l2TO
    exact (b5.2 q hO').trans e
  refine wpAny_bind (wpAny_seqItems o5 rfl (wpAny_bind (wpAny_newTuple ?_)))
  refine wpAny_bind (m := Builtin.SmallTypes.ownedTupleHandOut (.ref z) (.ref m5.objs.size)) ?_
  unfold Builtin.SmallTypes.ownedTupleHandOut
  have y6 : IsZip (m5.push { cls := .type "tuple", data := .seq #[x, y] }) z P O .ellipsis := Heap.get?_push_of_some _ y5
  refine wpAny_bind (wpAny_setField_rec y6 (by simp) fun m7 y7 b7 => wpAny_setField_rec (show IsZip m7 z P O (rawInt m5.objs.size) from y7) (by simp) fun m8 y8 b8 => wpAny_pure ⟨_, rfl, ?_⟩)
  have y8 : IsZip m8 z P O (rawInt m5.objs.size) := y8
  have on : ∀ q o, q ≠ z → m5.get? q = some o → m8.get? q = some o := fun q o hq e => (b8.2 q hq).trans ((b7.2 q hq).trans (Heap.get?_push_of_some _ e))
  have t8 : IsPair m8 m5.objs.size x y := (b8.2 _ (Nat.ne_of_gt (Heap.lt_size y5))).trans ((b7.2 _ (Nat.ne_of_gt (Heap.lt_size y5))).trans (Heap.get?_push_size _ rfl))
  have n8 : m8.objs.size = m5.objs.size + 1 := by rw [b8.1, b7.1, Heap.size_push]
  have g8 : G' m8 := S.hold' g5 fun q hq o e => by
    refine on q o ?_ e
    rcases hq with rfl | rfl
    · exact D.i1z
    · exact D.l1z
  have l8 : L' m8 := T.hold' l5 fun q hq o e => by
    refine on q o ?_ e
    rcases hq with rfl | rfl
    · exact D.i2z
    · exact D.l2z
  have w8 : Els s.heap m8 [z, O, i, j] := fun q o hq e => by
    simp only [List.mem_cons, List.not_mem_nil, or_false, not_or] at hq
    refine on q o hq.1 (w5 q o ?_ e)
    simp only [List.mem_cons, List.not_mem_nil, or_false, not_or]
    exact ⟨hq.2.2.2, hq.2.1, hq.2.2.1, hq.1⟩
  have p8 := on _ _ D.TOz o5
  show Q (.ref m5.objs.size) _
  rw [n5] at y8 t8 n8 ⊢
  exact k m8 y8 p8 g8 l8 t8 n8 w8
/-- no more: the first is at its end, or the second -/
theorem zip_over {Q : Fin → Shared → Prop} (D : ZipApart z P O i j a b) (hz : IsZip s.heap z P O .none) (hP : IsPair s.heap P (.ref i) (.ref j)) (hO : IsPair s.heap O c d) (g : G s.heap) (l : L s.heap)
    (S : Dry prog w A i a G ∨ ((∃ x G', Src prog w A i a x G G') ∧ Dry prog w A j b L))
    (k : ∀ h' e, Els s.heap h' [z, O, i, j] → (∃ o, h'.get? e = some o ∧ o.cls = .type "StopIteration") → E (.ref e) { s with heap := h' }) : wpAny (model prog w) A (Builtin.«zip.__next__» ⟨[.ref z], []⟩) Q E s := by
  show wpAny (model prog w) A (field (.ref z) 2 >>= fun _ => _) _ E s
  refine wpAny_bind (wpAny_field hz rfl (x := .bool false) rfl (wpAny_bind (m := field (.ref z) 3) (wpAny_field hz rfl (x := .ref P) rfl (wpAny_bind (wpAny_seqItems hP rfl ?_)))))
  refine wpAny_bind (m := Builtin.SmallTypes.ownedTupleIsFree (.ref z)) ?_
  unfold Builtin.SmallTypes.ownedTupleIsFree
  refine wpAny_bind (wpAny_field hz rfl (x := .none) rfl (wpAny_pure ?_))
  simp only [if_true]
  refine wpAny_bind (wpAny_rule (wpAny_bind (wpAny_field hz rfl (x := .ref O) rfl (wpAny_bind (wpAny_setField_rec hz (by simp) fun m1 y1 b1 => wpAny_bind ?_)))))
  have y1 : IsZip m1 z P O .ellipsis := y1
  have w1 : Els s.heap m1 [z] := Els.of b1
  have nz : i ∉ [z] ∧ a ∉ [z] := ⟨fun q => D.i1z (List.mem_singleton.mp q), fun q => D.l1z (List.mem_singleton.mp q)⟩
  simp only [List.zipIdx_cons, List.zipIdx_nil, List.forIn_cons, List.forIn_nil]
  -- the mark is taken back, the error goes on
  have last : ∀ (mm : Heap) (e : Addr), Els s.heap mm [z, O, i, j] → IsZip mm z P O .ellipsis → (∃ o, mm.get? e = some o ∧ o.cls = .type "StopIteration") → ∀ s' : Shared, s' = { s with heap := mm } → wpAny (model prog w) A (setField (.ref z) 0 .none) (fun _ s2 => E (.ref e) s2) E s' := fun mm e wm ym ⟨o, ho, hc⟩ s' es => by
    subst es
    have ez : e ≠ z := fun q => by
      rw [q] at ho
      have := ym.symm.trans ho
      cases this
      simp at hc
    exact wpAny_setField_rec (s := { s with heap := mm }) ym (by simp) fun m' _ b' => k m' e (fun q u hq hu => by
      refine (b'.2 q fun v => hq ?_).trans (wm q u hq hu)
      simp [v]) ⟨o, (b'.2 e ez).trans ho, hc⟩
  rcases S with S | ⟨⟨x, G', S⟩, T⟩
  · refine wpAny_bind (wpAny_bind (wpAny_onRaise (wpAny_bind (m := Builtin.SmallTypes.nextOf (.ref i)) (S.next (S.hold g (two_stay w1 nz.1 nz.2)) fun m2 e b2 he => ?_))))
    exact last m2 e (fun q o hq ho => b2 q o (fun v => hq (by simp [v])) (w1 q o (fun v => hq (by simp at v; simp [v])) ho)) (b2 _ _ D.i1z.symm y1) he _ rfl
  · refine wpAny_bind (wpAny_bind (wpAny_onRaise (wpAny_bind (m := Builtin.SmallTypes.nextOf (.ref i)) (S.next (S.hold g (two_stay w1 nz.1 nz.2)) fun m2 g2 b2 => wpAny_pure ?_))))
    have w2 : Els s.heap m2 [i, z] := w1.two b2
    have o2 : IsPair m2 O c d := w2 _ _ (by simp only [List.mem_cons, List.not_mem_nil, or_false, not_or]; exact ⟨D.TOi1, D.TOz⟩) hO
    refine wpAny_bind (wpAny_seqItems o2 rfl (wpAny_bind (wpAny_updateSeq_pair o2 fun m3 o3 b3 => wpAny_bind (wpAny_letGo (wpAny_pure ?_)))))
    have w3 : Els s.heap m3 [O, i, z] := w2.two b3
    have nj : j ∉ [O, i, z] ∧ b ∉ [O, i, z] := by
      simp only [List.mem_cons, List.not_mem_nil, or_false, not_or]
      exact ⟨⟨D.TOi2.symm, D.i12.symm, D.i2z⟩, D.l2TO, D.l2i1, D.l2z⟩
    refine wpAny_bind (wpAny_bind (wpAny_onRaise (wpAny_bind (m := Builtin.SmallTypes.nextOf (.ref j)) (T.next (T.hold l (two_stay w3 nj.1 nj.2)) fun m4 e b4 he => ?_))))
    refine last m4 e (fun q o hq ho => b4 q o (fun v => hq (by simp [v])) (w3 q o (fun v => hq ?_) ho)) (b4 _ _ D.i2z.symm ((b3.2 z D.TOz.symm).trans ((b2.2 z D.i1z.symm).trans y1))) he _ rfl
    simp only [List.mem_cons, List.not_mem_nil, or_false] at v ⊢
    rcases v with v | v | v <;> simp [v]
theorem py_next {Q : Option Value → Shared → Prop} (D : ZipApart z P O i j a b) (hz : IsZip s.heap z P O .none) (hP : IsPair s.heap P (.ref i) (.ref j)) (hO : IsPair s.heap O c d)
    (S : Src prog w A.in1 i a x G G') (T : Src prog w A.in1 j b y L L') (g : G s.heap) (l : L s.heap)
    (k : ∀ h', IsZip h' z P O (rawInt s.heap.objs.size) → IsPair h' O x y → G' h' → L' h' → IsPair h' s.heap.objs.size x y → h'.objs.size = s.heap.objs.size + 1 → Els s.heap h' [z, O, i, j] → Q (some (.ref s.heap.objs.size)) { s with heap := h' }) :
    wpAny (model prog w) A (pyNext (.ref z)) Q E s := by
  unfold pyNext
  have ty : s.TypeIs (.ref z) "zip" := ⟨_, hz, rfl⟩
  refine wpAny_bind (wpAny_attempt (wpAny_callSpecial?_slot (name := Str.ofString "__next__") ty F.slot_zip_next (wpAny_call_entry F.slot_zip_next ty F.entry_zip_next ?_ (F.args_zip_next_1 _))))
  exact both_next D hz hP hO S T g l fun h' q1 q2 q3 q4 q5 q6 q7 => wpAny_pure (k h' q1 q2 q3 q4 q5 q6 q7)
theorem py_over {Q : Option Value → Shared → Prop} (D : ZipApart z P O i j a b) (hz : IsZip s.heap z P O .none) (hP : IsPair s.heap P (.ref i) (.ref j)) (hO : IsPair s.heap O c d) (g : G s.heap) (l : L s.heap)
    (S : Dry prog w A.in1 i a G ∨ ((∃ x G', Src prog w A.in1 i a x G G') ∧ Dry prog w A.in1 j b L)) (k : ∀ h', Els s.heap h' [z, O, i, j] → Q none { s with heap := h' }) : wpAny (model prog w) A (pyNext (.ref z)) Q E s := by
  unfold pyNext
  have ty : s.TypeIs (.ref z) "zip" := ⟨_, hz, rfl⟩
  refine wpAny_bind (wpAny_attempt (wpAny_callSpecial?_slot (name := Str.ofString "__next__") ty F.slot_zip_next (wpAny_call_entry F.slot_zip_next ty F.entry_zip_next ?_ (F.args_zip_next_1 _))))
  refine zip_over D hz hP hO g l S fun h' e w' ⟨o, ho, hc⟩ => ?_
  exact wpAny_bind (wpAny_isInstance (T := "StopIteration") (b := true) ⟨o, ho, hc⟩ isSubtype_stop (wpAny_pure (k h' w')))
end
/-! ### zip(tuple, list) made -/
abbrev itT (h : Heap) (a : Addr) : Heap := h.push { cls := .type "tuple_iterator", data := .fields #[.ref a, .int 0 0] }
abbrev itTL (h : Heap) (a b : Addr) : Heap := (itT h a).push { cls := .type "list_iterator", data := .fields #[.ref b, .int 0 0] }
abbrev itP (h : Heap) (a b : Addr) : Heap := (itTL h a b).push { cls := .type "tuple", data := .seq #[.ref h.objs.size, .ref (itT h a).objs.size] }
abbrev itO (h : Heap) (a b : Addr) : Heap := (itP h a b).push { cls := .type "tuple", data := .seq #[.none, .none] }
abbrev itZ (h : Heap) (a b : Addr) : Heap := (itO h a b).push { cls := .type "zip", data := .fields #[.none, .bool false, .bool false, .ref (itTL h a b).objs.size, .ref (itP h a b).objs.size] }
theorem meets_tl (a b : Addr) (xs ys : Array Value) : Meets (Builtin.«zip.__new__» ⟨[.type "zip", .ref a, .ref b], []⟩) (fun _ R s => s.heap.IsTuple a xs ∧ s.heap.IsList b ys ∧ R (.ok (.ret (.ref (itO s.heap a b).objs.size))) { s with heap := itZ s.heap a b }) :=
  .of_wp fun prog w A R s q => by
    obtain ⟨hp, gn, dr, tk, os⟩ := s
    obtain ⟨q1, q2, q3⟩ := q
    have sub := sub_zip
    have t1 : Heap.IsTuple (Shared.heap ⟨hp, gn, dr, tk, os⟩) a xs := q1
    have t2 : Heap.IsList (Shared.heap ⟨itT hp a, gn, dr, tk, os⟩) b ys := Heap.IsList.push q2 _
    wp_walk using wpAny_pyIter_tuple t1, wpAny_pyIter_list t2
    exact ⟨_, rfl, q3⟩
section
variable {prog : Program} {w : World} {A : Around} {E : Value → Shared → Prop} {s : Shared}
theorem call_tl {a b : Addr} {xs ys : Array Value} {Q : Value → Shared → Prop} (ha : s.heap.IsTuple a xs) (hb : s.heap.IsList b ys)
    (k : ∀ h' z P O i j, z = s.heap.objs.size + 4 → P = s.heap.objs.size + 2 → O = s.heap.objs.size + 3 → i = s.heap.objs.size → j = s.heap.objs.size + 1 → IsZip h' z P O .none → IsPair h' P (.ref i) (.ref j) → IsPair h' O .none .none → h'.IsTupleIter i a 0 → h'.IsListIter j b 0 →
      (∀ q o, s.heap.get? q = some o → h'.get? q = some o) → Q (.ref z) { s with heap := h' }) : wpAny (model prog w) A (call (.type "zip") [.ref a, .ref b]) Q E s := by
  refine callType_new F.called_zip (by decide) (F.typeCall_zip_2 _ _) (F.newCall_zip_2 _ _) (fun obj => F.args_object_init_3 obj _ _) F.entry_zip_new (meets_tl a b xs ys) ⟨ha, hb, ?_⟩
  have n1 : (itT s.heap a).objs.size = s.heap.objs.size + 1 := Heap.size_push ..
  have n2 : (itTL s.heap a b).objs.size = s.heap.objs.size + 2 := by rw [Heap.size_push, n1]
  have n3 : (itP s.heap a b).objs.size = s.heap.objs.size + 3 := by rw [Heap.size_push, n2]
  have n4 : (itO s.heap a b).objs.size = s.heap.objs.size + 4 := by rw [Heap.size_push, n3]
  have p5 : IsZip (itZ s.heap a b) (itO s.heap a b).objs.size (itTL s.heap a b).objs.size (itP s.heap a b).objs.size .none := Heap.get?_push_size _ rfl
  have p4 : IsPair (itZ s.heap a b) (itP s.heap a b).objs.size .none .none := Heap.get?_push_of_some _ (Heap.get?_push_size _ rfl)
  have p3 : IsPair (itZ s.heap a b) (itTL s.heap a b).objs.size (.ref s.heap.objs.size) (.ref (itT s.heap a).objs.size) := Heap.get?_push_of_some _ (Heap.get?_push_of_some _ (Heap.get?_push_size _ rfl))
  have p2 : (itZ s.heap a b).IsListIter (itT s.heap a).objs.size b 0 := ⟨_, Heap.get?_push_of_some _ (Heap.get?_push_of_some _ (Heap.get?_push_of_some _ (Heap.get?_push_size _ rfl))), rfl, rfl⟩
  have p1 : (itZ s.heap a b).IsTupleIter s.heap.objs.size a 0 := ⟨_, Heap.get?_push_of_some _ (Heap.get?_push_of_some _ (Heap.get?_push_of_some _ (Heap.get?_push_of_some _ (Heap.get?_push_size _ rfl)))), rfl, rfl⟩
  exact ⟨⟨_, p5, rfl⟩, k _ _ _ _ _ _ n4 n2 n3 rfl n1 p5 p3 p4 p1 p2 fun q o e => Heap.get?_push_of_some _ (Heap.get?_push_of_some _ (Heap.get?_push_of_some _ (Heap.get?_push_of_some _ (Heap.get?_push_of_some _ e))))⟩
end
end Fg
/-! Fg39: zip(tuple, list) walked; list(text). -/
namespace Fg
open PySem PySem.Spec L2
open PyProof.Rows hiding St
/-- the tuple at a, the list at b, as they stand at each turn -/
def ItM (K : PySem.W.Frag) (a b : Addr) : It :=
  ⟨fun n H => ∃ (xs ys : List V) (x y : V), SqT K H a xs ∧ SqL K H b ys ∧ xs[n]? = some x ∧ ys[n]? = some y,
    fun n H v H' => ∃ T us x y, v = .ref T ∧ H T = none ∧ H' = upd H T (.frz (tupO us) (.tup [x, y])) ∧ (∀ xs, SqT K H a xs → xs[n]? = some x) ∧ ∀ ys, SqL K H b ys → ys[n]? = some y,
    fun n H => ∃ xs ys : List V, SqT K H a xs ∧ SqL K H b ys ∧ (xs.length ≤ n ∨ ys.length ≤ n)⟩
theorem turn_tl {P : Program} {w : World} {K : PySem.W.Frag} {elts : List Expr} {kk : Nat} {tpos : Pos} {a b z p O i j : Addr} (D : ZipApart z p O i j a b) :
    Turn P w K (.Tuple elts kk tpos) (ItM K a b) [z, p, O, i, j] z (fun n h => IsZip h z p O .none ∧ IsPair h p (.ref i) (.ref j) ∧ (∃ x y, IsPair h O x y) ∧ h.IsTupleIter i a n ∧ h.IsListIter j b n) where
  mem := List.mem_cons_self
  obj := fun n h ⟨hz, hp, ⟨x, y, hO⟩, ⟨o1, e1, _, d1⟩, ⟨o2, e2, _, d2⟩⟩ q hq => by
    simp only [List.mem_cons, List.not_mem_nil, or_false] at hq
    rcases hq with rfl | rfl | rfl | rfl | rfl
    · exact ⟨_, hz, fun v e => nomatch e⟩
    · exact ⟨_, hp, fun v e => nomatch e⟩
    · exact ⟨_, hO, fun v e => nomatch e⟩
    · exact ⟨o1, e1, fun v e => by rw [d1] at e; cases e⟩
    · exact ⟨o2, e2, fun v e => by rw [d2] at e; cases e⟩
  keep := fun n h h' ⟨hz, hp, ⟨x, y, hO⟩, h1, h2⟩ k => ⟨k z (by simp) _ hz, k p (by simp) _ hp, ⟨x, y, k O (by simp) _ hO⟩, h1.at (k i (by simp)), h2.at (k j (by simp))⟩
  item := by
    intro X e1 e2 e3 hc n pins s σ H E I hf st hg
    subst e1 e2 e3
    obtain ⟨hz, hp, ⟨x0, y0, hO⟩, h1, h2⟩ := st
    obtain ⟨xs, ys, x, y, qx, qy, hx, hy⟩ := hg
    obtain ⟨its, rv, p1, _⟩ := I.tuple qx
    obtain ⟨jts, rw', p2, _⟩ := I.list qy
    obtain ⟨u, hu, ru⟩ := rv.get hx
    obtain ⟨v, hv, rv'⟩ := rw'.get hy
    refine py_next D hz hp hO (src_tuple (xs := its.toArray) D.l1i1 (x := u) (by simpa using hu)) (src_list (xs := jts.toArray) D.l2i2 (x := v) (by simpa using hv)) ⟨h1, p1⟩ ⟨h2, p2.isList⟩ fun h' z' O' g' l' T' n' w' => ?_
    refine ⟨_, rfl, wpAny_letOwnedTupleGo_zip (s := { s with heap := h' }) z' fun h2' z2 sb => ?_⟩
    have zl : z < s.heap.objs.size := Heap.lt_size hz
    have T2 : h2'.get? s.heap.objs.size = some (tupO [u, v]) := (sb.2 _ (Nat.ne_of_gt zl)).trans T'
    have kept : ∀ q o, q ∉ [z, p, O, i, j] → s.heap.get? q = some o → h2'.get? q = some o := fun q o hq e => by
      simp only [List.mem_cons, List.not_mem_nil, or_false, not_or] at hq
      refine (sb.2 q hq.1).trans (w' q o ?_ e)
      simp only [List.mem_cons, List.not_mem_nil, or_false, not_or]
      exact ⟨hq.1, hq.2.2.1, hq.2.2.2.1, hq.2.2.2.2⟩
    have new : ObjOk X.prog X.w (upd H s.heap.objs.size (.frz (tupO [u, v]) (.tup [x, y]))) h2' s.heap.objs.size (.frz (tupO [u, v]) (.tup [x, y])) := tup_ok T2 (.cons ru (.cons rv' .nil)) (by show 2 ≤ sizeLine; rw [sizeLine_eq]; decide)
    have I1 : Inv X pins σ (upd H s.heap.objs.size (.frz (tupO [u, v]) (.tup [x, y]))) { s with heap := h2' } := I.turnedNew (t' := s.toks) (ch := [z, p, O, i, j]) kept hf (Nat.le_refl _) new
    refine ⟨.ref s.heap.objs.size, _, I1, rfl, ⟨_, [u, v], x, y, rfl, I.hok.fresh (Nat.le_refl _), rfl, fun l hl => by rw [I.tuple_inj hl qx]; exact hx, fun l hl => by rw [I.list_inj hl qy]; exact hy⟩, ⟨z2, ?_, ⟨u, v, ?_⟩, ?_, ?_⟩, fun q hq => ?_⟩
    · refine (sb.2 _ D.TIz).trans (w' _ _ ?_ hp)
      simp only [List.mem_cons, List.not_mem_nil, or_false, not_or]
      exact ⟨D.TIz, D.TITO, D.TIi1, D.TIi2⟩
    · exact (sb.2 _ D.TOz).trans O'
    · exact g'.1.at fun o e => (sb.2 _ D.i1z).trans e
    · exact l'.1.at fun o e => (sb.2 _ D.i2z).trans e
    · have hlt : q < s.heap.objs.size := by
        simp only [List.mem_cons, List.not_mem_nil, or_false] at hq
        rcases hq with rfl | rfl | rfl | rfl | rfl
        · exact zl
        · exact Heap.lt_size hp
        · exact Heap.lt_size hO
        · obtain ⟨_, e1, _⟩ := h1; exact Heap.lt_size e1
        · obtain ⟨_, e2, _⟩ := h2; exact Heap.lt_size e2
      rw [upd_ne (Nat.ne_of_lt hlt)]
      exact (hf q hq).1
  done := by
    intro X e1 e2 e3 hc n pins s σ H E I hf st hg
    subst e1 e2 e3
    obtain ⟨hz, hp, ⟨x0, y0, hO⟩, h1, h2⟩ := st
    obtain ⟨xs, ys, qx, qy, he⟩ := hg
    obtain ⟨its, rv, p1, _⟩ := I.tuple qx
    obtain ⟨jts, rw', p2, _⟩ := I.list qy
    have l1 := rv.length
    have l2 := rw'.length
    have hh : X.A.in1.handled = none := I.ok.hd hc
    have end_ : Dry X.prog X.w X.A.in1 i a (fun h => h.IsTupleIter i a n ∧ h.IsTuple a its.toArray) ∨ ((∃ x G', Src X.prog X.w X.A.in1 i a x (fun h => h.IsTupleIter i a n ∧ h.IsTuple a its.toArray) G') ∧ Dry X.prog X.w X.A.in1 j b (fun h => h.IsListIter j b n ∧ h.IsList b jts.toArray)) := by
      by_cases c : n < its.length
      · have hl : ys.length ≤ n := by
          rcases he with q | q
          · omega
          · exact q
        exact .inr ⟨⟨its[n], _, src_tuple D.l1i1 (by simp [c])⟩, dry_list hh (by simp; omega)⟩
      · exact .inl (dry_tuple hh (by simp; omega))
    refine py_over D hz hp hO ⟨h1, p1⟩ ⟨h2, p2.isList⟩ end_ fun h' w' => ⟨rfl, I.turnedL (t' := s.toks) (ch := [z, p, O, i, j]) (fun q o hq e => w' q o (fun m => hq ?_) e) hf⟩
    simp only [List.mem_cons, List.not_mem_nil, or_false] at m ⊢
    rcases m with m | m | m | m <;> simp [m]
  self := fun A n s Q E st h => wpAny_pyIter_zip st.1 h
/-! ### the walk -/
def zipD (xs ys : List D) : List D := (xs.zip ys).map fun p => .tup [p.1, p.2]
def wZip (wa : WA) : WI := fun ρ M K E => wa ρ M (fun ds M1 => ∃ xs b ys, ds = [.tup xs, .ref b] ∧ M1 b = some (.lst ys) ∧ K (zipD xs ys) (fun M' => M' b = some (.lst ys)) M1) E
section
variable {X : Cx} {W : WX}
theorem wk_zip {H : Hp} {a b : Addr} {vs : List V} {xs ys : List D} (g1 : SqN X.K H a vs) (g2 : RDs X.K H xs vs) : Wk X (ItM X.K a b) H (zipD xs ys) (fun M' => M' b = some (.lst ys)) := by
  intro n H' M' s m st
  obtain ⟨us, k1, k2⟩ := m b _ st
  have t1 : SqT X.K H' a vs := (g1.stb s).t
  have r1 := RDs.stb s g2
  have q1 : SqL X.K H' b us := SqL.of k1
  have e1 := r1.length
  have e2 := k2.length
  have el : (zipD xs ys).length = min xs.length ys.length := by unfold zipD; rw [List.length_map, List.length_zip]
  refine ⟨fun e => ⟨vs, us, t1, q1, by omega⟩, fun d hd => ?_⟩
  unfold zipD at hd
  rw [List.getElem?_map] at hd
  obtain ⟨⟨dx, dy⟩, hz, rfl⟩ := Option.map_eq_some_iff.mp hd
  obtain ⟨hx, hy⟩ := List.getElem?_zip_eq_some.mp hz
  obtain ⟨x, hx', rx⟩ := r1.get hx
  obtain ⟨y, hy', ry⟩ := k2.get hy
  refine ⟨⟨vs, us, x, y, t1, q1, hx', hy'⟩, fun v H2 hv => ?_⟩
  obtain ⟨T, ws, x2, y2, rfl, hT, rfl, f1, f2⟩ := hv
  have ex := f1 vs t1
  have ey := f2 us q1
  rw [hx'] at ex
  rw [hy'] at ey
  cases ex
  cases ey
  exact ⟨Stb.new hT, m.laid hT, .tup sqN_new (RDs.stb (Stb.new hT) (.cons rx (.cons ry .nil)))⟩
theorem ui_zip {e e2 : Expr} {wa : WA} {p pos tpos : Pos} {elts : List Expr} {kk : Nat} (hg : Gl X "zip") (hm : X.mg "zip" = none) (ha : PA X [e, e2] (upA X W wa))
    (hs : starEach [e, e2] X.env = (false, eval e X.env) :: starEach [e2] X.env) (hpl : (backTo pos (starEach [e2] X.env)).any (·.1) = false) :
    PI X (.Tuple elts kk tpos) (.Call (.Name "zip" p) [e, e2] [] pos) (upI X W (wZip wa)) := by
  refine ⟨fun pins s σ H R I h => ?_⟩
  obtain ⟨ρ, M, K0, E0, r, m, t, q, xg⟩ := h
  refine Call_ (ld_blt I hg hm PyProof.Rows.boot_zip (PyProof.Rows.callWith_type1 (thn (ha.run pos pins s σ H (fun vs H1 => ∃ ds M1, RDs X.K H1 ds vs ∧ RMx X H1 M1 ∧ Stb H H1 ∧ ∃ xs b ys, ds = [.tup xs, .ref b] ∧ M1 b = some (.lst ys) ∧ K0 (zipD xs ys) (fun M' => M' b = some (.lst ys)) M1) I ⟨ρ, M, _, E0, r, m, t, fun ds M1 t1 vs H1 s1 rd m1 => ⟨ds, M1, rd, m1, s1, t1⟩, xg⟩) fun us s1 ⟨vs, H1, I1, rv, ds, M1, rd, m1, sH, xs, b, ys, e1, e2, k0⟩ => ?_) hs hpl))
  subst e1
  cases rd with
  | cons r1 rd =>
    cases rd with
    | cons r2 rd =>
      cases rd
      cases r2
      cases r1 with
      | @tup a ws _ g1 g2 =>
        cases rv with
        | cons v1 rv =>
          cases rv with
          | cons v2 rv =>
            cases rv
            cases v1
            cases v2
            obtain ⟨us, k1, k2⟩ := m1 b _ e2
            obtain ⟨its, rvA, p1, _⟩ := I1.tuple g1.t
            obtain ⟨jts, rvB, p2, _⟩ := I1.list (SqL.of k1)
            obtain ⟨oa, ea, _⟩ := id p1
            refine call_tl (show s1.heap.IsTuple a its.toArray from p1) p2.isList fun h' z P O i j ez eP eO ei ej hz hP hO h1 h2 hk => wpAny_pyIter_zip hz ?_
            have D : ZipApart z P O i j a b := by
              rw [ez, eP, eO, ei, ej]
              exact PySem.W.ktu_apart s1.heap.objs.size a b (Heap.lt_size ea) p2.lt
            have I2 : Inv X pins σ H1 { s1 with heap := h' } := I1.kept (t' := s1.toks) hk
            refine ⟨z, [z, P, O, i, j], _, _, H1, rfl, I2, turn_tl D, ⟨hz, hP, ⟨_, _, hO⟩, h1, h2⟩, fun c hc => ?_, q _ _ _ k0 _ _ sH m1 (wk_zip g1 g2)⟩
            have hle : s1.heap.objs.size ≤ c := by
              simp only [List.mem_cons, List.not_mem_nil, or_false] at hc
              rcases hc with hc | hc | hc | hc | hc <;> rw [hc]
              · rw [ez]; exact Nat.le_add_right _ _
              · rw [eP]; exact Nat.le_add_right _ _
              · rw [eO]; exact Nat.le_add_right _ _
              · rw [ei]; exact Nat.le_refl _
              · rw [ej]; exact Nat.le_add_right _ _
            exact I1.fpOk hle (I1.hok.fresh hle)
end
/-! ### list(text) -/
def cLstX : CD := fun xs M Q => (∃ z, xs = [.str z] ∧ z.cps.size ≤ sizeLine ∧ ∀ p, M p = none → Q (.ref p) (up M p (.lst (signs z)))) ∨ cLst xs M Q
section
variable {X : Cx}
theorem cr_cLstX (hc : X.calm = true) : CallR X (.type "list") (upC X cLstX) := call_up fun pins s σ H M ds xs us Q Q0 I m rd rv h q => by
  rcases h with ⟨z, e, hz, t⟩ | h
  · subst e
    obtain ⟨v, rfl, r⟩ := rds1 rd
    cases r
    obtain ⟨u, rfl, ru⟩ := vals1 rv
    obtain ⟨tk, rfl⟩ := ru
    refine call_list_str (I.ok.hd hc) z tk (hn := hz) fun h' tk' acc c' kp e it => ?_
    have hp := I.hok.fresh (Nat.le_refl s.heap.objs.size)
    have go : ∀ (l : List Nat) (vs : List Value), vs.length = l.length → (∀ (n : Nat) (v : Value), vs[n]? = some v → ∃ (c : Nat) (t : Tok), l[n]? = some c ∧ v = Value.str ⟨#[c]⟩ t) → Vals (l.map fun c => V.str ⟨#[c]⟩) vs := by
      intro l
      induction l with
      | nil => intro vs hl _; cases vs with
        | nil => exact .nil
        | cons v vs => simp at hl
      | cons c l ih => intro vs hl hv; cases vs with
        | nil => simp at hl
        | cons v vs =>
          obtain ⟨c', t', e1, e2⟩ := hv 0 v rfl
          cases e1
          exact .cons ⟨t', e2⟩ (ih vs (by simpa using hl) fun n v hn => hv (n + 1) v hn)
    have va : Vals (z.cps.toList.map fun c => V.str ⟨#[c]⟩) acc.toList := go _ _ (by rw [Array.length_toList, Array.length_toList]; exact it.1) fun n v hn => by
      obtain ⟨c, t', hc', ev⟩ := it.2 n v (by rw [← Array.getElem?_toList]; exact hn)
      exact ⟨c, t', by rw [Array.getElem?_toList]; exact hc', ev⟩
    have rs : ∀ {H' : Hp} (l : List Nat), RDs X.K H' (l.map fun c => D.str ⟨#[c]⟩) (l.map fun c => V.str ⟨#[c]⟩) := fun {H'} l => by
      induction l with
      | nil => exact .nil
      | cons c l ih => exact .cons (.str _) ih
    refine ⟨.ref s.heap.objs.size, _, I.laid (t' := tk') (o := .lst (z.cps.toList.map fun c => V.str ⟨#[c]⟩)) kp (Nat.le_refl _) ⟨by rw [List.length_map, Array.length_toList]; exact hz, acc.toList, c', va, by rw [Array.toArray_toList]; exact e⟩, rfl, ?_⟩
    exact q _ _ (t _ (m.fresh hp)) _ _ (Stb.new hp) (.ref _) (m.new (o := .lst (signs z)) hp ⟨_, upd_same, rs _⟩)
  · exact cr_cLst hc pins s σ H xs us Q I rv ⟨ds, M, Q0, rd, m, h, q⟩
end
end Fg
/-! Fg40: dict(a table of the top); the forms of zip and list(text). -/
namespace Fg
open PySem PySem.Spec L2
open PyProof.Rows hiding St
def rowsD (rows : List (Str × List Str)) : List (D × D) := rows.map fun r => (.str r.1, .tup (r.2.map D.str))
def wDctC (rows : List (Str × List Str)) : WE := fun ρ M Q _ => ∀ p, M p = none → ∀ o, Q (.ref p) (up M p (.dct o (rowsD rows)))
theorem rds_strs {K : PySem.W.Frag} {H : Hp} : ∀ l : List Str, RDs K H (l.map D.str) (l.map V.str)
  | [] => .nil
  | x :: l => .cons (.str x) (rds_strs l)
theorem row_rd {K : PySem.W.Frag} {H : Hp} {e : DictEntry} {l : List Str} (h : rowOf K e = some l) : ∃ y, RelV y e.val ∧ RD K H (.tup (l.map D.str)) y := by
  unfold rowOf at h
  split at h
  · rename_i b eb
    split at h
    · rename_i vs m sl lk
      split at h
      · rename_i hz
        rw [eb]
        exact ⟨.ref b, rfl, .tup (.inr ⟨_, vs, m, lk, rfl, rfl, rfl, Nat.le_trans hz (by rw [sizeLine_eq]; decide), strsOf_ok h⟩) (rds_strs l)⟩
      · cases h
    · cases h
  · cases h
theorem tab_pairs {P : Program} {w : World} {K : PySem.W.Frag} {H : Hp} : ∀ {es : List DictEntry} {rows : List (Str × List Str)}, es.map He.keyOf = He.keysIn w.params (rows.map (·.1)) → es.map (rowOf K) = rows.map (fun r => some r.2) →
    ∃ qs : List (Key × Value), Pairs (mixKind P w) es qs ∧ (∀ e ∈ es, ∃ k, (mixKind P w).is k e.key = true ∧ e.hash = (mixKind P w).hash k) ∧ Paired (RA K H) (rowsD rows) qs ∧ qs.map (·.1) = rows.map fun r => Sum.inr r.1
  | [], [], _, _ => ⟨[], .nil, (fun _ h => nomatch h), .nil, rfl⟩
  | [], r :: rows, h, _ => nomatch h
  | e :: es, [], h, _ => nomatch h
  | e :: es, r :: rows, h, g => by
    have h1 : He.keyOf e :: es.map He.keyOf = some (r.1, PyData.keyHash w.params r.1) :: He.keysIn w.params (rows.map (·.1)) := h
    injection h1 with h2 h3
    injection g with g2 g3
    obtain ⟨qs, q1, q2, q3, q4⟩ := tab_pairs (P := P) (H := H) h3 g3
    obtain ⟨x, t, ek, eh⟩ : ∃ x t, e.key = .str x t ∧ (x, e.hash) = (r.1, PyData.keyHash w.params r.1) := by
      unfold He.keyOf at h2
      split at h2
      · rename_i x t q
        exact ⟨x, t, q, Option.some.inj h2⟩
      · cases h2
    obtain ⟨ex, eh⟩ := Prod.mk.inj eh
    have is1 : (mixKind P w).is (.inr r.1) e.key = true := by rw [ek, ex]; exact mixKind_str P w r.1 t
    refine ⟨(.inr r.1, e.val) :: qs, .cons is1 rfl q1, fun e' he' => ?_, .cons ⟨rfl, row_rd g2⟩ q3, by rw [List.map_cons, List.map_cons, q4]⟩
    rcases List.mem_cons.mp he' with rfl | he'
    · exact ⟨.inr r.1, is1, eh⟩
    · exact q2 e' he'
theorem dicW_keys {K : PySem.W.Frag} {w : World} {a : Addr} {es : Array DictEntry} {n : Nat} {l : List (Option (Str × Int))} (D : KDict K w a es n) (h : He.dicW K a = some l) : es.toList.map He.keyOf = l := by
  unfold He.dicW at h
  rw [D.at_] at h
  have c : (decide (("dict" : String) = "dict") && ((#[] : Array (Option Value)).isEmpty && !(a == sysModules))) = true := by rw [D.low]; rfl
  have h' : (match (decide ((("dict" : String)) = "dict") && ((#[] : Array (Option Value)).isEmpty && !(a == sysModules))) with
    | true => some (es.toList.map He.keyOf)
    | false => none) = some l := h
  rw [c] at h'
  exact Option.some.inj h'
section
variable {hd : Hd} {U : Ud} {k : Nat} {n : Nm}
theorem Fct.tab (F : Fct hd U) (i : Nat) {x : Str} {rows : List (Str × List Str)} (h : hd.ts[i]? = some (x, rows)) : ∃ es m, KDict U.K U.w (He.ga U.K x) es m ∧ es.toList.map He.keyOf = He.keysIn U.w.params (rows.map (·.1)) ∧ es.toList.map (rowOf U.K) = rows.map fun r => some r.2 := by
  have e : hd.keys U.K = hd.due U.w := F.says.2
  have e2 : (hd.keys U.K)[i]? = (hd.due U.w)[i]? := by rw [e]
  unfold Hd.keys Hd.due at e2
  rw [List.getElem?_map, List.getElem?_map, h] at e2
  have e3 := Option.some.inj e2
  obtain ⟨es, m, D⟩ := He.dicW_ok e3
  have b := List.all_eq_true.mp (He.ba (He.ba F.says.1.2).2).2 (x, rows) (List.mem_of_getElem? h)
  unfold tbB at b
  rw [D.at_] at b
  exact ⟨es, m, D, dicW_keys D e3, of_decide_eq_true b⟩
def dcB (n : Nm) (x : Str) (rows : List (Str × List Str)) : Bool := gB n "dict" && (gB n x && (decide ((rows.map (·.1)).Nodup) && decide (rows.length ≤ 1000)))
theorem m_dctC {p p2 pos : Pos} (F : Fct hd U) (i j : Nat) {x : Str} {rows : List (Str × List Str)} (h : hd.ts[i]? = some (x, rows)) (hg : hd.fa[j]? = some (.glo x)) (hf : U.mg "dict" = none) (hb : dcB n x rows = true) : JE U k n (.Call (.Name "dict" p) [.Name x p2] [] pos) (wDctC rows) := fun X W g => by
  obtain ⟨es, m, D, d1, d2⟩ := F.tab i h
  obtain ⟨b1, hb⟩ := He.ba hb
  obtain ⟨b2, hb⟩ := He.ba hb
  obtain ⟨b3, b4⟩ := He.ba hb
  have nd : (rows.map (·.1)).Nodup := of_decide_eq_true b3
  have lz : rows.length ≤ 1000 := of_decide_eq_true b4
  rw [← g.eK] at D d2
  rw [← g.eW] at D d1
  refine ⟨fun pins s σ H Q I ⟨ρ, M, Q0, E0, r, mm, t, q, xg⟩ => ?_⟩
  have pg : PE X (.Name x p2) (fun σ H Q => Q (V.ref (He.ga X.K x)) H) := pe_glob (v := .ref (He.ga X.K x)) (g.gl (of_decide_eq_true (He.ba b2).1)) (by rw [g.eM, g.eK]; exact F.glo j hg) rfl (dbg_ok (He.ba b2).2)
  refine Call_ (ld_blt I (g.gl (of_decide_eq_true (He.ba b1).1)) (g.mgN hf) boot_dict (PyProof.Rows.callWith_type1 (PyProof.Rows.args_cons (thn (pg.run pins s σ H (fun x1 H1 => x1 = V.ref (He.ga X.K x) ∧ H1 = H) I ⟨rfl, rfl⟩) fun v s1 ⟨x1, H1, I1, rv, e1, e2⟩ => PyProof.Rows.args_nil ?_) rfl) rfl rfl))
  subst e1 e2
  obtain rfl : v = Value.ref (He.ga X.K x) := rv
  obtain ⟨qs, q1, q2, q3, q4⟩ := tab_pairs (P := X.prog) (H := H1) d1 d2
  have lq : qs.length = rows.length := by
    have := congrArg List.length q4
    rwa [List.length_map, List.length_map] at this
  have kn : (qs.map (·.1)).Nodup := by
    rw [q4]
    rw [List.Nodup, List.pairwise_map] at nd ⊢
    exact nd.imp fun {a b} ne e => ne (Sum.inr.inj e)
  have ho : s1.heap.DictOf (mixKind X.prog X.w) (He.ga X.K x) qs := ⟨_, es, m, I1.kIn _ _ D.at_, ⟨rfl, rfl, rfl⟩, rfl, fun e he => q2 e (by simpa using he), q1, kn⟩
  refine kt_call_dict D.low ho (by rw [lq, sizeLine_eq]; omega) fun h' hm sb => ?_
  have hp := I1.hok.fresh (Nat.le_refl s1.heap.objs.size)
  obtain ⟨o, es', ep, g1, g2, g3, g4, g5, g6⟩ := hm
  have kp : ∀ b u, s1.heap.get? b = some u → h'.get? b = some u := fun b u e => (sb.2 b (Nat.ne_of_lt (Heap.lt_size e))).trans (Heap.get?_push_of_some _ e)
  have hm' : (s1.heap.objs.size == sysModules) = false := sys_no I1 (Nat.le_refl _)
  have rl : (rowsD rows).length = rows.length := by unfold rowsD; rw [List.length_map]
  have un : uni (rowsD rows) := .inl fun p hp => by
    obtain ⟨r, _, rfl⟩ := List.mem_map.mp hp
    rfl
  have ndk : ((rowsD rows).map fun p => dkey p.1).Nodup := by
    unfold rowsD
    rw [List.map_map]
    rw [List.Nodup, List.pairwise_map] at nd ⊢
    refine nd.imp fun {a b} ne e => ne ?_
    have e' : some (NestedKey.text a.1) = some (NestedKey.text b.1) := e
    have e2 := Option.some.inj e'
    injection e2
  refine ⟨.ref s1.heap.objs.size, _, I1.laid (t' := s1.toks) kp (Nat.le_refl _) (raw_ok g1), rfl, ?_⟩
  exact q _ _ (t _ (mm.fresh hp) o) _ _ (Stb.new hp) (.ref _) (mm.new (o := .dct o (rowsD rows)) hp ⟨es'.toList, ep, upd_same, g2, by rw [g3], hm', by rw [rl, sizeLine_eq]; omega, un, ndk, Paired.mapP (fromA (K := X.K) g5 (fun e he => g4 e (by simpa using he)) q3) fun _ _ z => z.stb (Stb.new hp)⟩)
end
section
variable {U : Ud} {k : Nat} {n : Nm} {a b : Expr} {ws : WA} {p pos tpos : Pos} {elts : List Expr} {kk : Nat}
theorem m_zip (f : U.mg "zip" = none) (h : caB n "zip" [a, b] = true) (ha : JA U k n [a, b] ws) : JI U k n (.Tuple elts kk tpos) (.Call (.Name "zip" p) [a, b] [] pos) (wZip ws) := fun X W g => by
  obtain ⟨h1, h⟩ := He.ba h
  obtain ⟨h2, h3⟩ := He.ba h
  rw [List.all_cons, Bool.and_eq_true, List.all_cons, Bool.and_eq_true] at h2
  exact ui_zip (g.gl (of_decide_eq_true (He.ba h1).1)) (g.mgN f) (ha X W g) (star_cons h2.1) (by rw [star_cons h2.2.1]; rfl)
theorem f_lstX (h : n.hot = false) : ∀ X W, Gd U k n X W → CallR X (.type "list") (upC X cLstX) := fun _ _ g => cr_cLstX (g.calm h)
end
end Fg
/-! Fg41: an int of any size times a small one. -/
namespace Fg
open PySem PySem.Spec L2
open PyProof.Rows hiding St
def dMulS : OD := fun x y M Q => match x, y with
  | .int i, .int j => CMul i j ∧ Q (.int (i * j)) M
  | _, _ => False
theorem op_dMulS {X : Cx} : OpR X (binaryOp .Mult) (upO X dMulS) := by
  intro pins s σ H x y v u Q I rx ry h
  obtain ⟨d, e, M, Q0, r1, r2, m, t, q⟩ := h
  unfold dMulS at t
  split at t
  · cases r1
    cases r2
    exact op_mul pins s σ H _ _ v u Q I rx ry ⟨_, _, rfl, rfl, t.1, q _ M t.2 _ H (Stb.refl H) (.int _) m⟩
  · exact t.elim
theorem b_mulS : JB .Mult dMulS := fun _ => op_dMulS
end Fg
/-! A1: tables from monomials to integers, their order, their form as data. -/
namespace Fg
open PySem PySem.Spec L2
open PyProof.Rows hiding St
abbrev Mono := List (Str × Int)
abbrev Tab := List (Mono × Int)
/-! ### as data -/
def eV (p : Str × Int) : D := .tup [.str p.1, .int p.2]
def eM (m : Mono) : D := .tup (m.map eV)
def eT (t : Mono × Int) : D := .tup [eM t.1, .int t.2]
def eP (t : Tab) : D := .tup (t.map eT)
def kM (m : Mono) : NestedKey := .tup (m.map fun p => .tup [.text p.1, .num p.2])
theorem dkeys_map {α : Type} (f : α → D) (g : α → NestedKey) (h : ∀ a, dkey (f a) = some (g a)) : ∀ l : List α, dkeys (l.map f) = some (l.map g)
  | [] => rfl
  | a :: l => by rw [List.map_cons, List.map_cons, dkeys, h a, dkeys_map f g h l]
theorem dkey_eV (p : Str × Int) : dkey (eV p) = some (.tup [.text p.1, .num p.2]) := rfl
theorem dkey_eM (m : Mono) : dkey (eM m) = some (kM m) := by
  unfold eM kM
  rw [dkey, dkeys_map eV _ dkey_eV]; rfl
theorem kM_inj {a b : Mono} (h : kM a = kM b) : a = b := by
  unfold kM at h
  injection h with h
  have inj : ∀ p q : Str × Int, NestedKey.tup [.text p.1, .num p.2] = .tup [.text q.1, .num q.2] → p = q := fun p q e => by
    injection e with e
    injection e with e1 e2
    injection e1 with e1
    injection e2 with e2 _
    injection e2 with e2
    exact Prod.ext e1 e2
  induction a generalizing b with
  | nil => cases b with
    | nil => rfl
    | cons q b => cases h
  | cons p a ih => cases b with
    | nil => cases h
    | cons q b =>
      rw [List.map_cons, List.map_cons] at h
      injection h with h1 h2
      rw [inj p q h1, ih h2]
theorem eM_inj {a b : Mono} (h : eM a = eM b) : a = b := kM_inj (Option.some.inj ((dkey_eM a).symm.trans ((congrArg dkey h).trans (dkey_eM b))))
theorem eT_inj {a b : Mono × Int} (h : eT a = eT b) : a = b := by
  unfold eT at h
  injection h with h
  injection h with h1 h2
  injection h2 with h2 _
  injection h2 with h2
  exact Prod.ext (eM_inj h1) h2
theorem kM_depth (m : Mono) : (kM m).depth ≤ 8 := by
  unfold kM
  rw [NestedKey.depth]
  have : ∀ l : Mono, NestedKey.depthAll (l.map fun p => NestedKey.tup [.text p.1, .num p.2]) ≤ 1 := fun l => by
    induction l with
    | nil => simp [NestedKey.depthAll]
    | cons p l ih =>
      rw [List.map_cons, NestedKey.depthAll]
      simp [NestedKey.depth, NestedKey.depthAll] at ih ⊢
      omega
  have := this m
  omega
/-! ### a dict's rows -/
def kv (t : Mono × Int) : D × D := (eM t.1, .int t.2)
def kvs (t : Tab) : List (D × D) := t.map kv
theorem kvs_tu (t : Tab) : ∀ p ∈ kvs t, isTu p.1 = true := fun p hp => by
  obtain ⟨q, _, e⟩ := List.mem_map.mp hp
  subst e; rfl
theorem kOk (t : Tab) (m : Mono) : KOk (kvs t) (eM m) (kM m) := ⟨dkey_eM m, kM_depth m, .inr ⟨rfl, kvs_tu t⟩⟩
theorem dk_iff (p : Mono × Int) (m : Mono) : (dkey (kv p).1 = some (kM m)) ↔ p.1 = m := by
  show dkey (eM p.1) = some (kM m) ↔ p.1 = m
  rw [dkey_eM]
  exact ⟨fun h => kM_inj (Option.some.inj h), fun h => by rw [h]⟩
/-! ### tables -/
def look (t : Tab) (m : Mono) : Option Int := (t.find? fun p => decide (p.1 = m)).map (·.2)
def val (t : Tab) (m : Mono) : Int := (look t m).getD 0
def hasM (t : Tab) (m : Mono) : Bool := t.any fun p => decide (p.1 = m)
def put (t : Tab) (m : Mono) (c : Int) : Tab := if hasM t m = true then t.map (fun p => if p.1 = m then (p.1, c) else p) else t ++ [(m, c)]
abbrev ND (t : Tab) : Prop := (t.map (·.1)).Nodup
theorem look_kvs (m : Mono) : ∀ t : Tab, lookK (kvs t) (kM m) = (look t m).map D.int
  | [] => rfl
  | p :: t => by
    have ih := look_kvs m t
    unfold lookK look kvs at ih ⊢
    rw [List.map_cons, List.find?_cons, List.find?_cons]
    by_cases e : p.1 = m
    · rw [decide_eq_true ((dk_iff p m).mpr e), decide_eq_true e]; rfl
    · rw [decide_eq_false (fun z => e ((dk_iff p m).mp z)), decide_eq_false e]; exact ih
theorem has_kvs (m : Mono) (t : Tab) : hasK (kvs t) (kM m) = hasM t m := by
  unfold hasK hasM kvs
  rw [List.any_map]
  congr 1
  funext p
  show decide (dkey (kv p).1 = some (kM m)) = decide (p.1 = m)
  by_cases e : p.1 = m
  · rw [decide_eq_true ((dk_iff p m).mpr e), decide_eq_true e]
  · rw [decide_eq_false (fun z => e ((dk_iff p m).mp z)), decide_eq_false e]
theorem put_kvs (t : Tab) (m : Mono) (c : Int) : putKD (kvs t) (eM m) (kM m) (.int c) = kvs (put t m c) := by
  unfold putKD put
  rw [has_kvs]
  split
  · unfold kvs
    rw [List.map_map, List.map_map]
    refine List.map_congr_left fun p _ => ?_
    show (if dkey (kv p).1 = some (kM m) then ((kv p).1, D.int c) else kv p) = kv (if p.1 = m then (p.1, c) else p)
    by_cases e : p.1 = m
    · rw [if_pos ((dk_iff p m).mpr e), if_pos e]; rfl
    · rw [if_neg (fun z => e ((dk_iff p m).mp z)), if_neg e]
  · unfold kvs
    rw [List.map_append]; rfl
theorem hasM_iff {t : Tab} {m : Mono} : hasM t m = true ↔ m ∈ t.map (·.1) := by
  unfold hasM
  rw [List.any_eq_true, List.mem_map]
  exact ⟨fun ⟨p, h, e⟩ => ⟨p, h, of_decide_eq_true e⟩, fun ⟨p, h, e⟩ => ⟨p, h, decide_eq_true e⟩⟩
theorem put_keys (t : Tab) (m : Mono) (c : Int) : (put t m c).map (·.1) = if hasM t m = true then t.map (·.1) else t.map (·.1) ++ [m] := by
  unfold put
  split
  · rw [List.map_map]
    refine List.map_congr_left fun p _ => ?_
    show (if p.1 = m then (p.1, c) else p).1 = p.1
    split <;> rfl
  · rw [List.map_append]; rfl
theorem put_nd {t : Tab} {m : Mono} {c : Int} (h : ND t) : ND (put t m c) := by
  unfold ND
  rw [put_keys]
  split
  · exact h
  · rename_i hn
    refine List.nodup_append.mpr ⟨h, by simp, fun a ha b hb => ?_⟩
    rw [List.mem_singleton] at hb
    subst hb
    intro e
    subst e
    exact hn (hasM_iff.mpr ha)
theorem put_len (t : Tab) (m : Mono) (c : Int) : (put t m c).length ≤ t.length + 1 := by
  unfold put
  split
  · rw [List.length_map]; omega
  · rw [List.length_append]; simp
theorem put_len_ge (t : Tab) (m : Mono) (c : Int) : t.length ≤ (put t m c).length := by
  unfold put
  split
  · rw [List.length_map]; omega
  · rw [List.length_append]; simp
/-! ### a table as a functional -/
def sm (t : Tab) (f : Mono → Int) : Int := (t.map fun p => p.2 * f p.1).sum
theorem sm_nil (f : Mono → Int) : sm [] f = 0 := rfl
theorem sm_cons (p : Mono × Int) (t : Tab) (f : Mono → Int) : sm (p :: t) f = p.2 * f p.1 + sm t f := by unfold sm; rw [List.map_cons, List.sum_cons]
theorem sm_append (t u : Tab) (f : Mono → Int) : sm (t ++ u) f = sm t f + sm u f := by unfold sm; rw [List.map_append, List.sum_append_int]
def dl (m : Mono) : Mono → Int := fun x => if x = m then 1 else 0
theorem look_none {t : Tab} {m : Mono} : look t m = none ↔ hasM t m = false := by
  unfold look hasM
  rw [Option.map_eq_none_iff, List.find?_eq_none, List.any_eq_false]
theorem look_some {t : Tab} {m : Mono} {c : Int} (h : look t m = some c) : (m, c) ∈ t := by
  unfold look at h
  obtain ⟨p, hp, e⟩ := Option.map_eq_some_iff.mp h
  have h1 := List.mem_of_find?_eq_some hp
  have h2 : p.1 = m := by simpa using List.find?_some hp
  obtain ⟨p1, p2⟩ := p
  dsimp only at e h2
  subst e h2
  exact h1
theorem look_mem {t : Tab} (h : ND t) {m : Mono} {c : Int} (hm : (m, c) ∈ t) : look t m = some c := by
  induction t with
  | nil => cases hm
  | cons p t ih =>
    unfold ND at h
    rw [List.map_cons, List.nodup_cons] at h
    unfold look
    rw [List.find?_cons]
    rcases List.mem_cons.mp hm with e | hm
    · subst e
      rw [decide_eq_true rfl]; rfl
    · have hne : p.1 ≠ m := fun z => h.1 (List.mem_map.mpr ⟨(m, c), hm, z.symm⟩)
      rw [decide_eq_false hne]
      exact ih h.2 hm
theorem sm_zero {t : Tab} {m : Mono} (h : m ∉ t.map (·.1)) : sm t (dl m) = 0 := by
  induction t with
  | nil => rfl
  | cons p t ih =>
    rw [List.map_cons, List.mem_cons, not_or] at h
    rw [sm_cons, ih h.2]
    unfold dl
    rw [if_neg (Ne.symm h.1)]; simp
theorem val_sm {t : Tab} (h : ND t) (m : Mono) : val t m = sm t (dl m) := by
  induction t with
  | nil => rfl
  | cons p t ih =>
    unfold ND at h
    rw [List.map_cons, List.nodup_cons] at h
    rw [sm_cons]
    unfold val look
    rw [List.find?_cons]
    by_cases e : p.1 = m
    · rw [decide_eq_true e, sm_zero (by rw [← e]; exact h.1)]
      unfold dl
      rw [if_pos e]; simp
    · rw [decide_eq_false e, ← ih h.2]
      unfold dl
      rw [if_neg e]
      show val t m = p.2 * 0 + val t m
      simp
theorem put_sm {t : Tab} (h : ND t) (m : Mono) (c : Int) (f : Mono → Int) : sm (put t m c) f = sm t f + (c - val t m) * f m := by
  unfold put
  by_cases hh : hasM t m = true
  · rw [if_pos hh]
    induction t with
    | nil => cases hh
    | cons p t ih =>
      unfold ND at h
      rw [List.map_cons, List.nodup_cons] at h
      rw [List.map_cons, sm_cons, sm_cons]
      by_cases e : p.1 = m
      · have hn : hasM t m = false := by
          cases q : hasM t m with
          | false => rfl
          | true => rw [hasM_iff, ← e] at q; exact absurd q h.1
        have id_ : t.map (fun p => if p.1 = m then (p.1, c) else p) = t := by
          have : ∀ q ∈ t, (fun p : Mono × Int => if p.1 = m then (p.1, c) else p) q = id q := fun q hq => by
            have hne : q.1 ≠ m := fun z => h.1 (List.mem_map.mpr ⟨q, hq, z.trans e.symm⟩)
            show (if q.1 = m then (q.1, c) else q) = q
            rw [if_neg hne]
          rw [List.map_congr_left this, List.map_id]
        rw [id_, if_pos e]
        have ev : val (p :: t) m = p.2 := by
          unfold val look
          rw [List.find?_cons, decide_eq_true e]; rfl
        rw [ev]
        dsimp only
        rw [e, Int.sub_mul]; omega
      · have hn : hasM t m = true := by
          rw [hasM_iff, List.map_cons, List.mem_cons] at hh
          exact hasM_iff.mpr (hh.resolve_left (Ne.symm e))
        rw [if_neg e, ih h.2 hn]
        have ev : val (p :: t) m = val t m := by
          unfold val look
          rw [List.find?_cons, decide_eq_false e]
        rw [ev]; omega
  · rw [if_neg hh, sm_append, sm_cons, sm_nil]
    have ev : val t m = 0 := by
      unfold val
      rw [look_none.mpr (by simpa using hh)]; rfl
    rw [ev]
    simp
/-! ### the nonzero ones, in their order -/
def nz (t : Tab) : Tab := t.filter fun p => decide (p.2 ≠ 0)
theorem nz_sm (t : Tab) (f : Mono → Int) : sm (nz t) f = sm t f := by
  induction t with
  | nil => rfl
  | cons p t ih =>
    unfold nz
    rw [List.filter_cons]
    split
    · rw [sm_cons, sm_cons]; exact congrArg _ ih
    · rename_i h
      have : p.2 = 0 := by simpa using h
      rw [sm_cons, this, Int.zero_mul, Int.zero_add]; exact ih
theorem perm_sm {t u : Tab} (h : t.Perm u) (f : Mono → Int) : sm t f = sm u f := by
  induction h with
  | nil => rfl
  | cons p _ ih => rw [sm_cons, sm_cons, ih]
  | swap p q t => rw [sm_cons, sm_cons, sm_cons, sm_cons]; omega
  | trans _ _ a b => exact a.trans b
theorem nz_nd {t : Tab} (h : ND t) : ND (nz t) := (h.sublist ((List.filter_sublist).map _))
theorem nd_nodup {t : Tab} (h : ND t) : t.Nodup := by
  induction t with
  | nil => exact List.nodup_nil
  | cons p t ih =>
    unfold ND at h
    rw [List.map_cons, List.nodup_cons] at h
    exact List.nodup_cons.mpr ⟨fun m => h.1 (List.mem_map.mpr ⟨p, m, rfl⟩), ih h.2⟩
theorem mem_nz {t : Tab} (h : ND t) {p : Mono × Int} : p ∈ nz t ↔ val t p.1 = p.2 ∧ p.2 ≠ 0 := by
  unfold nz
  rw [List.mem_filter]
  constructor
  · intro ⟨h1, h2⟩
    refine ⟨?_, by simpa using h2⟩
    unfold val
    rw [look_mem h (c := p.2) h1]; rfl
  · intro ⟨h1, h2⟩
    refine ⟨?_, by simpa using h2⟩
    unfold val at h1
    cases q : look t p.1 with
    | none => rw [q] at h1; exact absurd h1.symm h2
    | some c =>
      rw [q] at h1
      have e : c = p.2 := h1
      rw [e] at q
      exact look_some q
/-- two tables with the same values -/
def Eqv (t u : Tab) : Prop := ∀ f, sm t f = sm u f
theorem nz_perm {t u : Tab} (ht : ND t) (hu : ND u) (h : Eqv t u) : (nz t).Perm (nz u) := by
  refine (List.perm_ext_iff_of_nodup (nd_nodup (nz_nd ht)) (nd_nodup (nz_nd hu))).mpr fun p => ?_
  rw [mem_nz ht, mem_nz hu, val_sm ht, val_sm hu, h]
end Fg
/-! A2: the order of monomials and terms; a table's polynomial. -/
namespace Fg
open PySem PySem.Spec L2
open PyProof.Rows hiding St
/-! ### equal data are one -/
mutual
/-- numbers, texts, tuples, lists, None -/
def pl : D → Bool
  | .non => true
  | .int _ => true
  | .str _ => true
  | .tup ds => pls ds
  | .rol ds => pls ds
  | .bl _ => false
  | .ty _ => false
  | .ref _ => false
def pls : List D → Bool
  | [] => true
  | d :: ds => pl d && pls ds
end
mutual
theorem eqD_iff : ∀ (x y : D), pl x = true → pl y = true → (PyData.eqv (toP x) (toP y) = true ↔ x = y)
  | .non, y, _, h => by cases y <;> simp [toP, PyData.eqv, pl] at h ⊢
  | .int i, y, _, h => by cases y <;> simp [toP, PyData.eqv, pl] at h ⊢
  | .str i, y, _, h => by cases y <;> simp [toP, PyData.eqv, pl] at h ⊢
  | .tup ds, y, g, h => by
    cases y with
    | tup es =>
      rw [toP, toP, PyData.eqv, eqDs_iff ds es (by simpa [pl] using g) (by simpa [pl] using h)]
      simp
    | _ => simp [toP, PyData.eqv, pl] at h ⊢
  | .rol ds, y, g, h => by
    cases y with
    | rol es =>
      rw [toP, toP, PyData.eqv, eqDs_iff ds es (by simpa [pl] using g) (by simpa [pl] using h)]
      simp
    | _ => simp [toP, PyData.eqv, pl] at h ⊢
  | .bl _, _, g, _ => by simp [pl] at g
  | .ty _, _, g, _ => by simp [pl] at g
  | .ref _, _, g, _ => by simp [pl] at g
theorem eqDs_iff : ∀ (xs ys : List D), pls xs = true → pls ys = true → (PyData.eqvAll (toPs xs) (toPs ys) = true ↔ xs = ys)
  | [], [], _, _ => by simp [toPs, PyData.eqvAll]
  | [], _ :: _, _, _ => by simp [toPs, PyData.eqvAll]
  | _ :: _, [], _, _ => by simp [toPs, PyData.eqvAll]
  | x :: xs, y :: ys, g, h => by
    rw [pls, Bool.and_eq_true] at g h
    rw [toPs, toPs, PyData.eqvAll, Bool.and_eq_true, eqD_iff x y g.1 h.1, eqDs_iff xs ys g.2 h.2]
    simp
end
theorem pls_map {α : Type} (f : α → D) (h : ∀ a, pl (f a) = true) : ∀ l : List α, pls (l.map f) = true
  | [] => rfl
  | a :: l => by rw [List.map_cons, pls, h a, pls_map f h l]; rfl
theorem dats_map {α : Type} (f : α → D) (h : ∀ a, dat (f a) = true) : ∀ l : List α, dats (l.map f) = true
  | [] => rfl
  | a :: l => by rw [List.map_cons, dats, h a, dats_map f h l]; rfl
theorem deps_map {α : Type} (f : α → D) (n : Nat) (h : ∀ a, dep (f a) ≤ n) : ∀ l : List α, deps (l.map f) ≤ n
  | [] => by simp [deps]
  | a :: l => by
    rw [List.map_cons, deps]
    have := h a
    have := deps_map f n h l
    omega
theorem pl_eM (m : Mono) : pl (eM m) = true := by unfold eM; rw [pl]; exact pls_map eV (fun _ => rfl) m
theorem pl_eT (t : Mono × Int) : pl (eT t) = true := by unfold eT; rw [pl, pls, pl_eM]; rfl
theorem pl_eP (t : Tab) : pl (eP t) = true := by unfold eP; rw [pl]; exact pls_map eT pl_eT t
theorem dat_eM (m : Mono) : dat (eM m) = true := by unfold eM; rw [dat]; exact dats_map eV (fun _ => rfl) m
theorem dat_eT (t : Mono × Int) : dat (eT t) = true := by unfold eT; rw [dat, dats, dat_eM]; rfl
theorem dat_eP (t : Tab) : dat (eP t) = true := by unfold eP; rw [dat]; exact dats_map eT dat_eT t
theorem dep_eV (p : Str × Int) : dep (eV p) ≤ 1 := by simp [eV, dep, deps]
theorem dep_eM (m : Mono) : dep (eM m) ≤ 2 := by
  unfold eM
  rw [dep]
  have := deps_map eV 1 dep_eV m
  omega
theorem dep_eT (t : Mono × Int) : dep (eT t) ≤ 3 := by
  unfold eT
  simp only [dep, deps]
  have := dep_eM t.1
  omega
theorem dep_eP (t : Tab) : dep (eP t) ≤ 4 := by
  unfold eP
  rw [dep]
  have := deps_map eT 3 dep_eT t
  omega
/-! ### alike -/
theorem alikeAll_map {α : Type} (f : α → D) (h : ∀ a b, PySem.W.alike (toP (f a)) (toP (f b)) = true) : ∀ l m : List α, PySem.W.alikeAll (toPs (l.map f)) (toPs (m.map f)) = true
  | [], [] => rfl
  | [], _ :: _ => rfl
  | _ :: _, [] => rfl
  | a :: l, b :: m => by
    rw [List.map_cons, List.map_cons, toPs, toPs, PySem.W.alikeAll, h a b, alikeAll_map f h l m]; rfl
theorem alike_eV (p q : Str × Int) : PySem.W.alike (toP (eV p)) (toP (eV q)) = true := rfl
theorem alike_eM (a b : Mono) : PySem.W.alike (toP (eM a)) (toP (eM b)) = true := by unfold eM; rw [toP, toP, PySem.W.alike]; exact alikeAll_map eV alike_eV a b
theorem alike_eT (a b : Mono × Int) : PySem.W.alike (toP (eT a)) (toP (eT b)) = true := by
  unfold eT
  simp only [toP, toPs, PySem.W.alike, PySem.W.alikeAll, alike_eM, Bool.and_true]
/-! ### less -/
abbrev tk (d : D) := PySem.W.keyToks (toP d)
def mlt (a b : Mono) : Bool := ltD (eM a) (eM b)
theorem leD_eq (x y : D) : leD x y = !ltD y x := rfl
theorem toks_one {x y : D} (hx : pl x = true) (hy : pl y = true) (al : PySem.W.alike (toP x) (toP y) = true) (hne : x ≠ y) (l m : List (Int ⊕ List Nat)) : PyProof.Rows.lexLt PyProof.Rows.itemOrd (tk x ++ l) (tk y ++ m) = ltD x y := by
  have e : PyData.eqv (toP x) (toP y) = false := by
    cases q : PyData.eqv (toP x) (toP y) with
    | false => rfl
    | true => exact absurd ((eqD_iff x y hx hy).mp q) hne
  exact (PySem.W.toks_eqv _ _ al).2 e l m
theorem toks_inj {x y : D} (hx : pl x = true) (hy : pl y = true) (al : PySem.W.alike (toP x) (toP y) = true) (h : tk x = tk y) : x = y := by
  by_cases hne : x = y
  · exact hne
  · have a := toks_one hx hy al hne [.inl 0] [.inl 1]
    have b := toks_one hx hy al hne [.inl 1] [.inl 0]
    rw [h, PySem.W.lex_pre] at a b
    rw [← b] at a
    exact absurd a (by decide)
theorem ltD_irrefl (x : D) : ltD x x = false := PyProof.Rows.lex_irrefl _
theorem ltD_trans {x y z : D} (h1 : ltD x y = true) (h2 : ltD y z = true) : ltD x z = true := PyProof.Rows.lex_trans _ _ _ h1 h2
theorem ltD_asym {x y : D} (h : ltD x y = true) : ltD y x = false := by
  cases q : ltD y x with
  | false => rfl
  | true =>
    have := ltD_trans h q
    rw [ltD_irrefl] at this
    cases this
theorem ltD_total {x y : D} (hx : pl x = true) (hy : pl y = true) (al : PySem.W.alike (toP x) (toP y) = true) (hne : x ≠ y) : ltD x y = true ∨ ltD y x = true := by
  by_cases h1 : ltD x y = true
  · exact .inl h1
  · by_cases h2 : ltD y x = true
    · exact .inr h2
    · exact absurd (toks_inj hx hy al (PyProof.Rows.lex_total _ _ (show ltD x y = false by simpa using h1) (show ltD y x = false by simpa using h2))) hne
theorem mlt_irrefl (a : Mono) : mlt a a = false := ltD_irrefl _
theorem mlt_trans {a b c : Mono} (h1 : mlt a b = true) (h2 : mlt b c = true) : mlt a c = true := ltD_trans h1 h2
theorem mlt_asym {a b : Mono} (h : mlt a b = true) : mlt b a = false := ltD_asym h
theorem mlt_total {a b : Mono} (h : a ≠ b) : mlt a b = true ∨ mlt b a = true := ltD_total (pl_eM a) (pl_eM b) (alike_eM a b) fun z => h (eM_inj z)
theorem mlt_ne {a b : Mono} (h : mlt a b = true) : a ≠ b := fun z => by rw [z, mlt_irrefl] at h; cases h
theorem tk_eT (t : Mono × Int) : tk (eT t) = .inl 1 :: (tk (eM t.1) ++ [.inl 1, .inl t.2, .inl 0]) := by
  simp only [tk, eT, toP, toPs, PySem.W.keyToks, PySem.W.keyToksAll, List.cons_append, List.nil_append]
theorem eT_lt {a b : Mono × Int} (h : a.1 ≠ b.1) : ltD (eT a) (eT b) = mlt a.1 b.1 := by
  show PyProof.Rows.lexLt PyProof.Rows.itemOrd (tk (eT a)) (tk (eT b)) = _
  rw [tk_eT, tk_eT, PyProof.Rows.lex_self]
  exact toks_one (pl_eM _) (pl_eM _) (alike_eM _ _) (fun z => h (eM_inj z)) _ _
/-! ### sorted terms -/
def leT (x y : Mono × Int) : Bool := leD (eT x) (eT y)
theorem leT_total : ∀ a b : Mono × Int, (leT a b || leT b a) = true := fun a b => by
  show (!ltD (eT b) (eT a) || !ltD (eT a) (eT b)) = true
  cases q : ltD (eT a) (eT b) with
  | false => simp
  | true => rw [ltD_asym q]; rfl
theorem leT_trans : ∀ a b c : Mono × Int, leT a b = true → leT b c = true → leT a c = true := fun a b c h1 h2 => (PySem.W.sortLe_total (PyProof.Rows.listOrd PyProof.Rows.itemOrd) false fun t : Mono × Int => tk (eT t)).trans a b c h1 h2
theorem leT_anti {a b : Mono × Int} (h1 : leT a b = true) (h2 : leT b a = true) : a = b := by
  by_cases hne : eT a = eT b
  · exact eT_inj hne
  · have h1' : ltD (eT b) (eT a) = false := by simpa [leT, leD_eq] using h1
    have h2' : ltD (eT a) (eT b) = false := by simpa [leT, leD_eq] using h2
    rcases ltD_total (pl_eT a) (pl_eT b) (alike_eT a b) hne with h | h
    · rw [h2'] at h; cases h
    · rw [h1'] at h; cases h
def srt (t : Tab) : Tab := t.mergeSort leT
theorem srt_map (t : Tab) : (t.map eT).mergeSort leD = (srt t).map eT := by
  unfold srt
  exact (List.map_mergeSort (r := leT) (s := leD) (f := eT) (l := t) fun a _ b _ => rfl).symm
theorem srt_perm (t : Tab) : (srt t).Perm t := List.mergeSort_perm _ _
theorem srt_sorted (t : Tab) : (srt t).Pairwise (fun x y => leT x y = true) := List.pairwise_mergeSort (fun a b c => leT_trans a b c) leT_total t
theorem srt_eq {t u : Tab} (h : t.Perm u) : srt t = srt u := List.Perm.eq_of_pairwise (le := fun x y => leT x y = true) (fun a b _ _ h1 h2 => leT_anti h1 h2) (srt_sorted t) (srt_sorted u) (((srt_perm t).trans h).trans (srt_perm u).symm)
/-- rising by monomials -/
abbrev Rising (t : Tab) : Prop := t.Pairwise fun x y => mlt x.1 y.1 = true
theorem rising_le {x y : Mono × Int} (h : mlt x.1 y.1 = true) : leT x y = true := by
  show (!ltD (eT y) (eT x)) = true
  rw [eT_lt (Ne.symm (mlt_ne h)), mlt_asym h]; rfl
theorem srt_rising {t u : Tab} (h : Rising u) (p : u.Perm t) : srt t = u := List.Perm.eq_of_pairwise (le := fun x y => leT x y = true) (fun a b _ _ h1 h2 => leT_anti h1 h2) (srt_sorted t) (h.imp rising_le) ((srt_perm t).trans p.symm)
theorem rising_nd {t : Tab} (h : Rising t) : ND t := by
  unfold ND
  exact List.Pairwise.map _ (fun x y q => mlt_ne q) h
theorem rising_srt {t : Tab} (h : ND t) : Rising (srt t) := by
  have s := srt_sorted t
  have d : ((srt t).map (·.1)).Nodup := (List.Perm.nodup_iff ((srt_perm t).map _)).mpr h
  have d' : (srt t).Pairwise fun x y => x.1 ≠ y.1 := List.pairwise_map.mp d
  exact (s.and d').imp fun {x y} ⟨h1, h2⟩ => by
    have h1' : ltD (eT y) (eT x) = false := by simpa [leT, leD_eq] using h1
    rw [eT_lt (Ne.symm h2)] at h1'
    rcases mlt_total h2 with h | h
    · exact h
    · rw [h1'] at h; cases h
/-- the polynomial of a table -/
def canon (t : Tab) : Tab := srt (nz t)
theorem canon_eq {t u : Tab} (ht : ND t) (hu : ND u) (h : Eqv t u) : canon t = canon u := srt_eq (nz_perm ht hu h)
theorem canon_nd {t : Tab} (h : ND t) : ND (canon t) := rising_nd (rising_srt (nz_nd h))
theorem canon_sm (t : Tab) (f : Mono → Int) : sm (canon t) f = sm t f := (perm_sm (srt_perm _) f).trans (nz_sm t f)
theorem canon_len (t : Tab) : (canon t).length = (nz t).length := (srt_perm _).length_eq
theorem nz_len (t : Tab) : (nz t).length ≤ t.length := List.length_filter_le _ _
theorem canon_mem {t : Tab} {p : Mono × Int} : p ∈ canon t ↔ p ∈ t ∧ p.2 ≠ 0 := by
  unfold canon
  rw [(srt_perm _).mem_iff, nz, List.mem_filter]
  simp
theorem canon_rising {t : Tab} (h : ND t) : Rising (canon t) := rising_srt (nz_nd h)
theorem canon_self {t : Tab} (h : Rising t) (z : ∀ p ∈ t, p.2 ≠ 0) : canon t = t := by
  have e : nz t = t := List.filter_eq_self.mpr fun p hp => by simpa using z p hp
  unfold canon
  rw [e]
  exact srt_rising h (List.Perm.refl _)
theorem sortOk_eT (t : Tab) : SortOk (t.map eT) := by
  refine ⟨dats_map eT dat_eT t, fun d hd e he => ?_, .inl fun d hd => ?_, Nat.le_trans (deps_map eT 3 dep_eT t) (by decide)⟩
  · obtain ⟨a, _, rfl⟩ := List.mem_map.mp hd
    obtain ⟨b, _, rfl⟩ := List.mem_map.mp he
    exact alike_eT a b
  · obtain ⟨a, _, rfl⟩ := List.mem_map.mp hd
    exact ⟨_, _, rfl⟩
end Fg
/-! A3: what stays, loops and comprehensions by rules, polynomials as they lie. -/
namespace Fg
open PySem PySem.Spec L2
open PyProof.Rows hiding St
/-- nothing that was there is changed -/
def Ext (M M' : MM) : Prop := ∀ a o, M a = some o → M' a = some o
theorem Ext.refl (M : MM) : Ext M M := fun _ _ h => h
theorem Ext.trans {M M1 M2 : MM} (a : Ext M M1) (b : Ext M1 M2) : Ext M M2 := fun x o h => b x o (a x o h)
theorem Ext.new {M : MM} {p : Addr} {o : MO} (h : M p = none) : Ext M (up M p o) := fun x u e => by rw [up_ne (fun z => by rw [z, h] at e; cases e)]; exact e
/-- what was not there ahead may change -/
theorem Ext.upd {M M' : MM} {p : Addr} {o : MO} (h : M p = none) (e : Ext M M') : Ext M (up M' p o) := fun x u q => by rw [up_ne (fun z => by rw [z, h] at q; cases q)]; exact e x u q
theorem Ext.none {M M' : MM} (e : Ext M M') {p : Addr} (h : M' p = none) : M p = none := by
  cases q : M p with
  | none => rfl
  | some o => rw [e p o q] at h; cases h
/-! ### loops -/
theorem loop_rule {stay : MM → Prop} {g : WG} {b : WS} {N : EndsD} {E : QS} (I : Nat → En → MM → Prop) : ∀ (ds : List D) (k : Nat) (ρ : En) (M : MM),
    (∀ i d, ds[i]? = some d → ∀ ρ M, I (k + i) ρ M → ∀ K : En → MM → Prop, (∀ ρ' M', I (k + i + 1) ρ' M' → K ρ' M') → stay M ∧ g d ρ M (fun ρ1 M1 => b ρ1 M1 { nx := K, ct := K, bk := N.nx, rt := N.rt } E) (fun x M1 => E x ρ M1)) →
    (∀ ρ M, I (k + ds.length) ρ M → stay M ∧ N.nx ρ M) → I k ρ M → loopD stay g b ds ρ M N E
  | [], k, ρ, M, _, hn, h => hn ρ M h
  | d :: ds, k, ρ, M, hs, hn, h => by
    refine hs 0 d rfl ρ M h _ fun ρ' M' h' => ?_
    refine loop_rule I ds (k + 1) ρ' M' (fun i e he ρ M hi K hK => ?_) (fun ρ M hi => hn ρ M ?_) h'
    · have e1 : k + 1 + i = k + (i + 1) := by omega
      rw [e1] at hi hK
      exact hs (i + 1) e (by simpa using he) ρ M hi K hK
    · have e1 : k + 1 + ds.length = k + (d :: ds).length := by rw [List.length_cons]; omega
      rw [← e1]; exact hi
theorem for_rule {stay : MM → Prop} {g : WG} {b : WS} {N : EndsD} {E : QS} {ds : List D} {ρ : En} {M : MM} (I : Nat → En → MM → Prop) (h0 : I 0 ρ M)
    (hs : ∀ i d, ds[i]? = some d → ∀ ρ M, I i ρ M → ∀ K : En → MM → Prop, (∀ ρ' M', I (i + 1) ρ' M' → K ρ' M') → stay M ∧ g d ρ M (fun ρ1 M1 => b ρ1 M1 { nx := K, ct := K, bk := N.nx, rt := N.rt } E) (fun x M1 => E x ρ M1))
    (hn : ∀ ρ M, I ds.length ρ M → stay M ∧ N.nx ρ M) : loopD stay g b ds ρ M N E :=
  loop_rule I ds 0 ρ M (fun i d hd ρ M hi K hK => by rw [Nat.zero_add] at hi hK; exact hs i d hd ρ M hi K hK) (fun ρ M hi => by rw [Nat.zero_add] at hi; exact hn ρ M hi) h0
/-- a comprehension whose items change nothing that is there: the items that are taken, each by f -/
theorem lc_rule {stay : MM → Prop} {M1 : MM} {p : Addr} {ρ0 : En} {g : WG} {tt : WB} {te : WE} {ds : List D} {K : MM → Prop} (hp : M1 p = none) (f : D → D) (t : D → Bool) (hst : ∀ M, Ext M1 M → stay M) (hz : ds.length ≤ sizeLine)
    (hs : ∀ d ∈ ds, ∀ M, Ext M1 M → ∀ (K1 : QD) (K0 : MM → Prop), (t d = true → ∀ M', Ext M M' → K1 (f d) M') → (t d = false → ∀ M', Ext M M' → K0 M') → g d ρ0 M (fun ρ1 M2 => tt ρ1 M2 (fun k M3 => if k = true then te ρ1 M3 K1 noX else K0 M3) noX) noX)
    (hK : ∀ M', Ext M1 M' → M' p = some (.lst ((ds.filter t).map f)) → K M') : lcD stay p ρ0 g tt te ds [] (up M1 p (.lst [])) K := by
  have go : ∀ (rs acc : List D) (M : MM), (∀ d ∈ rs, d ∈ ds) → acc.length + rs.length ≤ sizeLine → Ext M1 M → M p = some (.lst acc) → (∀ M', Ext M1 M' → M' p = some (.lst (acc ++ (rs.filter t).map f)) → K M') → lcD stay p ρ0 g tt te rs acc M K := by
    intro rs
    induction rs with
    | nil => intro acc M _ _ e h k; exact ⟨hst M e, h, k M e (by simpa using h)⟩
    | cons d rs ih =>
      intro acc M hm hl e h k
      refine ⟨hst M e, hs d (hm d List.mem_cons_self) M e _ _ (fun ht M' e' => ?_) fun ht M' e' => ?_⟩
      · rw [List.length_cons] at hl
        refine ⟨e' _ _ h, by omega, ih _ _ (fun x hx => hm x (List.mem_cons_of_mem _ hx)) (by rw [List.length_append, List.length_singleton]; omega) (Ext.upd hp (e.trans e')) up_same fun M2 e2 h2 => k M2 e2 ?_⟩
        rw [h2, List.filter_cons, if_pos ht]; simp
      · refine ih _ _ (fun x hx => hm x (List.mem_cons_of_mem _ hx)) (by rw [List.length_cons] at hl; omega) (e.trans e') (e' _ _ h) fun M2 e2 h2 => k M2 e2 ?_
        rw [h2, List.filter_cons, if_neg (by rw [ht]; decide)]
  exact go ds [] _ (fun d h => h) (by simpa using hz) (Ext.new hp) up_same fun M' e h => hK M' e (by simpa using h)
theorem lc_map {α : Type} {stay : MM → Prop} {M1 : MM} {p : Addr} {ρ0 : En} {g : WG} {tt : WB} {te : WE} {xs : List α} {K : MM → Prop} (hp : M1 p = none) (g0 f : α → D) (t : α → Bool) (hst : ∀ M, Ext M1 M → stay M) (hz : xs.length ≤ sizeLine)
    (hs : ∀ x ∈ xs, ∀ M, Ext M1 M → ∀ (K1 : QD) (K0 : MM → Prop), (t x = true → ∀ M', Ext M M' → K1 (f x) M') → (t x = false → ∀ M', Ext M M' → K0 M') → g (g0 x) ρ0 M (fun ρ1 M2 => tt ρ1 M2 (fun k M3 => if k = true then te ρ1 M3 K1 noX else K0 M3) noX) noX)
    (hK : ∀ M', Ext M1 M' → M' p = some (.lst ((xs.filter t).map f)) → K M') : lcD stay p ρ0 g tt te (xs.map g0) [] (up M1 p (.lst [])) K := by
  have go : ∀ (rs : List α) (acc : List D) (M : MM), (∀ d ∈ rs, d ∈ xs) → acc.length + rs.length ≤ sizeLine → Ext M1 M → M p = some (.lst acc) → (∀ M', Ext M1 M' → M' p = some (.lst (acc ++ (rs.filter t).map f)) → K M') → lcD stay p ρ0 g tt te (rs.map g0) acc M K := by
    intro rs
    induction rs with
    | nil => intro acc M _ _ e h k; exact ⟨hst M e, h, k M e (by simpa using h)⟩
    | cons d rs ih =>
      intro acc M hm hl e h k
      refine ⟨hst M e, hs d (hm d List.mem_cons_self) M e _ _ (fun ht M' e' => ?_) fun ht M' e' => ?_⟩
      · rw [List.length_cons] at hl
        refine ⟨e' _ _ h, by omega, ih _ _ (fun x hx => hm x (List.mem_cons_of_mem _ hx)) (by rw [List.length_append, List.length_singleton]; omega) (Ext.upd hp (e.trans e')) up_same fun M2 e2 h2 => k M2 e2 ?_⟩
        rw [h2, List.filter_cons, if_pos ht]; simp
      · refine ih _ _ (fun x hx => hm x (List.mem_cons_of_mem _ hx)) (by rw [List.length_cons] at hl; omega) (e.trans e') (e' _ _ h) fun M2 e2 h2 => k M2 e2 ?_
        rw [h2, List.filter_cons, if_neg (by rw [ht]; decide)]
  exact go xs [] _ (fun d h => h) (by simpa using hz) (Ext.new hp) up_same fun M' e h => hK M' e (by simpa using h)
/-! ### rows as they lie -/
theorem items_ext {M M' : MM} (e : Ext M M') {d : D} {ds : List D} (h : itemsOf M d = some ds) : itemsOf M' d = some ds := by
  cases d with
  | ref a =>
    unfold itemsOf at h ⊢
    cases q : M a with
    | none => simp only [q] at h; cases h
    | some o =>
      have q' := e a o q
      simp only [q] at h
      simp only [q']
      exact h
  | _ => exact h
theorem items_ref {M : MM} {p : Addr} {ds : List D} (h : M p = some (.lst ds)) : itemsOf M (.ref p) = some ds := by unfold itemsOf; simp only [h]
theorem tyR_lst {M : MM} {p : Addr} {ds : List D} (h : M p = some (.lst ds)) : tyR M (.ref p) = some "list" := by unfold tyR; simp only [h]
theorem tyR_dct {M : MM} {p : Addr} {o : Obj} {ds : List (D × D)} (h : M p = some (.dct o ds)) : tyR M (.ref p) = some "dict" := by unfold tyR; simp only [h]
theorem walk_items {M : MM} {d : D} {ds : List D} (h : itemsOf M d = some ds) : ∃ st, ∀ M', Ext M M' → walkD M' d = some (ds, st) ∧ st M' := by
  cases d with
  | tup es => cases h; exact ⟨_, fun _ _ => ⟨rfl, trivial⟩⟩
  | rol es => cases h; exact ⟨_, fun _ _ => ⟨rfl, trivial⟩⟩
  | ref a =>
    unfold itemsOf at h
    cases q : M a with
    | none => simp only [q] at h; cases h
    | some o =>
      cases o with
      | lst es =>
        simp only [q] at h
        cases h
        exact ⟨fun M' => M' a = some (.lst ds), fun M' e => ⟨by unfold walkD; simp only [e _ _ q], e _ _ q⟩⟩
      | _ => simp only [q] at h; cases h
  | _ => cases h
theorem walk_dct {M : MM} {a : Addr} {o : Obj} {rows : List (D × D)} (h : M a = some (.dct o rows)) : ∃ st, walkD M (.ref a) = some (rows.map (·.1), st) ∧ (∀ M', M' a = some (.dct o rows) → st M') :=
  ⟨fun M' => M' a = some (.dct o rows), by unfold walkD; simp only [h], fun M' e => e⟩
theorem lenD_lst {M : MM} {p : Addr} {ds : List D} (h : M p = some (.lst ds)) : lenD M (.ref p) = some ds.length := by unfold lenD; simp only [h]
theorem walk_str {M : MM} {z : Str} : walkD M (.str z) = some (signs z, fun _ => True) := rfl
def RV (M : MM) (e : D) (p : Str × Int) : Prop := itemsOf M e = some [.str p.1, .int p.2]
def RMo (M : MM) (e : D) (m : Mono) : Prop := ∃ ds, itemsOf M e = some ds ∧ Paired (RV M) ds m
def RTe (M : MM) (e : D) (t : Mono × Int) : Prop := ∃ dm, itemsOf M e = some [dm, .int t.2] ∧ RMo M dm t.1
def RPo (M : MM) (e : D) (t : Tab) : Prop := ∃ ds, itemsOf M e = some ds ∧ Paired (RTe M) ds t
theorem paired_map {α β : Type} {R : β → α → Prop} (f : α → β) (h : ∀ a, R (f a) a) : ∀ l : List α, Paired R (l.map f) l
  | [] => .nil
  | a :: l => .cons (h a) (paired_map f h l)
theorem rmo_eM (M : MM) (m : Mono) : RMo M (eM m) m := ⟨_, rfl, paired_map eV (fun _ => rfl) m⟩
theorem rpo_eP (M : MM) (t : Tab) : RPo M (eP t) t := ⟨_, rfl, paired_map eT (fun x => ⟨_, rfl, rmo_eM M x.1⟩) t⟩
theorem RMo.ext {M M' : MM} (e : Ext M M') {d : D} {m : Mono} (h : RMo M d m) : RMo M' d m := let ⟨ds, h1, h2⟩ := h; ⟨ds, items_ext e h1, Paired.mapP h2 fun _ _ q => items_ext e q⟩
theorem RTe.ext {M M' : MM} (e : Ext M M') {d : D} {m : Mono × Int} (h : RTe M d m) : RTe M' d m := let ⟨ds, h1, h2⟩ := h; ⟨ds, items_ext e h1, h2.ext e⟩
theorem RPo.ext {M M' : MM} (e : Ext M M') {d : D} {m : Tab} (h : RPo M d m) : RPo M' d m := let ⟨ds, h1, h2⟩ := h; ⟨ds, items_ext e h1, Paired.mapP h2 fun _ _ q => q.ext e⟩
theorem paired_at {α β : Type} {R : α → β → Prop} {xs : List α} {ys : List β} (h : Paired R xs ys) {i : Nat} {x : α} (e : xs[i]? = some x) : ∃ y, ys[i]? = some y ∧ R x y := paired_get h e
structure Sml (t : Tab) : Prop where
  len : t.length ≤ 1000000
  mono : ∀ p ∈ t, p.1.length ≤ 1000000
/-! ### dicts -/
theorem putAll_kvs (t : Tab) : ∀ u : Tab, putAll (kvs u) (kvs t) = kvs (t.foldl (fun acc p => put acc p.1 p.2) u) := by
  induction t with
  | nil => intro u; rfl
  | cons p t ih =>
    intro u
    show putAll (putP (kvs u) (kv p)) (kvs t) = _
    rw [putP_eq (k := kM p.1) (dkey_eM p.1)]
    show putAll (putKD (kvs u) (eM p.1) (kM p.1) (.int p.2)) (kvs t) = _
    rw [put_kvs]
    exact ih _
theorem fold_put : ∀ (t u : Tab), ND (u ++ t) → t.foldl (fun acc p => put acc p.1 p.2) u = u ++ t
  | [], u, _ => by simp
  | p :: t, u, h => by
    have hn : hasM u p.1 = false := by
      cases q : hasM u p.1 with
      | false => rfl
      | true =>
        unfold ND at h
        rw [List.map_append, List.map_cons] at h
        exact absurd rfl ((List.nodup_append.mp h).2.2 p.1 (hasM_iff.mp q) p.1 List.mem_cons_self)
    have e : put u p.1 p.2 = u ++ [p] := by
      unfold put
      rw [if_neg (by rw [hn]; decide)]
    rw [List.foldl_cons, e, fold_put t (u ++ [p]) (by simpa using h)]
    simp
theorem pairsOk_kvs (t : Tab) : PairsOk (kvs t) := ⟨fun p hp => by
  obtain ⟨q, _, e⟩ := List.mem_map.mp hp
  subst e
  exact ⟨kM q.1, dkey_eM q.1, kM_depth q.1⟩, .inr (kvs_tu t)⟩
theorem putAll_nd {t : Tab} (h : ND t) : putAll [] (kvs t) = kvs t := by
  have := putAll_kvs t []
  rw [fold_put t [] (by simpa using h)] at this
  exact this
theorem keys_kvs (t : Tab) : (kvs t).map (·.1) = t.map fun p => eM p.1 := by unfold kvs; rw [List.map_map]; rfl
theorem low {n : Nat} (h : n < 2 ^ 64) : n < 2 ^ 400000 := Nat.lt_trans h (Nat.pow_lt_pow_right (by decide) (by decide))
theorem mul_ok {i j : Int} (h1 : i.natAbs < 2 ^ 400000) (h2 : j.natAbs < 2 ^ 400000) : CMulW i j := by
  have lg : ∀ {z : Int}, z.natAbs < 2 ^ 400000 → z.natAbs.log2 < 400000 := fun {z} h => by
    by_cases q : z.natAbs = 0
    · rw [q]; decide
    · exact (Nat.log2_lt q).mpr h
  have a := lg h1
  have b := lg h2
  unfold CMulW
  omega
end Fg
namespace FgL
open PySem PySem.Spec L2 Fg
open PyProof.Rows hiding St
def top (i : Nat) : Stmt := PySem.Challenge.pw_figurehold_k41_texts_of_steps_and_claims.main.body.getD i (.Pass ⟨0, 0, 0, 0⟩)
abbrev s_joined : Stmt := top 13
def d_joined : He.DefD := ⟨("joined", none), "joined", "joined", defArgs s_joined, defBody s_joined, defScope s_joined, [], []⟩
abbrev s_step_text : Stmt := top 14
def d_step_text : He.DefD := ⟨("step_text", none), "step_text", "step_text", defArgs s_step_text, defBody s_step_text, defScope s_step_text, [], []⟩
abbrev s_claim_text : Stmt := top 15
def d_claim_text : He.DefD := ⟨("claim_text", none), "claim_text", "claim_text", defArgs s_claim_text, defBody s_claim_text, defScope s_claim_text, [], []⟩
abbrev s_is_name_word : Stmt := top 16
def d_is_name_word : He.DefD := ⟨("is_name_word", none), "is_name_word", "is_name_word", defArgs s_is_name_word, defBody s_is_name_word, defScope s_is_name_word, [], []⟩
abbrev s_is_number_word : Stmt := top 17
def d_is_number_word : He.DefD := ⟨("is_number_word", none), "is_number_word", "is_number_word", defArgs s_is_number_word, defBody s_is_number_word, defScope s_is_number_word, [], []⟩
abbrev s_is_integer_word : Stmt := top 18
def d_is_integer_word : He.DefD := ⟨("is_integer_word", none), "is_integer_word", "is_integer_word", defArgs s_is_integer_word, defBody s_is_integer_word, defScope s_is_integer_word, [], []⟩
abbrev s_member_of : Stmt := top 19
def d_member_of : He.DefD := ⟨("member_of", none), "member_of", "member_of", defArgs s_member_of, defBody s_member_of, defScope s_member_of, [], []⟩
abbrev s_members_of : Stmt := top 20
def d_members_of : He.DefD := ⟨("members_of", none), "members_of", "members_of", defArgs s_members_of, defBody s_members_of, defScope s_members_of, [], []⟩
abbrev s_read_step : Stmt := top 21
def d_read_step : He.DefD := ⟨("read_step", none), "read_step", "read_step", defArgs s_read_step, defBody s_read_step, defScope s_read_step, [], []⟩
abbrev s_read_claim : Stmt := top 22
def d_read_claim : He.DefD := ⟨("read_claim", none), "read_claim", "read_claim", defArgs s_read_claim, defBody s_read_claim, defScope s_read_claim, [], []⟩
abbrev s_bag_l : Stmt := top 24
def d_bag_l : He.DefD := ⟨("_law_bag", none), "_law_bag", "_law_bag", defArgs s_bag_l, defBody s_bag_l, defScope s_bag_l, [], []⟩
abbrev s_draw_l : Stmt := top 25
def d_draw_l : He.DefD := ⟨("_law_draw", none), "_law_draw", "_law_draw", defArgs s_draw_l, defBody s_draw_l, defScope s_draw_l, [], []⟩
abbrev s_meets_l : Stmt := top 26
def d_meets_l : He.DefD := ⟨("_law_meets", none), "_law_meets", "_law_meets", defArgs s_meets_l, defBody s_meets_l, defScope s_meets_l, [], []⟩
abbrev s_names_l : Stmt := top 27
def d_names_l : He.DefD := ⟨("_law_names", none), "_law_names", "_law_names", defArgs s_names_l, defBody s_names_l, defScope s_names_l, [], []⟩
abbrev s_step_shapes_l : Stmt := top 28
def d_step_shapes_l : He.DefD := ⟨("_law_step_shapes", none), "_law_step_shapes", "_law_step_shapes", defArgs s_step_shapes_l, defBody s_step_shapes_l, defScope s_step_shapes_l, [], []⟩
abbrev s_claim_shapes_l : Stmt := top 29
def d_claim_shapes_l : He.DefD := ⟨("_law_claim_shapes", none), "_law_claim_shapes", "_law_claim_shapes", defArgs s_claim_shapes_l, defBody s_claim_shapes_l, defScope s_claim_shapes_l, [], []⟩
abbrev s_is_name_l : Stmt := top 30
def d_is_name_l : He.DefD := ⟨("_law_is_name", none), "_law_is_name", "_law_is_name", defArgs s_is_name_l, defBody s_is_name_l, defScope s_is_name_l, [], []⟩
abbrev s_integer_l : Stmt := top 31
def d_integer_l : He.DefD := ⟨("_law_integer", none), "_law_integer", "_law_integer", defArgs s_integer_l, defBody s_integer_l, defScope s_integer_l, [], []⟩
abbrev s_formed_l : Stmt := top 32
def d_formed_l : He.DefD := ⟨("_law_formed", none), "_law_formed", "_law_formed", defArgs s_formed_l, defBody s_formed_l, defScope s_formed_l, [], []⟩
abbrev s_line_l : Stmt := top 33
def d_line_l : He.DefD := ⟨("_law_line", none), "_law_line", "_law_line", defArgs s_line_l, defBody s_line_l, defScope s_line_l, [], []⟩
abbrev s_number_l : Stmt := top 34
def d_number_l : He.DefD := ⟨("_law_number", none), "_law_number", "_law_number", defArgs s_number_l, defBody s_number_l, defScope s_number_l, [], []⟩
abbrev s_thing_l : Stmt := top 35
def d_thing_l : He.DefD := ⟨("_law_thing", none), "_law_thing", "_law_thing", defArgs s_thing_l, defBody s_thing_l, defScope s_thing_l, [], []⟩
abbrev s_told_l : Stmt := top 36
def d_told_l : He.DefD := ⟨("_law_told", none), "_law_told", "_law_told", defArgs s_told_l, defBody s_told_l, defScope s_told_l, [], []⟩
abbrev s_spoilt_l : Stmt := top 37
def d_spoilt_l : He.DefD := ⟨("_law_spoilt", none), "_law_spoilt", "_law_spoilt", defArgs s_spoilt_l, defBody s_spoilt_l, defScope s_spoilt_l, [], []⟩
abbrev s_are_integers_read_l : Stmt := top 38
def d_are_integers_read_l : He.DefD := ⟨("_law_are_integers_read", none), "_law_are_integers_read", "_law_are_integers_read", defArgs s_are_integers_read_l, defBody s_are_integers_read_l, defScope s_are_integers_read_l, [], []⟩
abbrev s_law : Stmt := top 39
def d_law : He.DefD := ⟨("law", none), "law", "law", defArgs s_law, defBody s_law, defScope s_law, [], []⟩
def xs : List Str := ["FigureError", "BadValue", "BadClaim"]
def fa : List He.Fa := [.free "str", .glo "joined", .glo "step_text", .glo "claim_text", .str "LETTERS" "abcdefghijklmnopqrstuvwxyz", .free "all", .free "len", .int "MOST_LETTERS" 4, .glo "is_name_word", .str "FIGURES" "0123456789", .int "MOST_FIGURES" 9, .glo "is_number_word", .glo "is_integer_word", .free "int", .str "NAME" "name", .glo "member_of", .free "any", .free "tuple", .free "zip", .free "isinstance", .glo "members_of", .free "super", .free "super", .glo "BadValue", .glo "STEPS", .free "dict", .glo "read_step", .glo "CLAIMS", .glo "read_claim", .free "abs", .glo "_law_bag", .glo "_law_draw", .free "range", .free "bool", .glo "_law_meets", .free "list", .glo "_law_names", .glo "_law_step_shapes", .glo "_law_claim_shapes", .glo "_law_is_name", .glo "_law_integer", .glo "_law_formed", .glo "_law_line", .glo "_law_number", .glo "_law_thing", .glo "BadClaim", .glo "FigureError", .glo "_law_told", .glo "_law_spoilt", .glo "_law_are_integers_read", .glo "law"]
def tb_STEPS : List (Str × List Str) := [("free", ["name"]), ("slide", ["name", "name", "name"]), ("part", ["name", "name", "name", "integer", "integer"]), ("shift", ["name", "name", "name", "name"]), ("turn", ["name", "name", "name", "name"]), ("over", ["name", "name", "name"]), ("mirror", ["name", "name", "name", "name"]), ("foot", ["name", "name", "name", "name"]), ("meet", ["name", "name", "name", "name", "name"]), ("second", ["name", "name", "name", "name"]), ("centre", ["name", "name", "name", "name"])]
def tb_CLAIMS : List (Str × List Str) := [("same", ["name", "name"]), ("on_line", ["name", "name", "name"]), ("parallel", ["name", "name", "name", "name"]), ("perpendicular", ["name", "name", "name", "name"]), ("equal_length", ["name", "name", "name", "name"]), ("equal_area", ["name", "name", "name", "name", "name", "name"]), ("on_circle", ["name", "name", "name", "name"]), ("one_meet", ["name", "name", "name", "name", "name", "name"])]
def hd : Hd := ⟨6, fa, [d_joined, d_step_text, d_claim_text, d_is_name_word, d_is_number_word, d_is_integer_word, d_member_of, d_members_of, d_read_step, d_read_claim, d_bag_l, d_draw_l, d_meets_l, d_names_l, d_step_shapes_l, d_claim_shapes_l, d_is_name_l, d_integer_l, d_formed_l, d_line_l, d_number_l, d_thing_l, d_told_l, d_spoilt_l, d_are_integers_read_l, d_law], xs, [("BadValue", "at")], PySem.Challenge.pw_figurehold_k41_texts_of_steps_and_claims.main.file, [("STEPS", tb_STEPS), ("CLAIMS", tb_CLAIMS)]⟩
/-! joined -/
def w_joined : WS :=
  (wSeq (wRet (wBm "str" mJoin (wCst (.str " ")) (wCons (wLc (wWk (wVar 0)) [1] (gNm 1) wYes (wCl cStr (wCons (wVar 1) wNil))) wNil)))
  wNext)
def sp_joined : SpD := spW ["members", "member"] 1 w_joined
theorem k_joined {U : Ud} (F : Fct hd U) : JSs U 0 ⟨["members", "member"], d_joined.scope, fun _ => true, false, none, true⟩ d_joined.body w_joined :=
  (s_cons (s_ret (m_bm f_join (fun _ _ _ => md_join) (by decide +kernel) n_str (m_acons (m_lc [("member", 1)] (by decide +kernel) (m_wk (m_var 0 (by decide +kernel))) (m_gnm 1 (by decide +kernel) (fun σ v => ownR_set (by decide) σ _)) ts_nil (m_bty f_str (F.free 0 rfl) (by decide +kernel) (m_acons (m_var 1 (by decide +kernel)) a_nil (by decide +kernel)))) a_nil (by decide +kernel))))
  s_nil)
theorem h_joined {U : Ud} (F : Fct hd U) : FnHas U.P U.w U.K U.mg U.base 1 "joined" sp_joined := F.fn (N := ["members", "member"]) (ps := ["members"]) 0 1 rfl rfl ⟨rfl, rfl⟩ rfl ⟨rfl, rfl, rfl, by decide +kernel, rfl, by decide +kernel, by decide +kernel⟩ (fun _ _ _ _ _ _ us hl => match us, hl with | [_], _ => rfl) (k_joined F)
/-! step_text -/
def w_step_text : WS :=
  (wSeq (wRet (wCall sp_joined (wCons (wVar 0) wNil)))
  wNext)
def sp_step_text : SpD := spW ["step"] 1 w_step_text
theorem k_step_text {U : Ud} (F : Fct hd U) : JSs U 1 ⟨["step"], d_step_text.scope, fun _ => true, false, none, true⟩ d_step_text.body w_step_text :=
  (s_cons (s_ret (m_call (h_joined F) (by decide) (by decide +kernel) (m_acons (m_var 0 (by decide +kernel)) a_nil (by decide +kernel))))
  s_nil)
theorem h_step_text {U : Ud} (F : Fct hd U) : FnHas U.P U.w U.K U.mg U.base 2 "step_text" sp_step_text := F.fn (N := ["step"]) (ps := ["step"]) 1 2 rfl rfl ⟨rfl, rfl⟩ rfl ⟨rfl, rfl, rfl, by decide +kernel, rfl, by decide +kernel, by decide +kernel⟩ (fun _ _ _ _ _ _ us hl => match us, hl with | [_], _ => rfl) (k_step_text F)
/-! claim_text -/
def w_claim_text : WS :=
  (wSeq (wRet (wCall sp_joined (wCons (wVar 0) wNil)))
  wNext)
def sp_claim_text : SpD := spW ["claim"] 1 w_claim_text
theorem k_claim_text {U : Ud} (F : Fct hd U) : JSs U 1 ⟨["claim"], d_claim_text.scope, fun _ => true, false, none, true⟩ d_claim_text.body w_claim_text :=
  (s_cons (s_ret (m_call (h_joined F) (by decide) (by decide +kernel) (m_acons (m_var 0 (by decide +kernel)) a_nil (by decide +kernel))))
  s_nil)
theorem h_claim_text {U : Ud} (F : Fct hd U) : FnHas U.P U.w U.K U.mg U.base 2 "claim_text" sp_claim_text := F.fn (N := ["claim"]) (ps := ["claim"]) 2 3 rfl rfl ⟨rfl, rfl⟩ rfl ⟨rfl, rfl, rfl, by decide +kernel, rfl, by decide +kernel, by decide +kernel⟩ (fun _ _ _ _ _ _ us hl => match us, hl with | [_], _ => rfl) (k_claim_text F)
/-! is_name_word -/
def w_is_name_word : WS :=
  (wSeq (wRet (wAndV (wChain dLe dLe (wCst (.int 1)) (wCl cLen (wCons (wVar 0) wNil)) (wCst (.int 4))) (wCl cAll (wCons (wLc (wWk (wVar 0)) [1] (gNm 1) wYes (wOp dIn (wVar 1) (wCst (.str "abcdefghijklmnopqrstuvwxyz")))) wNil))))
  wNext)
def sp_is_name_word : SpD := spW ["word", "sign"] 1 w_is_name_word
theorem k_is_name_word {U : Ud} (F : Fct hd U) : JSs U 0 ⟨["word", "sign"], d_is_name_word.scope, fun _ => true, false, none, true⟩ d_is_name_word.body w_is_name_word :=
  (s_cons (s_ret (n_and (n_chain c_le c_le n_int (m_blt f_len (F.free 6 rfl) (by decide +kernel) (m_acons (m_var 0 (by decide +kernel)) a_nil (by decide +kernel))) (m_gc (F.int 7 rfl) (by decide +kernel)) (by decide +kernel)) (n_one (m_blt (f_all rfl) (F.free 5 rfl) (by decide +kernel) (m_acons (m_lc [("sign", 1)] (by decide +kernel) (m_wk (m_var 0 (by decide +kernel))) (m_gnm 1 (by decide +kernel) (fun σ v => ownR_set (by decide) σ _)) ts_nil (n_cmp c_in (m_var 1 (by decide +kernel)) (m_gc (F.str 4 rfl) (by decide +kernel)) (by decide +kernel))) a_nil (by decide +kernel))))))
  s_nil)
theorem h_is_name_word {U : Ud} (F : Fct hd U) : FnHas U.P U.w U.K U.mg U.base 1 "is_name_word" sp_is_name_word := F.fn (N := ["word", "sign"]) (ps := ["word"]) 3 8 rfl rfl ⟨rfl, rfl⟩ rfl ⟨rfl, rfl, rfl, by decide +kernel, rfl, by decide +kernel, by decide +kernel⟩ (fun _ _ _ _ _ _ us hl => match us, hl with | [_], _ => rfl) (k_is_name_word F)
/-! is_number_word -/
def w_is_number_word_1 : WS :=
  (wSeq (wRet (wOrV (wOp dEq (wVar 0) (wCst (.str "0"))) (wOp dNe (wOp dIx (wVar 0) (wCst (.int 0))) (wCst (.str "0")))))
  wNext)
def w_is_number_word : WS :=
  (wSeq (wIfS (wOrB (wNotB (wBl (wChain dLe dLe (wCst (.int 1)) (wCl cLen (wCons (wVar 0) wNil)) (wCst (.int 9))))) (wNotB (wTru (wCl cAll (wCons (wLc (wWk (wVar 0)) [1] (gNm 1) wYes (wOp dIn (wVar 1) (wCst (.str "0123456789")))) wNil))))) (wSeq (wRet (wCst (.bl false)))
  wNext) wNext)
  w_is_number_word_1)
def sp_is_number_word : SpD := spW ["word", "sign"] 1 w_is_number_word
theorem k_is_number_word {U : Ud} (F : Fct hd U) : JSs U 0 ⟨["word", "sign"], d_is_number_word.scope, fun _ => true, false, none, true⟩ d_is_number_word.body w_is_number_word :=
  (s_cons (s_if (t_w (w_or (t_not (t_chain c_le c_le n_int (m_blt f_len (F.free 6 rfl) (by decide +kernel) (m_acons (m_var 0 (by decide +kernel)) a_nil (by decide +kernel))) (m_gc (F.int 10 rfl) (by decide +kernel)) (by decide +kernel))) (w_or1 (t_not (t_val (m_blt (f_all rfl) (F.free 5 rfl) (by decide +kernel) (m_acons (m_lc [("sign", 1)] (by decide +kernel) (m_wk (m_var 0 (by decide +kernel))) (m_gnm 1 (by decide +kernel) (fun σ v => ownR_set (by decide) σ _)) ts_nil (n_cmp c_in (m_var 1 (by decide +kernel)) (m_gc (F.str 9 rfl) (by decide +kernel)) (by decide +kernel))) a_nil (by decide +kernel))) (fun _ _ => rfl)))))) (s_cons (s_ret n_bl)
  s_nil) s_nil)
  (s_cons (s_ret (n_or (n_cmp c_eq (m_var 0 (by decide +kernel)) n_str (by decide +kernel)) (n_one (n_cmp c_ne (n_ix (m_var 0 (by decide +kernel)) n_int (fun _ _ => rfl)) n_str (by decide +kernel)))))
  s_nil))
theorem h_is_number_word {U : Ud} (F : Fct hd U) : FnHas U.P U.w U.K U.mg U.base 1 "is_number_word" sp_is_number_word := F.fn (N := ["word", "sign"]) (ps := ["word"]) 4 11 rfl rfl ⟨rfl, rfl⟩ rfl ⟨rfl, rfl, rfl, by decide +kernel, rfl, by decide +kernel, by decide +kernel⟩ (fun _ _ _ _ _ _ us hl => match us, hl with | [_], _ => rfl) (k_is_number_word F)
/-! is_integer_word -/
def w_is_integer_word_1 : WS :=
  (wSeq (wRet (wCall sp_is_number_word (wCons (wVar 0) wNil)))
  wNext)
def w_is_integer_word : WS :=
  (wSeq (wIfS (wBl (wOp dEq (wSl (wVar 0) wNoP (wSoP (wCst (.int 1)))) (wCst (.str "-")))) (wSeq (wRet (wAndV (wCall sp_is_number_word (wCons (wSl (wVar 0) (wSoP (wCst (.int 1))) wNoP) wNil)) (wOp dNe (wVar 0) (wCst (.str "-0")))))
  wNext) wNext)
  w_is_integer_word_1)
def sp_is_integer_word : SpD := spW ["word"] 1 w_is_integer_word
theorem k_is_integer_word {U : Ud} (F : Fct hd U) : JSs U 1 ⟨["word"], d_is_integer_word.scope, fun _ => true, false, none, true⟩ d_is_integer_word.body w_is_integer_word :=
  (s_cons (s_if (t_cmp c_eq (n_sl (m_var 0 (by decide +kernel)) o_none (o_some n_int)) n_str (by decide +kernel)) (s_cons (s_ret (n_and (m_call (h_is_number_word F) (by decide) (by decide +kernel) (m_acons (n_sl (m_var 0 (by decide +kernel)) (o_some n_int) o_none) a_nil (by decide +kernel))) (n_one (n_cmp c_ne (m_var 0 (by decide +kernel)) n_str (by decide +kernel)))))
  s_nil) s_nil)
  (s_cons (s_ret (m_call (h_is_number_word F) (by decide) (by decide +kernel) (m_acons (m_var 0 (by decide +kernel)) a_nil (by decide +kernel))))
  s_nil))
theorem h_is_integer_word {U : Ud} (F : Fct hd U) : FnHas U.P U.w U.K U.mg U.base 2 "is_integer_word" sp_is_integer_word := F.fn (N := ["word"]) (ps := ["word"]) 5 12 rfl rfl ⟨rfl, rfl⟩ rfl ⟨rfl, rfl, rfl, by decide +kernel, rfl, by decide +kernel, by decide +kernel⟩ (fun _ _ _ _ _ _ us hl => match us, hl with | [_], _ => rfl) (k_is_integer_word F)
/-! member_of -/
def w_member_of_1 : WS :=
  (wSeq (wRet (wIte (wTru (wCall sp_is_integer_word (wCons (wVar 1) wNil))) (wCl cInt (wCons (wVar 1) wNil)) (wCst .non)))
  wNext)
def w_member_of : WS :=
  (wSeq (wIfS (wBl (wOp dEq (wVar 0) (wCst (.str "name")))) (wSeq (wRet (wIte (wTru (wCall sp_is_name_word (wCons (wVar 1) wNil))) (wVar 1) (wCst .non)))
  wNext) wNext)
  w_member_of_1)
def sp_member_of : SpD := spW ["kind", "word"] 2 w_member_of
theorem k_member_of {U : Ud} (F : Fct hd U) : JSs U 2 ⟨["kind", "word"], d_member_of.scope, fun _ => true, false, none, true⟩ d_member_of.body w_member_of :=
  (s_cons (s_if (t_cmp c_eq (m_var 0 (by decide +kernel)) (m_gc (F.str 14 rfl) (by decide +kernel)) (by decide +kernel)) (s_cons (s_ret (n_ite (t_val (m_call (h_is_name_word F) (by decide) (by decide +kernel) (m_acons (m_var 1 (by decide +kernel)) a_nil (by decide +kernel))) (fun _ _ => rfl)) (m_var 1 (by decide +kernel)) n_non))
  s_nil) s_nil)
  (s_cons (s_ret (n_ite (t_val (m_call (h_is_integer_word F) (by decide) (by decide +kernel) (m_acons (m_var 1 (by decide +kernel)) a_nil (by decide +kernel))) (fun _ _ => rfl)) (m_bty f_int (F.free 13 rfl) (by decide +kernel) (m_acons (m_var 1 (by decide +kernel)) a_nil (by decide +kernel))) n_non))
  s_nil))
theorem h_member_of {U : Ud} (F : Fct hd U) : FnHas U.P U.w U.K U.mg U.base 3 "member_of" sp_member_of := F.fn (N := ["kind", "word"]) (ps := ["kind", "word"]) 6 15 rfl rfl ⟨rfl, rfl⟩ rfl ⟨rfl, rfl, rfl, by decide +kernel, rfl, by decide +kernel, by decide +kernel⟩ (fun _ _ _ _ _ _ us hl => match us, hl with | [_, _], _ => rfl) (k_member_of F)
/-! members_of -/
def w_members_of_4 : WS :=
  (wSeq (wRet (wIte (wTru (wCl cAny (wCons (wLc (wWk (wVar 3)) [6] (gNm 6) wYes (wOp dIs (wVar 6) (wCst .non))) wNil))) (wCst .non) (wOp dAdd (wTup (wCons (wOp dIx (wVar 2) (wCst (.int 0))) wNil)) (wCl cTuple (wCons (wVar 3) wNil)))))
  wNext)
def w_members_of_3 : WS :=
  (wSeq (wAsg (wLc (wZip (wCons (wOp dIx (wVar 0) (wOp dIx (wVar 2) (wCst (.int 0)))) (wCons (wSl (wVar 2) (wSoP (wCst (.int 1))) wNoP) wNil))) [4, 5] (gTp [(gNm 4), (gNm 5)]) wYes (wCall sp_member_of (wCons (wVar 4) (wCons (wVar 5) wNil)))) (gNm 3))
  w_members_of_4)
def w_members_of_2 : WS :=
  (wSeq (wIfS (wOrB (wBl (wOp dNotIn (wOp dIx (wVar 2) (wCst (.int 0))) (wVar 0))) (wBl (wOp dNe (wOp dSub (wCl cLen (wCons (wVar 2) wNil)) (wCst (.int 1))) (wCl cLen (wCons (wOp dIx (wVar 0) (wOp dIx (wVar 2) (wCst (.int 0)))) wNil))))) (wSeq (wRet (wCst .non))
  wNext) wNext)
  w_members_of_3)
def w_members_of_1 : WS :=
  (wSeq (wAsg (wBm "str" mSplit (wVar 1) (wCons (wCst (.str " ")) wNil)) (gNm 2))
  w_members_of_2)
def w_members_of : WS :=
  (wSeq (wIfS (wNotB (wTru (wCl cIsi (wCons (wVar 1) (wCons (wCst (.ty "str")) wNil))))) (wSeq (wRet (wCst .non))
  wNext) wNext)
  w_members_of_1)
def sp_members_of : SpD := spW ["forms", "text", "words", "found", "kind", "word", "member"] 2 w_members_of
theorem k_members_of {U : Ud} (F : Fct hd U) : JSs U 3 ⟨["forms", "text", "words", "found", "kind", "word", "member"], d_members_of.scope, fun _ => true, false, none, true⟩ d_members_of.body w_members_of :=
  (s_cons (s_if (t_not (t_val (m_blt f_isi (F.free 19 rfl) (by decide +kernel) (m_acons (m_var 1 (by decide +kernel)) (m_acons (m_ty "str" (F.free 0 rfl) (by decide +kernel)) a_nil (by decide +kernel)) (by decide +kernel))) (fun _ _ => rfl))) (s_cons (s_ret n_non)
  s_nil) s_nil)
  (s_cons (m_set 2 (by decide +kernel) (m_bm f_split (fun _ _ _ => md_split) (by decide +kernel) (m_var 1 (by decide +kernel)) (m_acons n_str a_nil (by decide +kernel))))
  (s_cons (s_if (t_w (w_or (t_cmp c_nin (n_ix (m_var 2 (by decide +kernel)) n_int (fun _ _ => rfl)) (m_var 0 (by decide +kernel)) (by decide +kernel)) (w_or1 (t_cmp c_ne (n_bin b_sub (m_blt f_len (F.free 6 rfl) (by decide +kernel) (m_acons (m_var 2 (by decide +kernel)) a_nil (by decide +kernel))) n_int) (m_blt f_len (F.free 6 rfl) (by decide +kernel) (m_acons (n_ix (m_var 0 (by decide +kernel)) (n_ix (m_var 2 (by decide +kernel)) n_int (fun _ _ => rfl)) (fun _ _ => rfl)) a_nil (by decide +kernel))) (by decide +kernel))))) (s_cons (s_ret n_non)
  s_nil) s_nil)
  (s_cons (m_slc [("kind", 4), ("word", 5)] 3 (by decide +kernel) (m_zip (F.free 18 rfl) (by decide +kernel) (m_acons (n_ix (m_var 0 (by decide +kernel)) (n_ix (m_var 2 (by decide +kernel)) n_int (fun _ _ => rfl)) (fun _ _ => rfl)) (m_acons (n_sl (m_var 2 (by decide +kernel)) (o_some n_int) o_none) a_nil (by decide +kernel)) (by decide +kernel))) (g_tp rfl (gs_cons (fun _ _ _ h1 h2 => h2.trans h1) (m_gnm 4 (by decide +kernel) (fun σ v => ownR_set (by decide) σ _)) (gs_cons (fun _ _ _ h1 h2 => h2.trans h1) (m_gnm 5 (by decide +kernel) (fun σ v => ownR_set (by decide) σ _)) (gs_nil (fun _ => rfl)) (fun _ => rfl)) (fun _ => rfl)) (fun _ => rfl) (fun _ => rfl)) ts_nil (m_call (h_member_of F) (by decide) (by decide +kernel) (m_acons (m_var 4 (by decide +kernel)) (m_acons (m_var 5 (by decide +kernel)) a_nil (by decide +kernel)) (by decide +kernel))))
  (s_cons (s_ret (n_ite (t_val (m_blt (f_any rfl) (F.free 16 rfl) (by decide +kernel) (m_acons (m_lc [("member", 6)] (by decide +kernel) (m_wk (m_var 3 (by decide +kernel))) (m_gnm 6 (by decide +kernel) (fun σ v => ownR_set (by decide) σ _)) ts_nil (n_cmp c_is (m_var 6 (by decide +kernel)) n_non (by decide +kernel))) a_nil (by decide +kernel))) (fun _ _ => rfl)) n_non (n_bin b_add (n_tup (m_acons (n_ix (m_var 2 (by decide +kernel)) n_int (fun _ _ => rfl)) a_nil (by decide +kernel))) (m_bty f_tuple (F.free 17 rfl) (by decide +kernel) (m_acons (m_var 3 (by decide +kernel)) a_nil (by decide +kernel))))))
  s_nil)))))
theorem h_members_of {U : Ud} (F : Fct hd U) : FnHas U.P U.w U.K U.mg U.base 4 "members_of" sp_members_of := F.fn (N := ["forms", "text", "words", "found", "kind", "word", "member"]) (ps := ["forms", "text"]) 7 20 rfl rfl ⟨rfl, rfl⟩ rfl ⟨rfl, rfl, rfl, by decide +kernel, rfl, by decide +kernel, by decide +kernel⟩ (fun _ _ _ _ _ _ us hl => match us, hl with | [_, _], _ => rfl) (k_members_of F)
/-! read_step -/
def w_read_step_2 : WS :=
  (wSeq (wRet (wVar 1))
  wNext)
def w_read_step_1 : WS :=
  (wSeq (wIfS (wBl (wOp dIs (wVar 1) (wCst .non))) (wSeq (wRaise "BadValue" "at" (wCst (.int 0)))
  wNext) wNext)
  w_read_step_2)
def w_read_step : WS :=
  (wSeq (wAsg (wCall sp_members_of (wCons (wDctC tb_STEPS) (wCons (wVar 0) wNil))) (gNm 1))
  w_read_step_1)
def sp_read_step : SpD := spW ["text", "found"] 1 w_read_step
theorem k_read_step {U : Ud} (F : Fct hd U) : JSs U 4 ⟨["text", "found"], d_read_step.scope, fun _ => true, false, none, true⟩ d_read_step.body w_read_step :=
  (s_cons (m_set 1 (by decide +kernel) (m_call (h_members_of F) (by decide) (by decide +kernel) (m_acons (m_dctC F 0 24 rfl rfl (F.free 25 rfl) (by decide +kernel)) (m_acons (m_var 0 (by decide +kernel)) a_nil (by decide +kernel)) (by decide +kernel))))
  (s_cons (s_if (t_cmp c_is (m_var 1 (by decide +kernel)) n_non (by decide +kernel)) (s_cons (by obtain ⟨I, e1, T⟩ := F.exi (c := "BadValue") (f := "at") 0 rfl (F.free 22 rfl); exact s_raise T e1 (by decide) rfl (by decide +kernel) (F.glo 23 rfl) (by decide +kernel) n_int (by decide +kernel))
  s_nil) s_nil)
  (s_cons (s_ret (m_var 1 (by decide +kernel)))
  s_nil)))
theorem h_read_step {U : Ud} (F : Fct hd U) : FnHas U.P U.w U.K U.mg U.base 5 "read_step" sp_read_step := F.fn (N := ["text", "found"]) (ps := ["text"]) 8 26 rfl rfl ⟨rfl, rfl⟩ rfl ⟨rfl, rfl, rfl, by decide +kernel, rfl, by decide +kernel, by decide +kernel⟩ (fun _ _ _ _ _ _ us hl => match us, hl with | [_], _ => rfl) (k_read_step F)
/-! read_claim -/
def w_read_claim_2 : WS :=
  (wSeq (wRet (wVar 1))
  wNext)
def w_read_claim_1 : WS :=
  (wSeq (wIfS (wBl (wOp dIs (wVar 1) (wCst .non))) (wSeq (wRaise "BadValue" "at" (wCst (.int 0)))
  wNext) wNext)
  w_read_claim_2)
def w_read_claim : WS :=
  (wSeq (wAsg (wCall sp_members_of (wCons (wDctC tb_CLAIMS) (wCons (wVar 0) wNil))) (gNm 1))
  w_read_claim_1)
def sp_read_claim : SpD := spW ["text", "found"] 1 w_read_claim
theorem k_read_claim {U : Ud} (F : Fct hd U) : JSs U 4 ⟨["text", "found"], d_read_claim.scope, fun _ => true, false, none, true⟩ d_read_claim.body w_read_claim :=
  (s_cons (m_set 1 (by decide +kernel) (m_call (h_members_of F) (by decide) (by decide +kernel) (m_acons (m_dctC F 1 27 rfl rfl (F.free 25 rfl) (by decide +kernel)) (m_acons (m_var 0 (by decide +kernel)) a_nil (by decide +kernel)) (by decide +kernel))))
  (s_cons (s_if (t_cmp c_is (m_var 1 (by decide +kernel)) n_non (by decide +kernel)) (s_cons (by obtain ⟨I, e1, T⟩ := F.exi (c := "BadValue") (f := "at") 0 rfl (F.free 22 rfl); exact s_raise T e1 (by decide) rfl (by decide +kernel) (F.glo 23 rfl) (by decide +kernel) n_int (by decide +kernel))
  s_nil) s_nil)
  (s_cons (s_ret (m_var 1 (by decide +kernel)))
  s_nil)))
theorem h_read_claim {U : Ud} (F : Fct hd U) : FnHas U.P U.w U.K U.mg U.base 5 "read_claim" sp_read_claim := F.fn (N := ["text", "found"]) (ps := ["text"]) 9 28 rfl rfl ⟨rfl, rfl⟩ rfl ⟨rfl, rfl, rfl, by decide +kernel, rfl, by decide +kernel, by decide +kernel⟩ (fun _ _ _ _ _ _ us hl => match us, hl with | [_], _ => rfl) (k_read_claim F)
/-! _law_bag -/
def w_bag_l_3 : WS :=
  (wSeq (wRet (wLst (wCons (wCst (.int 0)) (wCons (wCst (.int 0)) (wCons (wVar 2) (wCons (wLc (wWk (wVar 1)) [3] (gNm 3) wYes (wOp dMod (wCl cInt (wCons (wVar 3) wNil)) (wCst (.int 2147483647)))) (wCons (wCst (.int 0)) wNil)))))))
  wNext)
def w_bag_l_2 : WS :=
  (wSeq (wIfS (wBl (wOp dEq (wOp dMod (wCl cInt (wCons (wOp dIx (wVar 1) (wCst (.int 0))) wNil)) (wCst (.int 2))) (wCst (.int 0)))) (wSeq (wAsg (wLc (wWk (wVar 1)) [3] (gNm 3) (wBl (wOp dGe (wCl cAbs (wCons (wVar 3) wNil)) (wOp dPow (wCst (.int 10)) (wCst (.int 18))))) (wOp dDiv (wCl cAbs (wCons (wVar 3) wNil)) (wCst (.int 2)))) (gNm 2))
  (wSeq (wDrop (wBm "list" mRev (wVar 2) wNil))
  wNext)) wNext)
  w_bag_l_3)
def w_bag_l_1 : WS :=
  (wSeq (wAsg (wLst wNil) (gNm 2))
  w_bag_l_2)
def w_bag_l : WS :=
  (wSeq (wAsg (wOp dAdd (wLc (wWk (wVar 0)) [3] (gNm 3) wYes (wCl cInt (wCons (wVar 3) wNil))) (wLst (wCons (wCst (.int 7)) wNil))) (gNm 1))
  w_bag_l_1)
def sp_bag_l : SpD := spW ["_law_script", "_law_cells", "_law_great", "_law_cell"] 1 w_bag_l
theorem k_bag_l {U : Ud} (F : Fct hd U) : JSs U 0 ⟨["_law_script", "_law_cells", "_law_great", "_law_cell"], d_bag_l.scope, fun _ => true, false, none, true⟩ d_bag_l.body w_bag_l :=
  (s_cons (m_set 1 (by decide +kernel) (n_bin b_add (m_lc [("_law_cell", 3)] (by decide +kernel) (m_wk (m_var 0 (by decide +kernel))) (m_gnm 3 (by decide +kernel) (fun σ v => ownR_set (by decide) σ _)) ts_nil (m_bty f_int (F.free 13 rfl) (by decide +kernel) (m_acons (m_var 3 (by decide +kernel)) a_nil (by decide +kernel)))) (n_lst (m_acons n_int a_nil (by decide +kernel)))))
  (s_cons (m_set 2 (by decide +kernel) (n_lst a_nil))
  (s_cons (s_if (t_cmp c_eq (n_bin b_mod (m_bty f_int (F.free 13 rfl) (by decide +kernel) (m_acons (n_ix (m_var 1 (by decide +kernel)) n_int (fun _ _ => rfl)) a_nil (by decide +kernel))) n_int) n_int (by decide +kernel)) (s_cons (m_slc [("_law_cell", 3)] 2 (by decide +kernel) (m_wk (m_var 1 (by decide +kernel))) (m_gnm 3 (by decide +kernel) (fun σ v => ownR_set (by decide) σ _)) (ts_one (t_cmp c_ge (m_blt f_abs (F.free 29 rfl) (by decide +kernel) (m_acons (m_var 3 (by decide +kernel)) a_nil (by decide +kernel))) (n_bin b_pow n_int n_int) (by decide +kernel))) (n_bin b_div (m_blt f_abs (F.free 29 rfl) (by decide +kernel) (m_acons (m_var 3 (by decide +kernel)) a_nil (by decide +kernel))) n_int))
  (s_cons (s_expr (m_bm0 f_rev (fun _ _ _ => md_rev) (by decide +kernel) (m_var 2 (by decide +kernel))) rfl)
  s_nil)) s_nil)
  (s_cons (s_ret (n_lst (m_acons n_int (m_acons n_int (m_acons (m_var 2 (by decide +kernel)) (m_acons (m_lc [("_law_cell", 3)] (by decide +kernel) (m_wk (m_var 1 (by decide +kernel))) (m_gnm 3 (by decide +kernel) (fun σ v => ownR_set (by decide) σ _)) ts_nil (n_bin b_mod (m_bty f_int (F.free 13 rfl) (by decide +kernel) (m_acons (m_var 3 (by decide +kernel)) a_nil (by decide +kernel))) n_int)) (m_acons n_int a_nil (by decide +kernel)) (by decide +kernel)) (by decide +kernel)) (by decide +kernel)) (by decide +kernel))))
  s_nil))))
theorem h_bag_l {U : Ud} (F : Fct hd U) : FnHas U.P U.w U.K U.mg U.base 1 "_law_bag" sp_bag_l := F.fn (N := ["_law_script", "_law_cells", "_law_great", "_law_cell"]) (ps := ["_law_script"]) 10 30 rfl rfl ⟨rfl, rfl⟩ rfl ⟨rfl, rfl, rfl, by decide +kernel, rfl, by decide +kernel, by decide +kernel⟩ (fun _ _ _ _ _ _ us hl => match us, hl with | [_], _ => rfl) (k_bag_l F)
/-! _law_draw -/
def w_draw_l_5 : WS :=
  (wSeq (wRet (wOp dMod (wOp dDiv (wOp dMod (wCl cInt (wCons (wOp dAdd (wOp dAdd (wOp dMul (wVar 3) (wVar 3)) (wOp dMul (wVar 3) (wCst (.int 16807)))) (wOp dMul (wOp dIx (wVar 0) (wCst (.int 0))) (wCst (.int 40014)))) wNil)) (wCst (.int 2147483629))) (wCst (.int 32))) (wVar 1)))
  wNext)
def w_draw_l_4 : WS :=
  (wSeq (wAsg (wOp dMod (wCl cInt (wCons (wOp dAdd (wOp dAdd (wOp dMul (wVar 2) (wCst (.int 48271))) (wOp dMul (wOp dIx (wVar 0) (wCst (.int 0))) (wCst (.int 69621)))) (wCst (.int 1))) wNil)) (wCst (.int 2147483647))) (gNm 3))
  w_draw_l_5)
def w_draw_l_3 : WS :=
  (wSeq (wAsg (wOp dIx (wOp dIx (wVar 0) (wCst (.int 3))) (wOp dMod (wCl cInt (wCons (wOp dIx (wVar 0) (wCst (.int 0))) wNil)) (wCl cLen (wCons (wOp dIx (wVar 0) (wCst (.int 3))) wNil)))) (gNm 2))
  w_draw_l_4)
def w_draw_l_2 : WS :=
  (wSeq (wIfS (wBl (wOp dGt (wOp dIx (wVar 0) (wCst (.int 1))) (wCst (.int 0)))) (wSeq (wAsg (wOp dMod (wCl cInt (wCons (wOp dIx (wVar 0) (wCst (.int 1))) wNil)) (wVar 1)) (gNm 4))
  (wSeq (wAsg (wOp dSub (wOp dIx (wVar 0) (wCst (.int 4))) (wCst (.int 1))) (gSubD (wVar 0) (wCst (.int 4))))
  (wSeq (wAsg (wOp dMulS (wOp dDiv (wOp dIx (wVar 0) (wCst (.int 1))) (wVar 1)) (wCl cInt (wCons (wOp dGt (wOp dIx (wVar 0) (wCst (.int 4))) (wCst (.int 0))) wNil))) (gSubD (wVar 0) (wCst (.int 1))))
  (wSeq (wRet (wVar 4))
  wNext)))) wNext)
  w_draw_l_3)
def w_draw_l_1 : WS :=
  (wSeq (wIfS (wAndB (wBl (wOp dEq (wOp dIx (wVar 0) (wCst (.int 1))) (wCst (.int 0)))) (wBl (wOp dGt (wCl cLen (wCons (wOp dIx (wVar 0) (wCst (.int 2))) wNil)) (wCst (.int 0))))) (wSeq (wAsg (wBm "list" mPop (wOp dIx (wVar 0) (wCst (.int 2))) wNil) (gSubD (wVar 0) (wCst (.int 1))))
  (wSeq (wAsg (wCst (.int 60)) (gSubD (wVar 0) (wCst (.int 4))))
  wNext)) wNext)
  w_draw_l_2)
def w_draw_l : WS :=
  (wSeq (wAsg (wOp dAdd (wOp dIx (wVar 0) (wCst (.int 0))) (wCst (.int 1))) (gSubD (wVar 0) (wCst (.int 0))))
  w_draw_l_1)
def sp_draw_l : SpD := spW ["_law_bag_here", "_law_many", "_law_cell", "_law_mixed", "_law_drawn"] 2 w_draw_l
theorem k_draw_l {U : Ud} (F : Fct hd U) : JSs U 0 ⟨["_law_bag_here", "_law_many", "_law_cell", "_law_mixed", "_law_drawn"], d_draw_l.scope, fun _ => true, false, none, true⟩ d_draw_l.body w_draw_l :=
  (s_cons (s_asg (n_bin b_add (n_ix (m_var 0 (by decide +kernel)) n_int (fun _ _ => rfl)) n_int) (g_sub (m_var 0 (by decide +kernel)) n_int (fun _ _ => rfl)) (fun _ => rfl) (fun _ => rfl) (fun _ => rfl))
  (s_cons (s_if (t_w (w_and (t_cmp c_eq (n_ix (m_var 0 (by decide +kernel)) n_int (fun _ _ => rfl)) n_int (by decide +kernel)) (w_and1 (t_cmp c_gt (m_blt f_len (F.free 6 rfl) (by decide +kernel) (m_acons (n_ix (m_var 0 (by decide +kernel)) n_int (fun _ _ => rfl)) a_nil (by decide +kernel))) n_int (by decide +kernel))))) (s_cons (s_asg (m_bm0 f_pop (fun _ _ _ => md_pop) (by decide +kernel) (n_ix (m_var 0 (by decide +kernel)) n_int (fun _ _ => rfl))) (g_sub (m_var 0 (by decide +kernel)) n_int (fun _ _ => rfl)) (fun _ => rfl) (fun _ => rfl) (fun _ => rfl))
  (s_cons (s_asg n_int (g_sub (m_var 0 (by decide +kernel)) n_int (fun _ _ => rfl)) (fun _ => rfl) (fun _ => rfl) (fun _ => rfl))
  s_nil)) s_nil)
  (s_cons (s_if (t_cmp c_gt (n_ix (m_var 0 (by decide +kernel)) n_int (fun _ _ => rfl)) n_int (by decide +kernel)) (s_cons (m_set 4 (by decide +kernel) (n_bin b_mod (m_bty f_int (F.free 13 rfl) (by decide +kernel) (m_acons (n_ix (m_var 0 (by decide +kernel)) n_int (fun _ _ => rfl)) a_nil (by decide +kernel))) (m_var 1 (by decide +kernel))))
  (s_cons (s_asg (n_bin b_sub (n_ix (m_var 0 (by decide +kernel)) n_int (fun _ _ => rfl)) n_int) (g_sub (m_var 0 (by decide +kernel)) n_int (fun _ _ => rfl)) (fun _ => rfl) (fun _ => rfl) (fun _ => rfl))
  (s_cons (s_asg (n_bin b_mulS (n_bin b_div (n_ix (m_var 0 (by decide +kernel)) n_int (fun _ _ => rfl)) (m_var 1 (by decide +kernel))) (m_bty f_int (F.free 13 rfl) (by decide +kernel) (m_acons (n_cmp c_gt (n_ix (m_var 0 (by decide +kernel)) n_int (fun _ _ => rfl)) n_int (by decide +kernel)) a_nil (by decide +kernel)))) (g_sub (m_var 0 (by decide +kernel)) n_int (fun _ _ => rfl)) (fun _ => rfl) (fun _ => rfl) (fun _ => rfl))
  (s_cons (s_ret (m_var 4 (by decide +kernel)))
  s_nil)))) s_nil)
  (s_cons (m_set 2 (by decide +kernel) (n_ix (n_ix (m_var 0 (by decide +kernel)) n_int (fun _ _ => rfl)) (n_bin b_mod (m_bty f_int (F.free 13 rfl) (by decide +kernel) (m_acons (n_ix (m_var 0 (by decide +kernel)) n_int (fun _ _ => rfl)) a_nil (by decide +kernel))) (m_blt f_len (F.free 6 rfl) (by decide +kernel) (m_acons (n_ix (m_var 0 (by decide +kernel)) n_int (fun _ _ => rfl)) a_nil (by decide +kernel)))) (fun _ _ => rfl)))
  (s_cons (m_set 3 (by decide +kernel) (n_bin b_mod (m_bty f_int (F.free 13 rfl) (by decide +kernel) (m_acons (n_bin b_add (n_bin b_add (n_bin b_mul (m_var 2 (by decide +kernel)) n_int) (n_bin b_mul (n_ix (m_var 0 (by decide +kernel)) n_int (fun _ _ => rfl)) n_int)) n_int) a_nil (by decide +kernel))) n_int))
  (s_cons (s_ret (n_bin b_mod (n_bin b_div (n_bin b_mod (m_bty f_int (F.free 13 rfl) (by decide +kernel) (m_acons (n_bin b_add (n_bin b_add (n_bin b_mul (m_var 3 (by decide +kernel)) (m_var 3 (by decide +kernel))) (n_bin b_mul (m_var 3 (by decide +kernel)) n_int)) (n_bin b_mul (n_ix (m_var 0 (by decide +kernel)) n_int (fun _ _ => rfl)) n_int)) a_nil (by decide +kernel))) n_int) n_int) (m_var 1 (by decide +kernel))))
  s_nil))))))
theorem h_draw_l {U : Ud} (F : Fct hd U) : FnHas U.P U.w U.K U.mg U.base 1 "_law_draw" sp_draw_l := F.fn (N := ["_law_bag_here", "_law_many", "_law_cell", "_law_mixed", "_law_drawn"]) (ps := ["_law_bag_here", "_law_many"]) 11 31 rfl rfl ⟨rfl, rfl⟩ rfl ⟨rfl, rfl, rfl, by decide +kernel, rfl, by decide +kernel, by decide +kernel⟩ (fun _ _ _ _ _ _ us hl => match us, hl with | [_, _], _ => rfl) (k_draw_l F)
/-! _law_meets -/
def w_meets_l_6 (sp : SpD) : WS :=
  (wSeq (wRet (wCst (.bl true)))
  wNext)
def w_meets_l_5 (sp : SpD) : WS :=
  (wSeq (wFor (wRng1 (wCons (wCl cLen (wCons (wVar 1) wNil)) wNil)) (gNm 2) (wSeq (wIfS (wNotB (wTru (wCall sp (wCons (wOp dIx (wVar 0) (wVar 2)) (wCons (wOp dIx (wVar 1) (wVar 2)) wNil))))) (wSeq (wRet (wCst (.bl false)))
  wNext) wNext)
  wNext))
  (w_meets_l_6 sp))
def w_meets_l_4 (sp : SpD) : WS :=
  (wSeq (wIfS (wOrB (wNotB (wTru (wCl cIsi (wCons (wVar 0) (wCons (wCst (.ty "tuple")) wNil))))) (wBl (wOp dNe (wCl cLen (wCons (wVar 0) wNil)) (wCl cLen (wCons (wVar 1) wNil))))) (wSeq (wRet (wCst (.bl false)))
  wNext) wNext)
  (w_meets_l_5 sp))
def w_meets_l_3 (sp : SpD) : WS :=
  (wSeq (wIfS (wTru (wCl cIsi (wCons (wVar 1) (wCons (wCst (.ty "str")) wNil)))) (wSeq (wRet (wAndV (wCl cIsi (wCons (wVar 0) (wCons (wCst (.ty "str")) wNil))) (wOp dEq (wVar 0) (wVar 1))))
  wNext) wNext)
  (w_meets_l_4 sp))
def w_meets_l_2 (sp : SpD) : WS :=
  (wSeq (wIfS (wTru (wCl cIsi (wCons (wVar 1) (wCons (wCst (.ty "int")) wNil)))) (wSeq (wRet (wAndV (wCl cIsi (wCons (wVar 0) (wCons (wCst (.ty "int")) wNil))) (wAndV (wNotV (wCl cIsi (wCons (wVar 0) (wCons (wCst (.ty "bool")) wNil)))) (wOp dEq (wVar 0) (wVar 1)))))
  wNext) wNext)
  (w_meets_l_3 sp))
def w_meets_l_1 (sp : SpD) : WS :=
  (wSeq (wIfS (wTru (wCl cIsi (wCons (wVar 1) (wCons (wCst (.ty "bool")) wNil)))) (wSeq (wRet (wAndV (wCl cIsi (wCons (wVar 0) (wCons (wCst (.ty "bool")) wNil))) (wOp dEq (wVar 0) (wVar 1))))
  wNext) wNext)
  (w_meets_l_2 sp))
def w_meets_l (sp : SpD) : WS :=
  (wSeq (wIfS (wBl (wOp dIs (wVar 1) (wCst .non))) (wSeq (wRet (wOp dIs (wVar 0) (wCst .non)))
  wNext) wNext)
  (w_meets_l_1 sp))
def sp_meets_l : Nat → SpD
  | 0 => fun _ _ _ _ => False
  | d + 1 => spW ["_law_told_here", "_law_due", "_law_k"] 2 (w_meets_l (sp_meets_l d))
theorem k_meets_l {U : Ud} (F : Fct hd U) (d : Nat) (hr : FnHas U.P U.w U.K U.mg U.base (0 + d) "_law_meets" (sp_meets_l d)) : JSs U (0 + d) ⟨["_law_told_here", "_law_due", "_law_k"], d_meets_l.scope, fun _ => true, false, none, true⟩ d_meets_l.body (w_meets_l (sp_meets_l d)) := by
  generalize sp_meets_l d = sp at *
  exact (s_cons (s_if (t_cmp c_is (m_var 1 (by decide +kernel)) n_non (by decide +kernel)) (s_cons (s_ret (n_cmp c_is (m_var 0 (by decide +kernel)) n_non (by decide +kernel)))
  s_nil) s_nil)
  (s_cons (s_if (t_val (m_blt f_isi (F.free 19 rfl) (by decide +kernel) (m_acons (m_var 1 (by decide +kernel)) (m_acons (m_ty "bool" (F.free 33 rfl) (by decide +kernel)) a_nil (by decide +kernel)) (by decide +kernel))) (fun _ _ => rfl)) (s_cons (s_ret (n_and (m_blt f_isi (F.free 19 rfl) (by decide +kernel) (m_acons (m_var 0 (by decide +kernel)) (m_acons (m_ty "bool" (F.free 33 rfl) (by decide +kernel)) a_nil (by decide +kernel)) (by decide +kernel))) (n_one (n_cmp c_eq (m_var 0 (by decide +kernel)) (m_var 1 (by decide +kernel)) (by decide +kernel)))))
  s_nil) s_nil)
  (s_cons (s_if (t_val (m_blt f_isi (F.free 19 rfl) (by decide +kernel) (m_acons (m_var 1 (by decide +kernel)) (m_acons (m_ty "int" (F.free 13 rfl) (by decide +kernel)) a_nil (by decide +kernel)) (by decide +kernel))) (fun _ _ => rfl)) (s_cons (s_ret (n_and (m_blt f_isi (F.free 19 rfl) (by decide +kernel) (m_acons (m_var 0 (by decide +kernel)) (m_acons (m_ty "int" (F.free 13 rfl) (by decide +kernel)) a_nil (by decide +kernel)) (by decide +kernel))) (n_and (n_not (m_blt f_isi (F.free 19 rfl) (by decide +kernel) (m_acons (m_var 0 (by decide +kernel)) (m_acons (m_ty "bool" (F.free 33 rfl) (by decide +kernel)) a_nil (by decide +kernel)) (by decide +kernel)))) (n_one (n_cmp c_eq (m_var 0 (by decide +kernel)) (m_var 1 (by decide +kernel)) (by decide +kernel))))))
  s_nil) s_nil)
  (s_cons (s_if (t_val (m_blt f_isi (F.free 19 rfl) (by decide +kernel) (m_acons (m_var 1 (by decide +kernel)) (m_acons (m_ty "str" (F.free 0 rfl) (by decide +kernel)) a_nil (by decide +kernel)) (by decide +kernel))) (fun _ _ => rfl)) (s_cons (s_ret (n_and (m_blt f_isi (F.free 19 rfl) (by decide +kernel) (m_acons (m_var 0 (by decide +kernel)) (m_acons (m_ty "str" (F.free 0 rfl) (by decide +kernel)) a_nil (by decide +kernel)) (by decide +kernel))) (n_one (n_cmp c_eq (m_var 0 (by decide +kernel)) (m_var 1 (by decide +kernel)) (by decide +kernel)))))
  s_nil) s_nil)
  (s_cons (s_if (t_w (w_or (t_not (t_val (m_blt f_isi (F.free 19 rfl) (by decide +kernel) (m_acons (m_var 0 (by decide +kernel)) (m_acons (m_ty "tuple" (F.free 17 rfl) (by decide +kernel)) a_nil (by decide +kernel)) (by decide +kernel))) (fun _ _ => rfl))) (w_or1 (t_cmp c_ne (m_blt f_len (F.free 6 rfl) (by decide +kernel) (m_acons (m_var 0 (by decide +kernel)) a_nil (by decide +kernel))) (m_blt f_len (F.free 6 rfl) (by decide +kernel) (m_acons (m_var 1 (by decide +kernel)) a_nil (by decide +kernel))) (by decide +kernel))))) (s_cons (s_ret n_bl)
  s_nil) s_nil)
  (s_cons (m_for (by decide +kernel) (m_rng1 (F.free 32 rfl) (by decide +kernel) (m_acons (m_blt f_len (F.free 6 rfl) (by decide +kernel) (m_acons (m_var 1 (by decide +kernel)) a_nil (by decide +kernel))) a_nil (by decide +kernel))) (m_gnm 2 (by decide +kernel) (fun _ _ => trivial)) (s_cons (s_if (t_not (t_val (m_call hr (Nat.le_refl _) (by decide +kernel) (m_acons (n_ix (m_var 0 (by decide +kernel)) (m_var 2 (by decide +kernel)) (fun _ _ => rfl)) (m_acons (n_ix (m_var 1 (by decide +kernel)) (m_var 2 (by decide +kernel)) (fun _ _ => rfl)) a_nil (by decide +kernel)) (by decide +kernel))) (fun _ _ => rfl))) (s_cons (s_ret n_bl)
  s_nil) s_nil)
  s_nil))
  (s_cons (s_ret n_bl)
  s_nil)))))))
theorem h_meets_l {U : Ud} (F : Fct hd U) : ∀ d, FnHas U.P U.w U.K U.mg U.base (0 + d) "_law_meets" (sp_meets_l d)
  | 0 => F.fn0 (ps := ["_law_told_here", "_law_due"]) 12 34 rfl rfl ⟨rfl, rfl⟩ rfl (fun _ _ _ _ _ _ us hl => match us, hl with | [_, _], _ => rfl)
  | d + 1 => F.fn (N := ["_law_told_here", "_law_due", "_law_k"]) (ps := ["_law_told_here", "_law_due"]) 12 34 rfl rfl ⟨rfl, rfl⟩ rfl ⟨rfl, rfl, rfl, by decide +kernel, rfl, by decide +kernel, by decide +kernel⟩ (fun _ _ _ _ _ _ us hl => match us, hl with | [_, _], _ => rfl) (k_meets_l F d (h_meets_l F d))
/-! _law_names -/
def w_names_l_4 : WS :=
  (wSeq (wRet (wLc (wRng1 (wCons (wVar 1) wNil)) [6] (gNm 6) wYes (wOp dAdd (wOp dAdd (wVar 4) (wBm "list" mPopA (wVar 3) (wCons (wCall sp_draw_l (wCons (wVar 0) (wCons (wCl cLen (wCons (wVar 3) wNil)) wNil))) wNil))) (wVar 5))))
  wNext)
def w_names_l_3 : WS :=
  (wSeq (wAsg (wBm "str" mJoin (wCst (.str "")) (wCons (wLc (wRng1 (wCons (wCall sp_draw_l (wCons (wVar 0) (wCons (wCst (.int 2)) wNil))) wNil)) [6] (gNm 6) wYes (wOp dIx (wVar 2) (wCall sp_draw_l (wCons (wVar 0) (wCons (wCst (.int 26)) wNil))))) wNil)) (gNm 5))
  w_names_l_4)
def w_names_l_2 : WS :=
  (wSeq (wAsg (wBm "str" mJoin (wCst (.str "")) (wCons (wLc (wRng1 (wCons (wCall sp_draw_l (wCons (wVar 0) (wCons (wCst (.int 3)) wNil))) wNil)) [6] (gNm 6) wYes (wOp dIx (wVar 2) (wCall sp_draw_l (wCons (wVar 0) (wCons (wCst (.int 26)) wNil))))) wNil)) (gNm 4))
  w_names_l_3)
def w_names_l_1 : WS :=
  (wSeq (wAsg (wCl cLstX (wCons (wVar 2) wNil)) (gNm 3))
  w_names_l_2)
def w_names_l : WS :=
  (wSeq (wAsg (wCst (.str "abcdefghijklmnopqrstuvwxyz")) (gNm 2))
  w_names_l_1)
def sp_names_l : SpD := spW ["_law_bag_here", "_law_many", "_law_letters", "_law_pool", "_law_ahead", "_law_behind", "_law_k"] 2 w_names_l
theorem k_names_l {U : Ud} (F : Fct hd U) : JSs U 1 ⟨["_law_bag_here", "_law_many", "_law_letters", "_law_pool", "_law_ahead", "_law_behind", "_law_k"], d_names_l.scope, fun _ => true, false, none, true⟩ d_names_l.body w_names_l :=
  (s_cons (m_set 2 (by decide +kernel) n_str)
  (s_cons (m_set 3 (by decide +kernel) (m_bty (f_lstX rfl) (F.free 35 rfl) (by decide +kernel) (m_acons (m_var 2 (by decide +kernel)) a_nil (by decide +kernel))))
  (s_cons (m_set 4 (by decide +kernel) (m_bm f_join (fun _ _ _ => md_join) (by decide +kernel) n_str (m_acons (m_lc [("_law_k", 6)] (by decide +kernel) (m_rng1 (F.free 32 rfl) (by decide +kernel) (m_acons (m_call (h_draw_l F) (by decide) (by decide +kernel) (m_acons (m_var 0 (by decide +kernel)) (m_acons n_int a_nil (by decide +kernel)) (by decide +kernel))) a_nil (by decide +kernel))) (m_gnm 6 (by decide +kernel) (fun σ v => ownR_set (by decide) σ _)) ts_nil (n_ix (m_var 2 (by decide +kernel)) (m_call (h_draw_l F) (by decide) (by decide +kernel) (m_acons (m_var 0 (by decide +kernel)) (m_acons n_int a_nil (by decide +kernel)) (by decide +kernel))) (fun _ _ => rfl))) a_nil (by decide +kernel))))
  (s_cons (m_set 5 (by decide +kernel) (m_bm f_join (fun _ _ _ => md_join) (by decide +kernel) n_str (m_acons (m_lc [("_law_k", 6)] (by decide +kernel) (m_rng1 (F.free 32 rfl) (by decide +kernel) (m_acons (m_call (h_draw_l F) (by decide) (by decide +kernel) (m_acons (m_var 0 (by decide +kernel)) (m_acons n_int a_nil (by decide +kernel)) (by decide +kernel))) a_nil (by decide +kernel))) (m_gnm 6 (by decide +kernel) (fun σ v => ownR_set (by decide) σ _)) ts_nil (n_ix (m_var 2 (by decide +kernel)) (m_call (h_draw_l F) (by decide) (by decide +kernel) (m_acons (m_var 0 (by decide +kernel)) (m_acons n_int a_nil (by decide +kernel)) (by decide +kernel))) (fun _ _ => rfl))) a_nil (by decide +kernel))))
  (s_cons (s_ret (m_lc [("_law_k", 6)] (by decide +kernel) (m_rng1 (F.free 32 rfl) (by decide +kernel) (m_acons (m_var 1 (by decide +kernel)) a_nil (by decide +kernel))) (m_gnm 6 (by decide +kernel) (fun σ v => ownR_set (by decide) σ _)) ts_nil (n_bin b_add (n_bin b_add (m_var 4 (by decide +kernel)) (m_bm f_pop (fun _ _ _ => md_popA) (by decide +kernel) (m_var 3 (by decide +kernel)) (m_acons (m_call (h_draw_l F) (by decide) (by decide +kernel) (m_acons (m_var 0 (by decide +kernel)) (m_acons (m_blt f_len (F.free 6 rfl) (by decide +kernel) (m_acons (m_var 3 (by decide +kernel)) a_nil (by decide +kernel))) a_nil (by decide +kernel)) (by decide +kernel))) a_nil (by decide +kernel)))) (m_var 5 (by decide +kernel)))))
  s_nil)))))
theorem h_names_l {U : Ud} (F : Fct hd U) : FnHas U.P U.w U.K U.mg U.base 2 "_law_names" sp_names_l := F.fn (N := ["_law_bag_here", "_law_many", "_law_letters", "_law_pool", "_law_ahead", "_law_behind", "_law_k"]) (ps := ["_law_bag_here", "_law_many"]) 13 36 rfl rfl ⟨rfl, rfl⟩ rfl ⟨rfl, rfl, rfl, by decide +kernel, rfl, by decide +kernel, by decide +kernel⟩ (fun _ _ _ _ _ _ us hl => match us, hl with | [_, _], _ => rfl) (k_names_l F)
/-! _law_step_shapes -/
def w_step_shapes_l : WS :=
  (wSeq (wRet (wDisp [((wCst (.str "free")), (wTup (wCons (wCst (.int 1)) (wCons (wCst (.int 0)) wNil)))), ((wCst (.str "slide")), (wTup (wCons (wCst (.int 3)) (wCons (wCst (.int 0)) wNil)))), ((wCst (.str "part")), (wTup (wCons (wCst (.int 3)) (wCons (wCst (.int 2)) wNil)))), ((wCst (.str "shift")), (wTup (wCons (wCst (.int 4)) (wCons (wCst (.int 0)) wNil)))), ((wCst (.str "turn")), (wTup (wCons (wCst (.int 4)) (wCons (wCst (.int 0)) wNil)))), ((wCst (.str "over")), (wTup (wCons (wCst (.int 3)) (wCons (wCst (.int 0)) wNil)))), ((wCst (.str "mirror")), (wTup (wCons (wCst (.int 4)) (wCons (wCst (.int 0)) wNil)))), ((wCst (.str "foot")), (wTup (wCons (wCst (.int 4)) (wCons (wCst (.int 0)) wNil)))), ((wCst (.str "meet")), (wTup (wCons (wCst (.int 5)) (wCons (wCst (.int 0)) wNil)))), ((wCst (.str "second")), (wTup (wCons (wCst (.int 4)) (wCons (wCst (.int 0)) wNil)))), ((wCst (.str "centre")), (wTup (wCons (wCst (.int 4)) (wCons (wCst (.int 0)) wNil))))]))
  wNext)
def sp_step_shapes_l : SpD := spW [] 0 w_step_shapes_l
theorem k_step_shapes_l {U : Ud} (F : Fct hd U) : JSs U 0 ⟨[], d_step_shapes_l.scope, fun _ => true, false, none, true⟩ d_step_shapes_l.body w_step_shapes_l :=
  (s_cons (s_ret (n_disp (p_cons n_str (n_tup (m_acons n_int (m_acons n_int a_nil (by decide +kernel)) (by decide +kernel))) (p_cons n_str (n_tup (m_acons n_int (m_acons n_int a_nil (by decide +kernel)) (by decide +kernel))) (p_cons n_str (n_tup (m_acons n_int (m_acons n_int a_nil (by decide +kernel)) (by decide +kernel))) (p_cons n_str (n_tup (m_acons n_int (m_acons n_int a_nil (by decide +kernel)) (by decide +kernel))) (p_cons n_str (n_tup (m_acons n_int (m_acons n_int a_nil (by decide +kernel)) (by decide +kernel))) (p_cons n_str (n_tup (m_acons n_int (m_acons n_int a_nil (by decide +kernel)) (by decide +kernel))) (p_cons n_str (n_tup (m_acons n_int (m_acons n_int a_nil (by decide +kernel)) (by decide +kernel))) (p_cons n_str (n_tup (m_acons n_int (m_acons n_int a_nil (by decide +kernel)) (by decide +kernel))) (p_cons n_str (n_tup (m_acons n_int (m_acons n_int a_nil (by decide +kernel)) (by decide +kernel))) (p_cons n_str (n_tup (m_acons n_int (m_acons n_int a_nil (by decide +kernel)) (by decide +kernel))) (p_cons n_str (n_tup (m_acons n_int (m_acons n_int a_nil (by decide +kernel)) (by decide +kernel))) p_nil))))))))))) rfl))
  s_nil)
theorem h_step_shapes_l {U : Ud} (F : Fct hd U) : FnHas U.P U.w U.K U.mg U.base 1 "_law_step_shapes" sp_step_shapes_l := F.fn (N := []) (ps := []) 14 37 rfl rfl ⟨rfl, rfl⟩ rfl ⟨rfl, rfl, rfl, by decide +kernel, rfl, by decide +kernel, by decide +kernel⟩ (fun _ _ _ _ _ _ us hl => match us, hl with | [], _ => rfl) (k_step_shapes_l F)
/-! _law_claim_shapes -/
def w_claim_shapes_l : WS :=
  (wSeq (wRet (wDisp [((wCst (.str "same")), (wTup (wCons (wCst (.int 2)) (wCons (wCst (.int 0)) wNil)))), ((wCst (.str "on_line")), (wTup (wCons (wCst (.int 3)) (wCons (wCst (.int 0)) wNil)))), ((wCst (.str "parallel")), (wTup (wCons (wCst (.int 4)) (wCons (wCst (.int 0)) wNil)))), ((wCst (.str "perpendicular")), (wTup (wCons (wCst (.int 4)) (wCons (wCst (.int 0)) wNil)))), ((wCst (.str "equal_length")), (wTup (wCons (wCst (.int 4)) (wCons (wCst (.int 0)) wNil)))), ((wCst (.str "equal_area")), (wTup (wCons (wCst (.int 6)) (wCons (wCst (.int 0)) wNil)))), ((wCst (.str "on_circle")), (wTup (wCons (wCst (.int 4)) (wCons (wCst (.int 0)) wNil)))), ((wCst (.str "one_meet")), (wTup (wCons (wCst (.int 6)) (wCons (wCst (.int 0)) wNil))))]))
  wNext)
def sp_claim_shapes_l : SpD := spW [] 0 w_claim_shapes_l
theorem k_claim_shapes_l {U : Ud} (F : Fct hd U) : JSs U 0 ⟨[], d_claim_shapes_l.scope, fun _ => true, false, none, true⟩ d_claim_shapes_l.body w_claim_shapes_l :=
  (s_cons (s_ret (n_disp (p_cons n_str (n_tup (m_acons n_int (m_acons n_int a_nil (by decide +kernel)) (by decide +kernel))) (p_cons n_str (n_tup (m_acons n_int (m_acons n_int a_nil (by decide +kernel)) (by decide +kernel))) (p_cons n_str (n_tup (m_acons n_int (m_acons n_int a_nil (by decide +kernel)) (by decide +kernel))) (p_cons n_str (n_tup (m_acons n_int (m_acons n_int a_nil (by decide +kernel)) (by decide +kernel))) (p_cons n_str (n_tup (m_acons n_int (m_acons n_int a_nil (by decide +kernel)) (by decide +kernel))) (p_cons n_str (n_tup (m_acons n_int (m_acons n_int a_nil (by decide +kernel)) (by decide +kernel))) (p_cons n_str (n_tup (m_acons n_int (m_acons n_int a_nil (by decide +kernel)) (by decide +kernel))) (p_cons n_str (n_tup (m_acons n_int (m_acons n_int a_nil (by decide +kernel)) (by decide +kernel))) p_nil)))))))) rfl))
  s_nil)
theorem h_claim_shapes_l {U : Ud} (F : Fct hd U) : FnHas U.P U.w U.K U.mg U.base 1 "_law_claim_shapes" sp_claim_shapes_l := F.fn (N := []) (ps := []) 15 38 rfl rfl ⟨rfl, rfl⟩ rfl ⟨rfl, rfl, rfl, by decide +kernel, rfl, by decide +kernel, by decide +kernel⟩ (fun _ _ _ _ _ _ us hl => match us, hl with | [], _ => rfl) (k_claim_shapes_l F)
/-! _law_is_name -/
def w_is_name_l_1 : WS :=
  (wSeq (wRet (wAndV (wChain dLe dLe (wCst (.int 1)) (wCl cLen (wCons (wVar 0) wNil)) (wCst (.int 4))) (wOp dEq (wCl cLen (wCons (wLc (wWk (wVar 0)) [2] (gNm 2) (wBl (wOp dNotIn (wVar 2) (wVar 1))) (wVar 2)) wNil)) (wCst (.int 0)))))
  wNext)
def w_is_name_l : WS :=
  (wSeq (wAsg (wCst (.str "abcdefghijklmnopqrstuvwxyz")) (gNm 1))
  w_is_name_l_1)
def sp_is_name_l : SpD := spW ["_law_word", "_law_small", "_law_sign"] 1 w_is_name_l
theorem k_is_name_l {U : Ud} (F : Fct hd U) : JSs U 0 ⟨["_law_word", "_law_small", "_law_sign"], d_is_name_l.scope, fun _ => true, false, none, true⟩ d_is_name_l.body w_is_name_l :=
  (s_cons (m_set 1 (by decide +kernel) n_str)
  (s_cons (s_ret (n_and (n_chain c_le c_le n_int (m_blt f_len (F.free 6 rfl) (by decide +kernel) (m_acons (m_var 0 (by decide +kernel)) a_nil (by decide +kernel))) n_int (by decide +kernel)) (n_one (n_cmp c_eq (m_blt f_len (F.free 6 rfl) (by decide +kernel) (m_acons (m_lc [("_law_sign", 2)] (by decide +kernel) (m_wk (m_var 0 (by decide +kernel))) (m_gnm 2 (by decide +kernel) (fun σ v => ownR_set (by decide) σ _)) (ts_one (t_cmp c_nin (m_var 2 (by decide +kernel)) (m_var 1 (by decide +kernel)) (by decide +kernel))) (m_var 2 (by decide +kernel))) a_nil (by decide +kernel))) n_int (by decide +kernel)))))
  s_nil))
theorem h_is_name_l {U : Ud} (F : Fct hd U) : FnHas U.P U.w U.K U.mg U.base 1 "_law_is_name" sp_is_name_l := F.fn (N := ["_law_word", "_law_small", "_law_sign"]) (ps := ["_law_word"]) 16 39 rfl rfl ⟨rfl, rfl⟩ rfl ⟨rfl, rfl, rfl, by decide +kernel, rfl, by decide +kernel, by decide +kernel⟩ (fun _ _ _ _ _ _ us hl => match us, hl with | [_], _ => rfl) (k_is_name_l F)
/-! _law_integer -/
def w_integer_l_3 : WS :=
  (wSeq (wRet (wCl cInt (wCons (wVar 0) wNil)))
  wNext)
def w_integer_l_2 : WS :=
  (wSeq (wIfS (wAndB (wBl (wOp dEq (wOp dIx (wVar 1) (wCst (.int 0))) (wCst (.str "0")))) (wBl (wOp dNe (wVar 0) (wCst (.str "0"))))) (wSeq (wRet (wCst .non))
  wNext) wNext)
  w_integer_l_3)
def w_integer_l_1 : WS :=
  (wSeq (wIfS (wOrB (wBl (wOp dLt (wCl cLen (wCons (wVar 1) wNil)) (wCst (.int 1)))) (wOrB (wBl (wOp dGt (wCl cLen (wCons (wVar 1) wNil)) (wCst (.int 9)))) (wBl (wOp dGt (wCl cLen (wCons (wLc (wWk (wVar 1)) [2] (gNm 2) (wBl (wOp dNotIn (wVar 2) (wCst (.str "0123456789")))) (wVar 2)) wNil)) (wCst (.int 0)))))) (wSeq (wRet (wCst .non))
  wNext) wNext)
  w_integer_l_2)
def w_integer_l : WS :=
  (wSeq (wAsg (wSl (wVar 0) (wSoP (wCl cInt (wCons (wOp dEq (wSl (wVar 0) wNoP (wSoP (wCst (.int 1)))) (wCst (.str "-"))) wNil))) wNoP) (gNm 1))
  w_integer_l_1)
def sp_integer_l : SpD := spW ["_law_word", "_law_figures", "_law_sign"] 1 w_integer_l
theorem k_integer_l {U : Ud} (F : Fct hd U) : JSs U 0 ⟨["_law_word", "_law_figures", "_law_sign"], d_integer_l.scope, fun _ => true, false, none, true⟩ d_integer_l.body w_integer_l :=
  (s_cons (m_set 1 (by decide +kernel) (n_sl (m_var 0 (by decide +kernel)) (o_some (m_bty f_int (F.free 13 rfl) (by decide +kernel) (m_acons (n_cmp c_eq (n_sl (m_var 0 (by decide +kernel)) o_none (o_some n_int)) n_str (by decide +kernel)) a_nil (by decide +kernel)))) o_none))
  (s_cons (s_if (t_w (w_or (t_cmp c_lt (m_blt f_len (F.free 6 rfl) (by decide +kernel) (m_acons (m_var 1 (by decide +kernel)) a_nil (by decide +kernel))) n_int (by decide +kernel)) (w_or (t_cmp c_gt (m_blt f_len (F.free 6 rfl) (by decide +kernel) (m_acons (m_var 1 (by decide +kernel)) a_nil (by decide +kernel))) n_int (by decide +kernel)) (w_or1 (t_cmp c_gt (m_blt f_len (F.free 6 rfl) (by decide +kernel) (m_acons (m_lc [("_law_sign", 2)] (by decide +kernel) (m_wk (m_var 1 (by decide +kernel))) (m_gnm 2 (by decide +kernel) (fun σ v => ownR_set (by decide) σ _)) (ts_one (t_cmp c_nin (m_var 2 (by decide +kernel)) n_str (by decide +kernel))) (m_var 2 (by decide +kernel))) a_nil (by decide +kernel))) n_int (by decide +kernel)))))) (s_cons (s_ret n_non)
  s_nil) s_nil)
  (s_cons (s_if (t_w (w_and (t_cmp c_eq (n_ix (m_var 1 (by decide +kernel)) n_int (fun _ _ => rfl)) n_str (by decide +kernel)) (w_and1 (t_cmp c_ne (m_var 0 (by decide +kernel)) n_str (by decide +kernel))))) (s_cons (s_ret n_non)
  s_nil) s_nil)
  (s_cons (s_ret (m_bty f_int (F.free 13 rfl) (by decide +kernel) (m_acons (m_var 0 (by decide +kernel)) a_nil (by decide +kernel))))
  s_nil))))
theorem h_integer_l {U : Ud} (F : Fct hd U) : FnHas U.P U.w U.K U.mg U.base 1 "_law_integer" sp_integer_l := F.fn (N := ["_law_word", "_law_figures", "_law_sign"]) (ps := ["_law_word"]) 17 40 rfl rfl ⟨rfl, rfl⟩ rfl ⟨rfl, rfl, rfl, by decide +kernel, rfl, by decide +kernel, by decide +kernel⟩ (fun _ _ _ _ _ _ us hl => match us, hl with | [_], _ => rfl) (k_integer_l F)
/-! _law_formed -/
def w_formed_l_7 : WS :=
  (wSeq (wRet (wCl cTuple (wCons (wOp dAdd (wSl (wVar 2) wNoP (wSoP (wOp dAdd (wCst (.int 1)) (wVar 4)))) (wVar 3)) wNil)))
  wNext)
def w_formed_l_6 : WS :=
  (wSeq (wIfS (wBl (wOp dIn (wCst .non) (wVar 3))) (wSeq (wRet (wCst .non))
  wNext) wNext)
  w_formed_l_7)
def w_formed_l_5 : WS :=
  (wSeq (wAsg (wLc (wWk (wSl (wVar 2) (wSoP (wOp dAdd (wCst (.int 1)) (wVar 4))) wNoP)) [6] (gNm 6) wYes (wCall sp_integer_l (wCons (wVar 6) wNil))) (gNm 3))
  w_formed_l_6)
def w_formed_l_4 : WS :=
  (wSeq (wIfS (wBl (wOp dGt (wCl cLen (wCons (wLc (wWk (wSl (wVar 2) (wSoP (wCst (.int 1))) (wSoP (wOp dAdd (wCst (.int 1)) (wVar 4))))) [6] (gNm 6) (wNotB (wTru (wCall sp_is_name_l (wCons (wVar 6) wNil)))) (wVar 6)) wNil)) (wCst (.int 0)))) (wSeq (wRet (wCst .non))
  wNext) wNext)
  w_formed_l_5)
def w_formed_l_3 : WS :=
  (wSeq (wIfS (wBl (wOp dNe (wCl cLen (wCons (wVar 2) wNil)) (wOp dAdd (wOp dAdd (wCst (.int 1)) (wVar 4)) (wVar 5)))) (wSeq (wRet (wCst .non))
  wNext) wNext)
  w_formed_l_4)
def w_formed_l_2 : WS :=
  (wSeq (wAsg (wOp dIx (wVar 1) (wOp dIx (wVar 2) (wCst (.int 0)))) (gTp [(gNm 4), (gNm 5)]))
  w_formed_l_3)
def w_formed_l_1 : WS :=
  (wSeq (wIfS (wBl (wOp dNotIn (wOp dIx (wVar 2) (wCst (.int 0))) (wVar 1))) (wSeq (wRet (wCst .non))
  wNext) wNext)
  w_formed_l_2)
def w_formed_l : WS :=
  (wSeq (wAsg (wBm "str" mSplit (wVar 0) (wCons (wCst (.str " ")) wNil)) (gNm 2))
  w_formed_l_1)
def sp_formed_l : SpD := spW ["_law_text", "_law_shapes", "_law_words", "_law_numbers", "_law_names_here", "_law_integers", "_law_word"] 2 w_formed_l
theorem k_formed_l {U : Ud} (F : Fct hd U) : JSs U 1 ⟨["_law_text", "_law_shapes", "_law_words", "_law_numbers", "_law_names_here", "_law_integers", "_law_word"], d_formed_l.scope, fun _ => true, false, none, true⟩ d_formed_l.body w_formed_l :=
  (s_cons (m_set 2 (by decide +kernel) (m_bm f_split (fun _ _ _ => md_split) (by decide +kernel) (m_var 0 (by decide +kernel)) (m_acons n_str a_nil (by decide +kernel))))
  (s_cons (s_if (t_cmp c_nin (n_ix (m_var 2 (by decide +kernel)) n_int (fun _ _ => rfl)) (m_var 1 (by decide +kernel)) (by decide +kernel)) (s_cons (s_ret n_non)
  s_nil) s_nil)
  (s_cons (s_asg (n_ix (m_var 1 (by decide +kernel)) (n_ix (m_var 2 (by decide +kernel)) n_int (fun _ _ => rfl)) (fun _ _ => rfl)) (g_tp rfl (gs_cons (fun _ _ _ _ _ => trivial) (m_gnm 4 (by decide +kernel) (fun _ _ => trivial)) (gs_cons (fun _ _ _ _ _ => trivial) (m_gnm 5 (by decide +kernel) (fun _ _ => trivial)) (gs_nil (fun _ => trivial)) (fun _ => rfl)) (fun _ => rfl)) (fun _ => rfl) (fun _ => rfl)) (fun _ => rfl) (fun _ => rfl) (fun _ => rfl))
  (s_cons (s_if (t_cmp c_ne (m_blt f_len (F.free 6 rfl) (by decide +kernel) (m_acons (m_var 2 (by decide +kernel)) a_nil (by decide +kernel))) (n_bin b_add (n_bin b_add n_int (m_var 4 (by decide +kernel))) (m_var 5 (by decide +kernel))) (by decide +kernel)) (s_cons (s_ret n_non)
  s_nil) s_nil)
  (s_cons (s_if (t_cmp c_gt (m_blt f_len (F.free 6 rfl) (by decide +kernel) (m_acons (m_lc [("_law_word", 6)] (by decide +kernel) (m_wk (n_sl (m_var 2 (by decide +kernel)) (o_some n_int) (o_some (n_bin b_add n_int (m_var 4 (by decide +kernel)))))) (m_gnm 6 (by decide +kernel) (fun σ v => ownR_set (by decide) σ _)) (ts_one (t_not (t_val (m_call (h_is_name_l F) (by decide) (by decide +kernel) (m_acons (m_var 6 (by decide +kernel)) a_nil (by decide +kernel))) (fun _ _ => rfl)))) (m_var 6 (by decide +kernel))) a_nil (by decide +kernel))) n_int (by decide +kernel)) (s_cons (s_ret n_non)
  s_nil) s_nil)
  (s_cons (m_slc [("_law_word", 6)] 3 (by decide +kernel) (m_wk (n_sl (m_var 2 (by decide +kernel)) (o_some (n_bin b_add n_int (m_var 4 (by decide +kernel)))) o_none)) (m_gnm 6 (by decide +kernel) (fun σ v => ownR_set (by decide) σ _)) ts_nil (m_call (h_integer_l F) (by decide) (by decide +kernel) (m_acons (m_var 6 (by decide +kernel)) a_nil (by decide +kernel))))
  (s_cons (s_if (t_cmp c_in n_non (m_var 3 (by decide +kernel)) (by decide +kernel)) (s_cons (s_ret n_non)
  s_nil) s_nil)
  (s_cons (s_ret (m_bty f_tuple (F.free 17 rfl) (by decide +kernel) (m_acons (n_bin b_add (n_sl (m_var 2 (by decide +kernel)) o_none (o_some (n_bin b_add n_int (m_var 4 (by decide +kernel))))) (m_var 3 (by decide +kernel))) a_nil (by decide +kernel))))
  s_nil))))))))
theorem h_formed_l {U : Ud} (F : Fct hd U) : FnHas U.P U.w U.K U.mg U.base 2 "_law_formed" sp_formed_l := F.fn (N := ["_law_text", "_law_shapes", "_law_words", "_law_numbers", "_law_names_here", "_law_integers", "_law_word"]) (ps := ["_law_text", "_law_shapes"]) 18 41 rfl rfl ⟨rfl, rfl⟩ rfl ⟨rfl, rfl, rfl, by decide +kernel, rfl, by decide +kernel, by decide +kernel⟩ (fun _ _ _ _ _ _ us hl => match us, hl with | [_, _], _ => rfl) (k_formed_l F)
/-! _law_line -/
def w_line_l : WS :=
  (wSeq (wRet (wBm "str" mJoin (wCst (.str " ")) (wCons (wLc (wWk (wVar 0)) [1] (gNm 1) wYes (wCl cStr (wCons (wVar 1) wNil))) wNil)))
  wNext)
def sp_line_l : SpD := spW ["_law_parts", "_law_part"] 1 w_line_l
theorem k_line_l {U : Ud} (F : Fct hd U) : JSs U 0 ⟨["_law_parts", "_law_part"], d_line_l.scope, fun _ => true, false, none, true⟩ d_line_l.body w_line_l :=
  (s_cons (s_ret (m_bm f_join (fun _ _ _ => md_join) (by decide +kernel) n_str (m_acons (m_lc [("_law_part", 1)] (by decide +kernel) (m_wk (m_var 0 (by decide +kernel))) (m_gnm 1 (by decide +kernel) (fun σ v => ownR_set (by decide) σ _)) ts_nil (m_bty f_str (F.free 0 rfl) (by decide +kernel) (m_acons (m_var 1 (by decide +kernel)) a_nil (by decide +kernel)))) a_nil (by decide +kernel))))
  s_nil)
theorem h_line_l {U : Ud} (F : Fct hd U) : FnHas U.P U.w U.K U.mg U.base 1 "_law_line" sp_line_l := F.fn (N := ["_law_parts", "_law_part"]) (ps := ["_law_parts"]) 19 42 rfl rfl ⟨rfl, rfl⟩ rfl ⟨rfl, rfl, rfl, by decide +kernel, rfl, by decide +kernel, by decide +kernel⟩ (fun _ _ _ _ _ _ us hl => match us, hl with | [_], _ => rfl) (k_line_l F)
/-! _law_number -/
def w_number_l_1 : WS :=
  (wSeq (wRet (wOp dIx (wLst (wCons (wVar 1) (wCons (wOp dSub (wCst (.int 0)) (wVar 1)) wNil))) (wCall sp_draw_l (wCons (wVar 0) (wCons (wCst (.int 2)) wNil)))))
  wNext)
def w_number_l : WS :=
  (wSeq (wAsg (wOp dIx (wLst (wCons (wCst (.int 0)) (wCons (wCst (.int 1)) (wCons (wCst (.int 100)) (wCons (wCst (.int 999999999)) (wCons (wCall sp_draw_l (wCons (wVar 0) (wCons (wCst (.int 10)) wNil))) (wCons (wCall sp_draw_l (wCons (wVar 0) (wCons (wOp dPow (wCst (.int 10)) (wCst (.int 9))) wNil))) wNil))))))) (wCall sp_draw_l (wCons (wVar 0) (wCons (wCst (.int 6)) wNil)))) (gNm 1))
  w_number_l_1)
def sp_number_l : SpD := spW ["_law_bag_here", "_law_number_here"] 1 w_number_l
theorem k_number_l {U : Ud} (F : Fct hd U) : JSs U 1 ⟨["_law_bag_here", "_law_number_here"], d_number_l.scope, fun _ => true, false, none, true⟩ d_number_l.body w_number_l :=
  (s_cons (m_set 1 (by decide +kernel) (n_ix (n_lst (m_acons n_int (m_acons n_int (m_acons n_int (m_acons n_int (m_acons (m_call (h_draw_l F) (by decide) (by decide +kernel) (m_acons (m_var 0 (by decide +kernel)) (m_acons n_int a_nil (by decide +kernel)) (by decide +kernel))) (m_acons (m_call (h_draw_l F) (by decide) (by decide +kernel) (m_acons (m_var 0 (by decide +kernel)) (m_acons (n_bin b_pow n_int n_int) a_nil (by decide +kernel)) (by decide +kernel))) a_nil (by decide +kernel)) (by decide +kernel)) (by decide +kernel)) (by decide +kernel)) (by decide +kernel)) (by decide +kernel))) (m_call (h_draw_l F) (by decide) (by decide +kernel) (m_acons (m_var 0 (by decide +kernel)) (m_acons n_int a_nil (by decide +kernel)) (by decide +kernel))) (fun _ _ => rfl)))
  (s_cons (s_ret (n_ix (n_lst (m_acons (m_var 1 (by decide +kernel)) (m_acons (n_bin b_sub n_int (m_var 1 (by decide +kernel))) a_nil (by decide +kernel)) (by decide +kernel))) (m_call (h_draw_l F) (by decide) (by decide +kernel) (m_acons (m_var 0 (by decide +kernel)) (m_acons n_int a_nil (by decide +kernel)) (by decide +kernel))) (fun _ _ => rfl)))
  s_nil))
theorem h_number_l {U : Ud} (F : Fct hd U) : FnHas U.P U.w U.K U.mg U.base 2 "_law_number" sp_number_l := F.fn (N := ["_law_bag_here", "_law_number_here"]) (ps := ["_law_bag_here"]) 20 43 rfl rfl ⟨rfl, rfl⟩ rfl ⟨rfl, rfl, rfl, by decide +kernel, rfl, by decide +kernel, by decide +kernel⟩ (fun _ _ _ _ _ _ us hl => match us, hl with | [_], _ => rfl) (k_number_l F)
/-! _law_thing -/
def w_thing_l_5 : WS :=
  (wSeq (wRet (wCl cTuple (wCons (wOp dAdd (wVar 5) (wVar 6)) wNil)))
  wNext)
def w_thing_l_4 : WS :=
  (wSeq (wIfS (wTru (wVar 3)) (wSeq (wAsg (wOp dIx (wVar 1) (wCst (.int 0))) (gSubD (wVar 5) (wCst (.int 1))))
  (wSeq (wAsg (wOp dAdd (wSl (wVar 5) wNoP (wSoP (wCst (.int 2)))) (wLc (wRng1 (wCons (wOp dSub (wVar 7) (wCst (.int 1))) wNil)) [9] (gNm 9) wYes (wOp dIx (wVar 1) (wOp dAdd (wCst (.int 1)) (wCall sp_draw_l (wCons (wVar 0) (wCons (wOp dSub (wCl cLen (wCons (wVar 1) wNil)) (wCst (.int 1))) wNil))))))) (gNm 5))
  (wSeq (wAsg (wSl (wLst (wCons (wOp dSub (wCall sp_draw_l (wCons (wVar 0) (wCons (wCst (.int 201)) wNil))) (wCst (.int 100))) (wCons (wOp dAdd (wCst (.int 1)) (wCall sp_draw_l (wCons (wVar 0) (wCons (wCst (.int 100)) wNil)))) wNil))) wNoP (wSoP (wVar 8))) (gNm 6))
  wNext))) wNext)
  w_thing_l_5)
def w_thing_l_3 : WS :=
  (wSeq (wAsg (wLc (wRng1 (wCons (wVar 8) wNil)) [9] (gNm 9) wYes (wCall sp_number_l (wCons (wVar 0) wNil))) (gNm 6))
  w_thing_l_4)
def w_thing_l_2 : WS :=
  (wSeq (wAsg (wOp dAdd (wLst (wCons (wVar 4) wNil)) (wLc (wRng1 (wCons (wVar 7) wNil)) [9] (gNm 9) wYes (wOp dIx (wVar 1) (wCall sp_draw_l (wCons (wVar 0) (wCons (wCl cLen (wCons (wVar 1) wNil)) wNil)))))) (gNm 5))
  w_thing_l_3)
def w_thing_l_1 : WS :=
  (wSeq (wAsg (wOp dIx (wVar 2) (wVar 4)) (gTp [(gNm 7), (gNm 8)]))
  w_thing_l_2)
def w_thing_l : WS :=
  (wSeq (wAsg (wOp dIx (wCl cLstX (wCons (wVar 2) wNil)) (wCall sp_draw_l (wCons (wVar 0) (wCons (wCl cLen (wCons (wVar 2) wNil)) wNil)))) (gNm 4))
  w_thing_l_1)
def sp_thing_l : SpD := spW ["_law_bag_here", "_law_names_here", "_law_shapes", "_law_is_proper", "_law_word", "_law_found", "_law_numbers", "_law_many", "_law_integers", "_law_k"] 4 w_thing_l
theorem k_thing_l {U : Ud} (F : Fct hd U) : JSs U 2 ⟨["_law_bag_here", "_law_names_here", "_law_shapes", "_law_is_proper", "_law_word", "_law_found", "_law_numbers", "_law_many", "_law_integers", "_law_k"], d_thing_l.scope, fun _ => true, false, none, true⟩ d_thing_l.body w_thing_l :=
  (s_cons (m_set 4 (by decide +kernel) (n_ix (m_bty (f_lstX rfl) (F.free 35 rfl) (by decide +kernel) (m_acons (m_var 2 (by decide +kernel)) a_nil (by decide +kernel))) (m_call (h_draw_l F) (by decide) (by decide +kernel) (m_acons (m_var 0 (by decide +kernel)) (m_acons (m_blt f_len (F.free 6 rfl) (by decide +kernel) (m_acons (m_var 2 (by decide +kernel)) a_nil (by decide +kernel))) a_nil (by decide +kernel)) (by decide +kernel))) (fun _ _ => rfl)))
  (s_cons (s_asg (n_ix (m_var 2 (by decide +kernel)) (m_var 4 (by decide +kernel)) (fun _ _ => rfl)) (g_tp rfl (gs_cons (fun _ _ _ _ _ => trivial) (m_gnm 7 (by decide +kernel) (fun _ _ => trivial)) (gs_cons (fun _ _ _ _ _ => trivial) (m_gnm 8 (by decide +kernel) (fun _ _ => trivial)) (gs_nil (fun _ => trivial)) (fun _ => rfl)) (fun _ => rfl)) (fun _ => rfl) (fun _ => rfl)) (fun _ => rfl) (fun _ => rfl) (fun _ => rfl))
  (s_cons (m_set 5 (by decide +kernel) (n_bin b_add (n_lst (m_acons (m_var 4 (by decide +kernel)) a_nil (by decide +kernel))) (m_lc [("_law_k", 9)] (by decide +kernel) (m_rng1 (F.free 32 rfl) (by decide +kernel) (m_acons (m_var 7 (by decide +kernel)) a_nil (by decide +kernel))) (m_gnm 9 (by decide +kernel) (fun σ v => ownR_set (by decide) σ _)) ts_nil (n_ix (m_var 1 (by decide +kernel)) (m_call (h_draw_l F) (by decide) (by decide +kernel) (m_acons (m_var 0 (by decide +kernel)) (m_acons (m_blt f_len (F.free 6 rfl) (by decide +kernel) (m_acons (m_var 1 (by decide +kernel)) a_nil (by decide +kernel))) a_nil (by decide +kernel)) (by decide +kernel))) (fun _ _ => rfl)))))
  (s_cons (m_slc [("_law_k", 9)] 6 (by decide +kernel) (m_rng1 (F.free 32 rfl) (by decide +kernel) (m_acons (m_var 8 (by decide +kernel)) a_nil (by decide +kernel))) (m_gnm 9 (by decide +kernel) (fun σ v => ownR_set (by decide) σ _)) ts_nil (m_call (h_number_l F) (by decide) (by decide +kernel) (m_acons (m_var 0 (by decide +kernel)) a_nil (by decide +kernel))))
  (s_cons (s_if (t_val (m_var 3 (by decide +kernel)) (fun _ _ => rfl)) (s_cons (s_asg (n_ix (m_var 1 (by decide +kernel)) n_int (fun _ _ => rfl)) (g_sub (m_var 5 (by decide +kernel)) n_int (fun _ _ => rfl)) (fun _ => rfl) (fun _ => rfl) (fun _ => rfl))
  (s_cons (m_set 5 (by decide +kernel) (n_bin b_add (n_sl (m_var 5 (by decide +kernel)) o_none (o_some n_int)) (m_lc [("_law_k", 9)] (by decide +kernel) (m_rng1 (F.free 32 rfl) (by decide +kernel) (m_acons (n_bin b_sub (m_var 7 (by decide +kernel)) n_int) a_nil (by decide +kernel))) (m_gnm 9 (by decide +kernel) (fun σ v => ownR_set (by decide) σ _)) ts_nil (n_ix (m_var 1 (by decide +kernel)) (n_bin b_add n_int (m_call (h_draw_l F) (by decide) (by decide +kernel) (m_acons (m_var 0 (by decide +kernel)) (m_acons (n_bin b_sub (m_blt f_len (F.free 6 rfl) (by decide +kernel) (m_acons (m_var 1 (by decide +kernel)) a_nil (by decide +kernel))) n_int) a_nil (by decide +kernel)) (by decide +kernel)))) (fun _ _ => rfl)))))
  (s_cons (m_set 6 (by decide +kernel) (n_sl (n_lst (m_acons (n_bin b_sub (m_call (h_draw_l F) (by decide) (by decide +kernel) (m_acons (m_var 0 (by decide +kernel)) (m_acons n_int a_nil (by decide +kernel)) (by decide +kernel))) n_int) (m_acons (n_bin b_add n_int (m_call (h_draw_l F) (by decide) (by decide +kernel) (m_acons (m_var 0 (by decide +kernel)) (m_acons n_int a_nil (by decide +kernel)) (by decide +kernel)))) a_nil (by decide +kernel)) (by decide +kernel))) o_none (o_some (m_var 8 (by decide +kernel)))))
  s_nil))) s_nil)
  (s_cons (s_ret (m_bty f_tuple (F.free 17 rfl) (by decide +kernel) (m_acons (n_bin b_add (m_var 5 (by decide +kernel)) (m_var 6 (by decide +kernel))) a_nil (by decide +kernel))))
  s_nil))))))
theorem h_thing_l {U : Ud} (F : Fct hd U) : FnHas U.P U.w U.K U.mg U.base 3 "_law_thing" sp_thing_l := F.fn (N := ["_law_bag_here", "_law_names_here", "_law_shapes", "_law_is_proper", "_law_word", "_law_found", "_law_numbers", "_law_many", "_law_integers", "_law_k"]) (ps := ["_law_bag_here", "_law_names_here", "_law_shapes", "_law_is_proper"]) 21 44 rfl rfl ⟨rfl, rfl⟩ rfl ⟨rfl, rfl, rfl, by decide +kernel, rfl, by decide +kernel, by decide +kernel⟩ (fun _ _ _ _ _ _ us hl => match us, hl with | [_, _, _, _], _ => rfl) (k_thing_l F)
/-! _law_told -/
theorem hk_read_claim_0_text {U : Ud} (F : Fct hd U) : FnHasK U.P U.w U.K U.mg U.base 5 "read_claim" ["text"] 0 [0] sp_read_claim := F.fnK (N := ["text", "found"]) (ps := ["text"]) 9 28 ["text"] 0 [0] rfl rfl ⟨rfl, rfl⟩ rfl ⟨rfl, rfl, rfl, by decide +kernel, rfl, by decide +kernel, by decide +kernel⟩ (fun _ _ _ _ _ _ us ws hu hw => match us, ws, hu, hw with | [], [_], _, _ => rfl) (k_read_claim F)
def w_meets_l_h_6 : WS :=
  (wSeq (wRet (wCst (.bl true)))
  wNext)
def w_meets_l_h_5 : WS :=
  (wSeq wNo
  w_meets_l_h_6)
def w_meets_l_h_4 : WS :=
  (wSeq (wIfS (wOrB (wNotB (wTru (wCl cIsi (wCons (wVar 0) (wCons (wCst (.ty "tuple")) wNil))))) (wBl (wOp dNe (wCl cLen (wCons (wVar 0) wNil)) (wCl cLen (wCons (wVar 1) wNil))))) (wSeq (wRet (wCst (.bl false)))
  wNext) wNext)
  w_meets_l_h_5)
def w_meets_l_h_3 : WS :=
  (wSeq (wIfS (wTru (wCl cIsi (wCons (wVar 1) (wCons (wCst (.ty "str")) wNil)))) (wSeq (wRet (wAndV (wCl cIsi (wCons (wVar 0) (wCons (wCst (.ty "str")) wNil))) (wOp dEq (wVar 0) (wVar 1))))
  wNext) wNext)
  w_meets_l_h_4)
def w_meets_l_h_2 : WS :=
  (wSeq (wIfS (wTru (wCl cIsi (wCons (wVar 1) (wCons (wCst (.ty "int")) wNil)))) (wSeq (wRet (wAndV (wCl cIsi (wCons (wVar 0) (wCons (wCst (.ty "int")) wNil))) (wAndV (wNotV (wCl cIsi (wCons (wVar 0) (wCons (wCst (.ty "bool")) wNil)))) (wOp dEq (wVar 0) (wVar 1)))))
  wNext) wNext)
  w_meets_l_h_3)
def w_meets_l_h_1 : WS :=
  (wSeq (wIfS (wTru (wCl cIsi (wCons (wVar 1) (wCons (wCst (.ty "bool")) wNil)))) (wSeq (wRet (wAndV (wCl cIsi (wCons (wVar 0) (wCons (wCst (.ty "bool")) wNil))) (wOp dEq (wVar 0) (wVar 1))))
  wNext) wNext)
  w_meets_l_h_2)
def w_meets_l_h : WS :=
  (wSeq (wIfS (wBl (wOp dIs (wVar 1) (wCst .non))) (wSeq (wRet (wOp dIs (wVar 0) (wCst .non)))
  wNext) wNext)
  w_meets_l_h_1)
def sp_meets_l_h : SpD := spW ["_law_told_here", "_law_due", "_law_k"] 2 w_meets_l_h
theorem k_meets_l_h {U : Ud} (F : Fct hd U) : JSs U 0 ⟨["_law_told_here", "_law_due", "_law_k"], d_meets_l.scope, fun _ => true, true, none, true⟩ d_meets_l.body w_meets_l_h :=
  (s_cons (s_if (t_cmp c_is (m_var 1 (by decide +kernel)) n_non (by decide +kernel)) (s_cons (s_ret (n_cmp c_is (m_var 0 (by decide +kernel)) n_non (by decide +kernel)))
  s_nil) s_nil)
  (s_cons (s_if (t_val (m_blt f_isi (F.free 19 rfl) (by decide +kernel) (m_acons (m_var 1 (by decide +kernel)) (m_acons (m_ty "bool" (F.free 33 rfl) (by decide +kernel)) a_nil (by decide +kernel)) (by decide +kernel))) (fun _ _ => rfl)) (s_cons (s_ret (n_and (m_blt f_isi (F.free 19 rfl) (by decide +kernel) (m_acons (m_var 0 (by decide +kernel)) (m_acons (m_ty "bool" (F.free 33 rfl) (by decide +kernel)) a_nil (by decide +kernel)) (by decide +kernel))) (n_one (n_cmp c_eq (m_var 0 (by decide +kernel)) (m_var 1 (by decide +kernel)) (by decide +kernel)))))
  s_nil) s_nil)
  (s_cons (s_if (t_val (m_blt f_isi (F.free 19 rfl) (by decide +kernel) (m_acons (m_var 1 (by decide +kernel)) (m_acons (m_ty "int" (F.free 13 rfl) (by decide +kernel)) a_nil (by decide +kernel)) (by decide +kernel))) (fun _ _ => rfl)) (s_cons (s_ret (n_and (m_blt f_isi (F.free 19 rfl) (by decide +kernel) (m_acons (m_var 0 (by decide +kernel)) (m_acons (m_ty "int" (F.free 13 rfl) (by decide +kernel)) a_nil (by decide +kernel)) (by decide +kernel))) (n_and (n_not (m_blt f_isi (F.free 19 rfl) (by decide +kernel) (m_acons (m_var 0 (by decide +kernel)) (m_acons (m_ty "bool" (F.free 33 rfl) (by decide +kernel)) a_nil (by decide +kernel)) (by decide +kernel)))) (n_one (n_cmp c_eq (m_var 0 (by decide +kernel)) (m_var 1 (by decide +kernel)) (by decide +kernel))))))
  s_nil) s_nil)
  (s_cons (s_if (t_val (m_blt f_isi (F.free 19 rfl) (by decide +kernel) (m_acons (m_var 1 (by decide +kernel)) (m_acons (m_ty "str" (F.free 0 rfl) (by decide +kernel)) a_nil (by decide +kernel)) (by decide +kernel))) (fun _ _ => rfl)) (s_cons (s_ret (n_and (m_blt f_isi (F.free 19 rfl) (by decide +kernel) (m_acons (m_var 0 (by decide +kernel)) (m_acons (m_ty "str" (F.free 0 rfl) (by decide +kernel)) a_nil (by decide +kernel)) (by decide +kernel))) (n_one (n_cmp c_eq (m_var 0 (by decide +kernel)) (m_var 1 (by decide +kernel)) (by decide +kernel)))))
  s_nil) s_nil)
  (s_cons (s_if (t_w (w_or (t_not (t_val (m_blt f_isi (F.free 19 rfl) (by decide +kernel) (m_acons (m_var 0 (by decide +kernel)) (m_acons (m_ty "tuple" (F.free 17 rfl) (by decide +kernel)) a_nil (by decide +kernel)) (by decide +kernel))) (fun _ _ => rfl))) (w_or1 (t_cmp c_ne (m_blt f_len (F.free 6 rfl) (by decide +kernel) (m_acons (m_var 0 (by decide +kernel)) a_nil (by decide +kernel))) (m_blt f_len (F.free 6 rfl) (by decide +kernel) (m_acons (m_var 1 (by decide +kernel)) a_nil (by decide +kernel))) (by decide +kernel))))) (s_cons (s_ret n_bl)
  s_nil) s_nil)
  (s_cons s_no
  (s_cons (s_ret n_bl)
  s_nil)))))))
theorem h_meets_l_h {U : Ud} (F : Fct hd U) : FnHasH U.P U.w U.K U.mg U.base 1 "_law_meets" sp_meets_l_h := F.fnH (N := ["_law_told_here", "_law_due", "_law_k"]) (ps := ["_law_told_here", "_law_due"]) 12 34 rfl rfl ⟨rfl, rfl⟩ rfl ⟨rfl, rfl, rfl, by decide +kernel, rfl, by decide +kernel, by decide +kernel⟩ (fun _ _ _ _ _ _ us hl => match us, hl with | [_, _], _ => rfl) (k_meets_l_h F)
def w_told_l : WS :=
  (wSeq (wTry xs (wSeq (wIfS (wTru (wVar 1)) (wSeq (wRet (wCall sp_read_step (wCons (wVar 0) wNil)))
  wNext) wNext)
  (wSeq (wRet (wCallK sp_read_claim 0 1 [0] wNil (wCons (wVar 0) wNil)))
  wNext)) [("BadValue", some 2, fun x a dd => (wSeq (wRet (wOp dIx (wLst (wCons (wCst (.str "none")) (wCons (wCst (.str "bad")) wNil))) (wCl cInt (wCons (wAndV (wXIs xs a x dd [.own "FigureError"] (wVar 2)) (wAndV (wNotV (wXIs xs a x dd [.own "BadClaim"] (wVar 2))) (wCallH sp_meets_l_h (wCons (wXAtt xs "at" a x dd (wVar 2)) (wCons (wCst (.int 0)) wNil))))) wNil))))
  wNext))])
  wNext)
def sp_told_l : SpD := spW ["_law_text", "_law_is_step", "e"] 2 w_told_l
theorem k_told_l {U : Ud} (F : Fct hd U) : JSs U 6 ⟨["_law_text", "_law_is_step", "e"], d_told_l.scope, fun _ => true, false, none, true⟩ d_told_l.body w_told_l :=
  (s_cons (s_try F.xc rfl rfl rfl (s_cons (s_if (t_val (m_var 1 (by decide +kernel)) (fun _ _ => rfl)) (s_cons (s_ret (m_call (h_read_step F) (by decide) (by decide +kernel) (m_acons (m_var 0 (by decide +kernel)) a_nil (by decide +kernel))))
  s_nil) s_nil)
  (s_cons (s_ret (m_callK0 (hk_read_claim_0_text F) (by decide) (by decide +kernel) (k_cons (m_var 0 (by decide +kernel)) k_nil)))
  s_nil)) (.named (by decide +kernel) (by decide +kernel) (by decide +kernel) (F.glo 23 rfl) (by decide +kernel) (by decide +kernel) (fun a x dd => (s_cons (s_ret (n_ix (n_lst (m_acons n_str (m_acons n_str a_nil rfl) rfl)) (m_bty f_int (F.free 13 rfl) rfl (m_acons (n_and (n_xis1 F.xc rfl (F.free 19 rfl) rfl rfl (.own (F.glo 46 rfl) rfl (.nil)) (m_var 2 rfl)) (n_and (n_not (n_xis1 F.xc rfl (F.free 19 rfl) rfl rfl (.own (F.glo 45 rfl) rfl (.nil)) (m_var 2 rfl))) (n_one (m_callH (h_meets_l_h F) rfl (by decide) rfl (m_acons (n_xatt F.xc rfl (m_var 2 rfl) rfl) (m_acons n_int a_nil rfl) rfl))))) a_nil rfl)) (fun _ _ => rfl)))
  s_nil)) (.nil)))
  s_nil)
theorem h_told_l {U : Ud} (F : Fct hd U) : FnHas U.P U.w U.K U.mg U.base 7 "_law_told" sp_told_l := F.fn (N := ["_law_text", "_law_is_step", "e"]) (ps := ["_law_text", "_law_is_step"]) 22 47 rfl rfl ⟨rfl, rfl⟩ rfl ⟨rfl, rfl, rfl, by decide +kernel, rfl, by decide +kernel, by decide +kernel⟩ (fun _ _ _ _ _ _ us hl => match us, hl with | [_, _], _ => rfl) (k_told_l F)
/-! _law_spoilt -/
def w_spoilt_l_12 : WS :=
  (wSeq (wRet (wOp dAdd (wBm "str" mUpper (wSl (wVar 1) wNoP (wSoP (wVar 4))) wNil) (wSl (wVar 1) (wSoP (wVar 4)) wNoP)))
  wNext)
def w_spoilt_l_11 : WS :=
  (wSeq (wIfS (wBl (wOp dEq (wVar 6) (wCst (.int 6)))) (wSeq (wRet (wOp dIx (wLst (wCons (wOp dAdd (wCst (.str " ")) (wVar 1)) (wCons (wOp dAdd (wVar 1) (wCst (.str " "))) (wCons (wOp dAdd (wVar 1) (wCst (.str "\n"))) (wCons (wCst (.str "")) (wCons (wCst (.str " ")) (wCons (wOp dAdd (wOp dAdd (wVar 1) (wCst (.str " "))) (wVar 1)) wNil))))))) (wCall sp_draw_l (wCons (wVar 0) (wCons (wCst (.int 6)) wNil)))))
  wNext) wNext)
  w_spoilt_l_12)
def w_spoilt_l_10 : WS :=
  (wSeq (wIfS (wBl (wOp dEq (wVar 6) (wCst (.int 5)))) (wSeq (wRet (wOp dAdd (wSl (wVar 1) wNoP (wSoP (wVar 4))) (wSl (wVar 1) (wSoP (wOp dAdd (wVar 4) (wCst (.int 1)))) wNoP)))
  wNext) wNext)
  w_spoilt_l_11)
def w_spoilt_l_9 : WS :=
  (wSeq (wIfS (wBl (wOp dEq (wVar 6) (wCst (.int 4)))) (wSeq (wRet (wOp dAdd (wOp dAdd (wSl (wVar 1) wNoP (wSoP (wVar 4))) (wOp dIx (wLst (wCons (wCst (.str " ")) (wCons (wCst (.str "\n")) (wCons (wCst (.str "a")) (wCons (wCst (.str "0")) (wCons (wCst (.str "-")) (wCons (wCst (.str "_")) (wCons (wCst (.str ".")) (wCons (wCst (.str "A")) wNil))))))))) (wCall sp_draw_l (wCons (wVar 0) (wCons (wCst (.int 8)) wNil))))) (wSl (wVar 1) (wSoP (wVar 4)) wNoP)))
  wNext) wNext)
  w_spoilt_l_10)
def w_spoilt_l_8 : WS :=
  (wSeq (wIfS (wBl (wOp dLt (wVar 6) (wCst (.int 4)))) (wSeq (wRet (wBm "str" mJoin (wCst (.str " ")) (wCons (wOp dAdd (wOp dAdd (wSl (wVar 2) wNoP (wSoP (wVar 3))) (wLst (wCons (wOp dIx (wVar 5) (wCall sp_draw_l (wCons (wVar 0) (wCons (wCl cLen (wCons (wVar 5) wNil)) wNil)))) wNil))) (wSl (wVar 2) (wSoP (wOp dAdd (wVar 3) (wCst (.int 1)))) wNoP)) wNil)))
  wNext) wNext)
  w_spoilt_l_9)
def w_spoilt_l_7 : WS :=
  (wSeq (wIfS (wBl (wOp dEq (wVar 6) (wCst (.int 1)))) (wSeq (wRet (wBm "str" mJoin (wCst (.str " ")) (wCons (wOp dAdd (wOp dAdd (wSl (wVar 2) wNoP (wSoP (wVar 3))) (wLst (wCons (wOp dIx (wVar 5) (wCall sp_draw_l (wCons (wVar 0) (wCons (wCl cLen (wCons (wVar 5) wNil)) wNil)))) wNil))) (wSl (wVar 2) (wSoP (wVar 3)) wNoP)) wNil)))
  wNext) wNext)
  w_spoilt_l_8)
def w_spoilt_l_6 : WS :=
  (wSeq (wIfS (wBl (wOp dEq (wVar 6) (wCst (.int 0)))) (wSeq (wRet (wBm "str" mJoin (wCst (.str " ")) (wCons (wOp dAdd (wSl (wVar 2) wNoP (wSoP (wVar 3))) (wSl (wVar 2) (wSoP (wOp dAdd (wVar 3) (wCst (.int 1)))) wNoP)) wNil)))
  wNext) wNext)
  w_spoilt_l_7)
def w_spoilt_l_5 : WS :=
  (wSeq (wAsg (wCall sp_draw_l (wCons (wVar 0) (wCons (wCst (.int 8)) wNil))) (gNm 6))
  w_spoilt_l_6)
def w_spoilt_l_4 : WS :=
  (wSeq (wAsg (wOp dAdd (wVar 5) (wLst (wCons (wCst (.str "-")) (wCons (wCst (.str "--1")) (wCons (wCst (.str "a_b")) (wCons (wCst (.str "on_line")) (wCons (wCst (.str "part")) (wCons (wCst (.str "-5")) (wCons (wCst (.str "000")) (wCons (wCst (.str "abcd")) (wCons (wCst (.str "123456789")) (wCons (wCst (.str "-123456789")) wNil)))))))))))) (gNm 5))
  w_spoilt_l_5)
def w_spoilt_l_3 : WS :=
  (wSeq (wAsg (wLst (wCons (wCst (.str "")) (wCons (wCst (.str "A")) (wCons (wCst (.str "abcde")) (wCons (wCst (.str "a1")) (wCons (wCst (.str "0")) (wCons (wCst (.str "-0")) (wCons (wCst (.str "01")) (wCons (wCst (.str "1234567890")) (wCons (wCst (.str "-1234567890")) (wCons (wCst (.str "+1")) (wCons (wCst (.str "1.0")) (wCons (wCst (.str "a-b")) (wCons (wCst (.str "free")) (wCons (wCst (.str "same")) wNil))))))))))))))) (gNm 5))
  w_spoilt_l_4)
def w_spoilt_l_2 : WS :=
  (wSeq (wAsg (wCall sp_draw_l (wCons (wVar 0) (wCons (wOp dAdd (wCl cLen (wCons (wVar 1) wNil)) (wCst (.int 1))) wNil))) (gNm 4))
  w_spoilt_l_3)
def w_spoilt_l_1 : WS :=
  (wSeq (wAsg (wCall sp_draw_l (wCons (wVar 0) (wCons (wCl cLen (wCons (wVar 2) wNil)) wNil))) (gNm 3))
  w_spoilt_l_2)
def w_spoilt_l : WS :=
  (wSeq (wAsg (wBm "str" mSplit (wVar 1) (wCons (wCst (.str " ")) wNil)) (gNm 2))
  w_spoilt_l_1)
def sp_spoilt_l : SpD := spW ["_law_bag_here", "_law_text", "_law_words", "_law_at", "_law_place", "_law_odd", "_law_way"] 2 w_spoilt_l
theorem k_spoilt_l {U : Ud} (F : Fct hd U) : JSs U 1 ⟨["_law_bag_here", "_law_text", "_law_words", "_law_at", "_law_place", "_law_odd", "_law_way"], d_spoilt_l.scope, fun _ => true, false, none, true⟩ d_spoilt_l.body w_spoilt_l :=
  (s_cons (m_set 2 (by decide +kernel) (m_bm f_split (fun _ _ _ => md_split) (by decide +kernel) (m_var 1 (by decide +kernel)) (m_acons n_str a_nil (by decide +kernel))))
  (s_cons (m_set 3 (by decide +kernel) (m_call (h_draw_l F) (by decide) (by decide +kernel) (m_acons (m_var 0 (by decide +kernel)) (m_acons (m_blt f_len (F.free 6 rfl) (by decide +kernel) (m_acons (m_var 2 (by decide +kernel)) a_nil (by decide +kernel))) a_nil (by decide +kernel)) (by decide +kernel))))
  (s_cons (m_set 4 (by decide +kernel) (m_call (h_draw_l F) (by decide) (by decide +kernel) (m_acons (m_var 0 (by decide +kernel)) (m_acons (n_bin b_add (m_blt f_len (F.free 6 rfl) (by decide +kernel) (m_acons (m_var 1 (by decide +kernel)) a_nil (by decide +kernel))) n_int) a_nil (by decide +kernel)) (by decide +kernel))))
  (s_cons (m_set 5 (by decide +kernel) (n_lst (m_acons n_str (m_acons n_str (m_acons n_str (m_acons n_str (m_acons n_str (m_acons n_str (m_acons n_str (m_acons n_str (m_acons n_str (m_acons n_str (m_acons n_str (m_acons n_str (m_acons n_str (m_acons n_str a_nil (by decide +kernel)) (by decide +kernel)) (by decide +kernel)) (by decide +kernel)) (by decide +kernel)) (by decide +kernel)) (by decide +kernel)) (by decide +kernel)) (by decide +kernel)) (by decide +kernel)) (by decide +kernel)) (by decide +kernel)) (by decide +kernel)) (by decide +kernel))))
  (s_cons (m_set 5 (by decide +kernel) (n_bin b_add (m_var 5 (by decide +kernel)) (n_lst (m_acons n_str (m_acons n_str (m_acons n_str (m_acons n_str (m_acons n_str (m_acons n_str (m_acons n_str (m_acons n_str (m_acons n_str (m_acons n_str a_nil (by decide +kernel)) (by decide +kernel)) (by decide +kernel)) (by decide +kernel)) (by decide +kernel)) (by decide +kernel)) (by decide +kernel)) (by decide +kernel)) (by decide +kernel)) (by decide +kernel)))))
  (s_cons (m_set 6 (by decide +kernel) (m_call (h_draw_l F) (by decide) (by decide +kernel) (m_acons (m_var 0 (by decide +kernel)) (m_acons n_int a_nil (by decide +kernel)) (by decide +kernel))))
  (s_cons (s_if (t_cmp c_eq (m_var 6 (by decide +kernel)) n_int (by decide +kernel)) (s_cons (s_ret (m_bm f_join (fun _ _ _ => md_join) (by decide +kernel) n_str (m_acons (n_bin b_add (n_sl (m_var 2 (by decide +kernel)) o_none (o_some (m_var 3 (by decide +kernel)))) (n_sl (m_var 2 (by decide +kernel)) (o_some (n_bin b_add (m_var 3 (by decide +kernel)) n_int)) o_none)) a_nil (by decide +kernel))))
  s_nil) s_nil)
  (s_cons (s_if (t_cmp c_eq (m_var 6 (by decide +kernel)) n_int (by decide +kernel)) (s_cons (s_ret (m_bm f_join (fun _ _ _ => md_join) (by decide +kernel) n_str (m_acons (n_bin b_add (n_bin b_add (n_sl (m_var 2 (by decide +kernel)) o_none (o_some (m_var 3 (by decide +kernel)))) (n_lst (m_acons (n_ix (m_var 5 (by decide +kernel)) (m_call (h_draw_l F) (by decide) (by decide +kernel) (m_acons (m_var 0 (by decide +kernel)) (m_acons (m_blt f_len (F.free 6 rfl) (by decide +kernel) (m_acons (m_var 5 (by decide +kernel)) a_nil (by decide +kernel))) a_nil (by decide +kernel)) (by decide +kernel))) (fun _ _ => rfl)) a_nil (by decide +kernel)))) (n_sl (m_var 2 (by decide +kernel)) (o_some (m_var 3 (by decide +kernel))) o_none)) a_nil (by decide +kernel))))
  s_nil) s_nil)
  (s_cons (s_if (t_cmp c_lt (m_var 6 (by decide +kernel)) n_int (by decide +kernel)) (s_cons (s_ret (m_bm f_join (fun _ _ _ => md_join) (by decide +kernel) n_str (m_acons (n_bin b_add (n_bin b_add (n_sl (m_var 2 (by decide +kernel)) o_none (o_some (m_var 3 (by decide +kernel)))) (n_lst (m_acons (n_ix (m_var 5 (by decide +kernel)) (m_call (h_draw_l F) (by decide) (by decide +kernel) (m_acons (m_var 0 (by decide +kernel)) (m_acons (m_blt f_len (F.free 6 rfl) (by decide +kernel) (m_acons (m_var 5 (by decide +kernel)) a_nil (by decide +kernel))) a_nil (by decide +kernel)) (by decide +kernel))) (fun _ _ => rfl)) a_nil (by decide +kernel)))) (n_sl (m_var 2 (by decide +kernel)) (o_some (n_bin b_add (m_var 3 (by decide +kernel)) n_int)) o_none)) a_nil (by decide +kernel))))
  s_nil) s_nil)
  (s_cons (s_if (t_cmp c_eq (m_var 6 (by decide +kernel)) n_int (by decide +kernel)) (s_cons (s_ret (n_bin b_add (n_bin b_add (n_sl (m_var 1 (by decide +kernel)) o_none (o_some (m_var 4 (by decide +kernel)))) (n_ix (n_lst (m_acons n_str (m_acons n_str (m_acons n_str (m_acons n_str (m_acons n_str (m_acons n_str (m_acons n_str (m_acons n_str a_nil (by decide +kernel)) (by decide +kernel)) (by decide +kernel)) (by decide +kernel)) (by decide +kernel)) (by decide +kernel)) (by decide +kernel)) (by decide +kernel))) (m_call (h_draw_l F) (by decide) (by decide +kernel) (m_acons (m_var 0 (by decide +kernel)) (m_acons n_int a_nil (by decide +kernel)) (by decide +kernel))) (fun _ _ => rfl))) (n_sl (m_var 1 (by decide +kernel)) (o_some (m_var 4 (by decide +kernel))) o_none)))
  s_nil) s_nil)
  (s_cons (s_if (t_cmp c_eq (m_var 6 (by decide +kernel)) n_int (by decide +kernel)) (s_cons (s_ret (n_bin b_add (n_sl (m_var 1 (by decide +kernel)) o_none (o_some (m_var 4 (by decide +kernel)))) (n_sl (m_var 1 (by decide +kernel)) (o_some (n_bin b_add (m_var 4 (by decide +kernel)) n_int)) o_none)))
  s_nil) s_nil)
  (s_cons (s_if (t_cmp c_eq (m_var 6 (by decide +kernel)) n_int (by decide +kernel)) (s_cons (s_ret (n_ix (n_lst (m_acons (n_bin b_add n_str (m_var 1 (by decide +kernel))) (m_acons (n_bin b_add (m_var 1 (by decide +kernel)) n_str) (m_acons (n_bin b_add (m_var 1 (by decide +kernel)) n_str) (m_acons n_str (m_acons n_str (m_acons (n_bin b_add (n_bin b_add (m_var 1 (by decide +kernel)) n_str) (m_var 1 (by decide +kernel))) a_nil (by decide +kernel)) (by decide +kernel)) (by decide +kernel)) (by decide +kernel)) (by decide +kernel)) (by decide +kernel))) (m_call (h_draw_l F) (by decide) (by decide +kernel) (m_acons (m_var 0 (by decide +kernel)) (m_acons n_int a_nil (by decide +kernel)) (by decide +kernel))) (fun _ _ => rfl)))
  s_nil) s_nil)
  (s_cons (s_ret (n_bin b_add (m_bm0 f_upper (fun _ _ _ => md_upper) (by decide +kernel) (n_sl (m_var 1 (by decide +kernel)) o_none (o_some (m_var 4 (by decide +kernel))))) (n_sl (m_var 1 (by decide +kernel)) (o_some (m_var 4 (by decide +kernel))) o_none)))
  s_nil)))))))))))))
theorem h_spoilt_l {U : Ud} (F : Fct hd U) : FnHas U.P U.w U.K U.mg U.base 2 "_law_spoilt" sp_spoilt_l := F.fn (N := ["_law_bag_here", "_law_text", "_law_words", "_law_at", "_law_place", "_law_odd", "_law_way"]) (ps := ["_law_bag_here", "_law_text"]) 23 48 rfl rfl ⟨rfl, rfl⟩ rfl ⟨rfl, rfl, rfl, by decide +kernel, rfl, by decide +kernel, by decide +kernel⟩ (fun _ _ _ _ _ _ us hl => match us, hl with | [_, _], _ => rfl) (k_spoilt_l F)
/-! _law_are_integers_read -/
def w_are_integers_read_l_3 : WS :=
  (wSeq (wRet (wCst (.bl true)))
  wNext)
def w_are_integers_read_l_2 : WS :=
  (wSeq (wFor (wWk (wLst (wCons (wCst (.str "-0")) (wCons (wOp dIx (wVar 2) (wCall sp_draw_l (wCons (wVar 0) (wCons (wCl cLen (wCons (wVar 2) wNil)) wNil)))) (wCons (wOp dIx (wVar 2) (wCall sp_draw_l (wCons (wVar 0) (wCons (wCl cLen (wCons (wVar 2) wNil)) wNil)))) wNil))))) (gNm 3) (wSeq (wAsg (wOp dAdd (wOp dAdd (wLst (wCons (wCst (.str "part")) wNil)) (wSl (wVar 1) wNoP (wSoP (wCst (.int 3))))) (wLst (wCons (wCst (.str "1")) (wCons (wCst (.str "2")) wNil)))) (gNm 4))
  (wSeq (wAsg (wVar 3) (gSubD (wVar 4) (wOp dAdd (wCst (.int 4)) (wCall sp_draw_l (wCons (wVar 0) (wCons (wCst (.int 2)) wNil))))))
  (wSeq (wAsg (wCall sp_formed_l (wCons (wBm "str" mJoin (wCst (.str " ")) (wCons (wVar 4) wNil)) (wCons (wCall sp_step_shapes_l wNil) wNil))) (gNm 5))
  (wSeq (wIfS (wBl (wOp dIs (wVar 5) (wCst .non))) (wSeq (wAsg (wCst (.str "bad")) (gNm 5))
  wNext) wNext)
  (wSeq (wIfS (wNotB (wTru (wCall (sp_meets_l 6) (wCons (wCall sp_told_l (wCons (wBm "str" mJoin (wCst (.str " ")) (wCons (wVar 4) wNil)) (wCons (wCst (.bl true)) wNil))) (wCons (wVar 5) wNil))))) (wSeq (wRet (wCst (.bl false)))
  wNext) wNext)
  wNext))))))
  w_are_integers_read_l_3)
def w_are_integers_read_l_1 : WS :=
  (wSeq (wAsg (wOp dAdd (wVar 2) (wLst (wCons (wCst (.str "5")) (wCons (wCst (.str "x")) (wCons (wCst (.str "-123456789")) wNil))))) (gNm 2))
  w_are_integers_read_l_2)
def w_are_integers_read_l : WS :=
  (wSeq (wAsg (wLst (wCons (wCst (.str "-0")) (wCons (wCst (.str "0")) (wCons (wCst (.str "00")) (wCons (wCst (.str "01")) (wCons (wCst (.str "-01")) (wCons (wCst (.str "+1")) (wCons (wCst (.str "-5")) (wCons (wCst (.str "--5")) (wCons (wCst (.str "-")) (wCons (wCst (.str "1.0")) (wCons (wCst (.str "1234567890")) (wCons (wCst (.str "-1234567890")) (wCons (wCst (.str "123456789")) wNil)))))))))))))) (gNm 2))
  w_are_integers_read_l_1)
def sp_are_integers_read_l : SpD := spW ["_law_bag_here", "_law_names_here", "_law_row", "_law_word", "_law_parts", "_law_due"] 2 w_are_integers_read_l
theorem k_are_integers_read_l {U : Ud} (F : Fct hd U) : JSs U 7 ⟨["_law_bag_here", "_law_names_here", "_law_row", "_law_word", "_law_parts", "_law_due"], d_are_integers_read_l.scope, fun _ => true, false, none, true⟩ d_are_integers_read_l.body w_are_integers_read_l :=
  (s_cons (m_set 2 (by decide +kernel) (n_lst (m_acons n_str (m_acons n_str (m_acons n_str (m_acons n_str (m_acons n_str (m_acons n_str (m_acons n_str (m_acons n_str (m_acons n_str (m_acons n_str (m_acons n_str (m_acons n_str (m_acons n_str a_nil (by decide +kernel)) (by decide +kernel)) (by decide +kernel)) (by decide +kernel)) (by decide +kernel)) (by decide +kernel)) (by decide +kernel)) (by decide +kernel)) (by decide +kernel)) (by decide +kernel)) (by decide +kernel)) (by decide +kernel)) (by decide +kernel))))
  (s_cons (m_set 2 (by decide +kernel) (n_bin b_add (m_var 2 (by decide +kernel)) (n_lst (m_acons n_str (m_acons n_str (m_acons n_str a_nil (by decide +kernel)) (by decide +kernel)) (by decide +kernel)))))
  (s_cons (m_for (by decide +kernel) (m_wk (n_lst (m_acons n_str (m_acons (n_ix (m_var 2 (by decide +kernel)) (m_call (h_draw_l F) (by decide) (by decide +kernel) (m_acons (m_var 0 (by decide +kernel)) (m_acons (m_blt f_len (F.free 6 rfl) (by decide +kernel) (m_acons (m_var 2 (by decide +kernel)) a_nil (by decide +kernel))) a_nil (by decide +kernel)) (by decide +kernel))) (fun _ _ => rfl)) (m_acons (n_ix (m_var 2 (by decide +kernel)) (m_call (h_draw_l F) (by decide) (by decide +kernel) (m_acons (m_var 0 (by decide +kernel)) (m_acons (m_blt f_len (F.free 6 rfl) (by decide +kernel) (m_acons (m_var 2 (by decide +kernel)) a_nil (by decide +kernel))) a_nil (by decide +kernel)) (by decide +kernel))) (fun _ _ => rfl)) a_nil (by decide +kernel)) (by decide +kernel)) (by decide +kernel)))) (m_gnm 3 (by decide +kernel) (fun _ _ => trivial)) (s_cons (m_set 4 (by decide +kernel) (n_bin b_add (n_bin b_add (n_lst (m_acons n_str a_nil (by decide +kernel))) (n_sl (m_var 1 (by decide +kernel)) o_none (o_some n_int))) (n_lst (m_acons n_str (m_acons n_str a_nil (by decide +kernel)) (by decide +kernel)))))
  (s_cons (s_asg (m_var 3 (by decide +kernel)) (g_sub (m_var 4 (by decide +kernel)) (n_bin b_add n_int (m_call (h_draw_l F) (by decide) (by decide +kernel) (m_acons (m_var 0 (by decide +kernel)) (m_acons n_int a_nil (by decide +kernel)) (by decide +kernel)))) (fun _ _ => rfl)) (fun _ => rfl) (fun _ => rfl) (fun _ => rfl))
  (s_cons (m_set 5 (by decide +kernel) (m_call (h_formed_l F) (by decide) (by decide +kernel) (m_acons (m_bm f_join (fun _ _ _ => md_join) (by decide +kernel) n_str (m_acons (m_var 4 (by decide +kernel)) a_nil (by decide +kernel))) (m_acons (m_call0 (h_step_shapes_l F) (by decide) (by decide +kernel)) a_nil (by decide +kernel)) (by decide +kernel))))
  (s_cons (s_if (t_cmp c_is (m_var 5 (by decide +kernel)) n_non (by decide +kernel)) (s_cons (m_set 5 (by decide +kernel) n_str)
  s_nil) s_nil)
  (s_cons (s_if (t_not (t_val (m_call (h_meets_l F 6) (by decide) (by decide +kernel) (m_acons (m_call (h_told_l F) (by decide) (by decide +kernel) (m_acons (m_bm f_join (fun _ _ _ => md_join) (by decide +kernel) n_str (m_acons (m_var 4 (by decide +kernel)) a_nil (by decide +kernel))) (m_acons n_bl a_nil (by decide +kernel)) (by decide +kernel))) (m_acons (m_var 5 (by decide +kernel)) a_nil (by decide +kernel)) (by decide +kernel))) (fun _ _ => rfl))) (s_cons (s_ret n_bl)
  s_nil) s_nil)
  s_nil))))))
  (s_cons (s_ret n_bl)
  s_nil))))
theorem h_are_integers_read_l {U : Ud} (F : Fct hd U) : FnHas U.P U.w U.K U.mg U.base 8 "_law_are_integers_read" sp_are_integers_read_l := F.fn (N := ["_law_bag_here", "_law_names_here", "_law_row", "_law_word", "_law_parts", "_law_due"]) (ps := ["_law_bag_here", "_law_names_here"]) 24 49 rfl rfl ⟨rfl, rfl⟩ rfl ⟨rfl, rfl, rfl, by decide +kernel, rfl, by decide +kernel, by decide +kernel⟩ (fun _ _ _ _ _ _ us hl => match us, hl with | [_, _], _ => rfl) (k_are_integers_read_l F)
/-! law -/
theorem hk_claim_text_0_claim {U : Ud} (F : Fct hd U) : FnHasK U.P U.w U.K U.mg U.base 2 "claim_text" ["claim"] 0 [0] sp_claim_text := F.fnK (N := ["claim"]) (ps := ["claim"]) 2 3 ["claim"] 0 [0] rfl rfl ⟨rfl, rfl⟩ rfl ⟨rfl, rfl, rfl, by decide +kernel, rfl, by decide +kernel, by decide +kernel⟩ (fun _ _ _ _ _ _ us ws hu hw => match us, ws, hu, hw with | [], [_], _, _ => rfl) (k_claim_text F)
theorem hk_step_text_0_step {U : Ud} (F : Fct hd U) : FnHasK U.P U.w U.K U.mg U.base 2 "step_text" ["step"] 0 [0] sp_step_text := F.fnK (N := ["step"]) (ps := ["step"]) 1 2 ["step"] 0 [0] rfl rfl ⟨rfl, rfl⟩ rfl ⟨rfl, rfl, rfl, by decide +kernel, rfl, by decide +kernel, by decide +kernel⟩ (fun _ _ _ _ _ _ us ws hu hw => match us, ws, hu, hw with | [], [_], _, _ => rfl) (k_step_text F)
def w_law_4 : WS :=
  (wSeq (wRet (wCst (.bl true)))
  wNext)
def w_law_3 : WS :=
  (wSeq (wFor (wRng1 (wCons (wCst (.int 6)) wNil)) (gNm 3) (wSeq (wAsg (wOp dEq (wCall sp_draw_l (wCons (wVar 1) (wCons (wCst (.int 2)) wNil))) (wCst (.int 0))) (gNm 4))
  (wSeq (wAsg (wOp dIx (wLst (wCons (wCall sp_claim_shapes_l wNil) (wCons (wCall sp_step_shapes_l wNil) wNil))) (wCl cInt (wCons (wVar 4) wNil))) (gNm 5))
  (wSeq (wAsg (wCall sp_thing_l (wCons (wVar 1) (wCons (wVar 2) (wCons (wVar 5) (wCons (wCst (.bl true)) wNil))))) (gNm 6))
  (wSeq (wAsg (wCall sp_line_l (wCons (wVar 6) wNil)) (gNm 7))
  (wSeq (wIfS (wAndB (wTru (wVar 4)) (wNotB (wTru (wCall (sp_meets_l 6) (wCons (wCallK sp_step_text 0 1 [0] wNil (wCons (wVar 6) wNil)) (wCons (wVar 7) wNil)))))) (wSeq (wRet (wCst (.bl false)))
  wNext) wNext)
  (wSeq (wIfS (wAndB (wNotB (wTru (wVar 4))) (wNotB (wTru (wCall (sp_meets_l 6) (wCons (wCallK sp_claim_text 0 1 [0] wNil (wCons (wVar 6) wNil)) (wCons (wVar 7) wNil)))))) (wSeq (wRet (wCst (.bl false)))
  wNext) wNext)
  (wSeq (wIfS (wBl (wOp dEq (wCall sp_draw_l (wCons (wVar 1) (wCons (wCst (.int 2)) wNil))) (wCst (.int 0)))) (wSeq (wAsg (wCall sp_thing_l (wCons (wVar 1) (wCons (wVar 2) (wCons (wVar 5) (wCons (wCst (.bl false)) wNil))))) (gNm 6))
  (wSeq (wAsg (wCall sp_line_l (wCons (wVar 6) wNil)) (gNm 7))
  wNext)) wNext)
  (wSeq (wIfS (wOrB (wNotB (wTru (wCall (sp_meets_l 6) (wCons (wCall sp_told_l (wCons (wVar 7) (wCons (wVar 4) wNil))) (wCons (wVar 6) wNil))))) (wNotB (wTru (wCall (sp_meets_l 6) (wCons (wCall sp_told_l (wCons (wVar 7) (wCons (wNotV (wVar 4)) wNil))) (wCons (wCst (.str "bad")) wNil)))))) (wSeq (wRet (wCst (.bl false)))
  wNext) wNext)
  (wSeq (wFor (wRng1 (wCons (wCst (.int 3)) wNil)) (gNm 8) (wSeq (wAsg (wCall sp_spoilt_l (wCons (wVar 1) (wCons (wVar 7) wNil))) (gNm 10))
  (wSeq (wFor (wWk (wLst (wCons (wCst (.bl true)) (wCons (wCst (.bl false)) wNil)))) (gNm 11) (wSeq (wAsg (wCall sp_formed_l (wCons (wVar 10) (wCons (wOp dIx (wLst (wCons (wCall sp_claim_shapes_l wNil) (wCons (wCall sp_step_shapes_l wNil) wNil))) (wCl cInt (wCons (wVar 11) wNil))) wNil))) (gNm 12))
  (wSeq (wIfS (wBl (wOp dIs (wVar 12) (wCst .non))) (wSeq (wAsg (wCst (.str "bad")) (gNm 12))
  wNext) wNext)
  (wSeq (wIfS (wNotB (wTru (wCall (sp_meets_l 6) (wCons (wCall sp_told_l (wCons (wVar 10) (wCons (wVar 11) wNil))) (wCons (wVar 12) wNil))))) (wSeq (wRet (wCst (.bl false)))
  wNext) wNext)
  wNext))))
  wNext)))
  (wSeq (wAsg (wOp dIx (wLst (wCons (wCst .non) (wCons (wCst (.int 7)) (wCons (wVar 6) (wCons (wTup (wCons (wVar 7) wNil)) (wCons (wCst (.bl true)) (wCons (wLst (wCons (wVar 7) wNil)) wNil))))))) (wCall sp_draw_l (wCons (wVar 1) (wCons (wCst (.int 6)) wNil)))) (gNm 9))
  (wSeq (wIfS (wNotB (wTru (wCall (sp_meets_l 6) (wCons (wCall sp_told_l (wCons (wVar 9) (wCons (wOp dEq (wCall sp_draw_l (wCons (wVar 1) (wCons (wCst (.int 2)) wNil))) (wCst (.int 0))) wNil))) (wCons (wCst (.str "bad")) wNil))))) (wSeq (wRet (wCst (.bl false)))
  wNext) wNext)
  wNext))))))))))))
  w_law_4)
def w_law_2 : WS :=
  (wSeq (wIfS (wNotB (wTru (wCall sp_are_integers_read_l (wCons (wVar 1) (wCons (wVar 2) wNil))))) (wSeq (wRet (wCst (.bl false)))
  wNext) wNext)
  w_law_3)
def w_law_1 : WS :=
  (wSeq (wAsg (wCall sp_names_l (wCons (wVar 1) (wCons (wCst (.int 4)) wNil))) (gNm 2))
  w_law_2)
def w_law : WS :=
  (wSeq (wAsg (wCall sp_bag_l (wCons (wVar 0) wNil)) (gNm 1))
  w_law_1)
def sp_law : SpD := spW ["_law_script", "_law_bag_here", "_law_names_here", "_law_turn", "_law_is_step", "_law_shapes", "_law_thing_here", "_law_text", "_law_way", "_law_odd", "_law_other", "_law_kind", "_law_due"] 1 w_law
theorem k_law {U : Ud} (F : Fct hd U) : JSs U 8 ⟨["_law_script", "_law_bag_here", "_law_names_here", "_law_turn", "_law_is_step", "_law_shapes", "_law_thing_here", "_law_text", "_law_way", "_law_odd", "_law_other", "_law_kind", "_law_due"], d_law.scope, fun _ => true, false, none, true⟩ d_law.body w_law :=
  (s_cons (m_set 1 (by decide +kernel) (m_call (h_bag_l F) (by decide) (by decide +kernel) (m_acons (m_var 0 (by decide +kernel)) a_nil (by decide +kernel))))
  (s_cons (m_set 2 (by decide +kernel) (m_call (h_names_l F) (by decide) (by decide +kernel) (m_acons (m_var 1 (by decide +kernel)) (m_acons n_int a_nil (by decide +kernel)) (by decide +kernel))))
  (s_cons (s_if (t_not (t_val (m_call (h_are_integers_read_l F) (by decide) (by decide +kernel) (m_acons (m_var 1 (by decide +kernel)) (m_acons (m_var 2 (by decide +kernel)) a_nil (by decide +kernel)) (by decide +kernel))) (fun _ _ => rfl))) (s_cons (s_ret n_bl)
  s_nil) s_nil)
  (s_cons (m_for (by decide +kernel) (m_rng1 (F.free 32 rfl) (by decide +kernel) (m_acons n_int a_nil (by decide +kernel))) (m_gnm 3 (by decide +kernel) (fun _ _ => trivial)) (s_cons (m_set 4 (by decide +kernel) (n_cmp c_eq (m_call (h_draw_l F) (by decide) (by decide +kernel) (m_acons (m_var 1 (by decide +kernel)) (m_acons n_int a_nil (by decide +kernel)) (by decide +kernel))) n_int (by decide +kernel)))
  (s_cons (m_set 5 (by decide +kernel) (n_ix (n_lst (m_acons (m_call0 (h_claim_shapes_l F) (by decide) (by decide +kernel)) (m_acons (m_call0 (h_step_shapes_l F) (by decide) (by decide +kernel)) a_nil (by decide +kernel)) (by decide +kernel))) (m_bty f_int (F.free 13 rfl) (by decide +kernel) (m_acons (m_var 4 (by decide +kernel)) a_nil (by decide +kernel))) (fun _ _ => rfl)))
  (s_cons (m_set 6 (by decide +kernel) (m_call (h_thing_l F) (by decide) (by decide +kernel) (m_acons (m_var 1 (by decide +kernel)) (m_acons (m_var 2 (by decide +kernel)) (m_acons (m_var 5 (by decide +kernel)) (m_acons n_bl a_nil (by decide +kernel)) (by decide +kernel)) (by decide +kernel)) (by decide +kernel))))
  (s_cons (m_set 7 (by decide +kernel) (m_call (h_line_l F) (by decide) (by decide +kernel) (m_acons (m_var 6 (by decide +kernel)) a_nil (by decide +kernel))))
  (s_cons (s_if (t_w (w_and (t_val (m_var 4 (by decide +kernel)) (fun _ _ => rfl)) (w_and1 (t_not (t_val (m_call (h_meets_l F 6) (by decide) (by decide +kernel) (m_acons (m_callK0 (hk_step_text_0_step F) (by decide) (by decide +kernel) (k_cons (m_var 6 (by decide +kernel)) k_nil)) (m_acons (m_var 7 (by decide +kernel)) a_nil (by decide +kernel)) (by decide +kernel))) (fun _ _ => rfl)))))) (s_cons (s_ret n_bl)
  s_nil) s_nil)
  (s_cons (s_if (t_w (w_and (t_not (t_val (m_var 4 (by decide +kernel)) (fun _ _ => rfl))) (w_and1 (t_not (t_val (m_call (h_meets_l F 6) (by decide) (by decide +kernel) (m_acons (m_callK0 (hk_claim_text_0_claim F) (by decide) (by decide +kernel) (k_cons (m_var 6 (by decide +kernel)) k_nil)) (m_acons (m_var 7 (by decide +kernel)) a_nil (by decide +kernel)) (by decide +kernel))) (fun _ _ => rfl)))))) (s_cons (s_ret n_bl)
  s_nil) s_nil)
  (s_cons (s_if (t_cmp c_eq (m_call (h_draw_l F) (by decide) (by decide +kernel) (m_acons (m_var 1 (by decide +kernel)) (m_acons n_int a_nil (by decide +kernel)) (by decide +kernel))) n_int (by decide +kernel)) (s_cons (m_set 6 (by decide +kernel) (m_call (h_thing_l F) (by decide) (by decide +kernel) (m_acons (m_var 1 (by decide +kernel)) (m_acons (m_var 2 (by decide +kernel)) (m_acons (m_var 5 (by decide +kernel)) (m_acons n_bl a_nil (by decide +kernel)) (by decide +kernel)) (by decide +kernel)) (by decide +kernel))))
  (s_cons (m_set 7 (by decide +kernel) (m_call (h_line_l F) (by decide) (by decide +kernel) (m_acons (m_var 6 (by decide +kernel)) a_nil (by decide +kernel))))
  s_nil)) s_nil)
  (s_cons (s_if (t_w (w_or (t_not (t_val (m_call (h_meets_l F 6) (by decide) (by decide +kernel) (m_acons (m_call (h_told_l F) (by decide) (by decide +kernel) (m_acons (m_var 7 (by decide +kernel)) (m_acons (m_var 4 (by decide +kernel)) a_nil (by decide +kernel)) (by decide +kernel))) (m_acons (m_var 6 (by decide +kernel)) a_nil (by decide +kernel)) (by decide +kernel))) (fun _ _ => rfl))) (w_or1 (t_not (t_val (m_call (h_meets_l F 6) (by decide) (by decide +kernel) (m_acons (m_call (h_told_l F) (by decide) (by decide +kernel) (m_acons (m_var 7 (by decide +kernel)) (m_acons (n_not (m_var 4 (by decide +kernel))) a_nil (by decide +kernel)) (by decide +kernel))) (m_acons n_str a_nil (by decide +kernel)) (by decide +kernel))) (fun _ _ => rfl)))))) (s_cons (s_ret n_bl)
  s_nil) s_nil)
  (s_cons (m_for (by decide +kernel) (m_rng1 (F.free 32 rfl) (by decide +kernel) (m_acons n_int a_nil (by decide +kernel))) (m_gnm 8 (by decide +kernel) (fun _ _ => trivial)) (s_cons (m_set 10 (by decide +kernel) (m_call (h_spoilt_l F) (by decide) (by decide +kernel) (m_acons (m_var 1 (by decide +kernel)) (m_acons (m_var 7 (by decide +kernel)) a_nil (by decide +kernel)) (by decide +kernel))))
  (s_cons (m_for (by decide +kernel) (m_wk (n_lst (m_acons n_bl (m_acons n_bl a_nil (by decide +kernel)) (by decide +kernel)))) (m_gnm 11 (by decide +kernel) (fun _ _ => trivial)) (s_cons (m_set 12 (by decide +kernel) (m_call (h_formed_l F) (by decide) (by decide +kernel) (m_acons (m_var 10 (by decide +kernel)) (m_acons (n_ix (n_lst (m_acons (m_call0 (h_claim_shapes_l F) (by decide) (by decide +kernel)) (m_acons (m_call0 (h_step_shapes_l F) (by decide) (by decide +kernel)) a_nil (by decide +kernel)) (by decide +kernel))) (m_bty f_int (F.free 13 rfl) (by decide +kernel) (m_acons (m_var 11 (by decide +kernel)) a_nil (by decide +kernel))) (fun _ _ => rfl)) a_nil (by decide +kernel)) (by decide +kernel))))
  (s_cons (s_if (t_cmp c_is (m_var 12 (by decide +kernel)) n_non (by decide +kernel)) (s_cons (m_set 12 (by decide +kernel) n_str)
  s_nil) s_nil)
  (s_cons (s_if (t_not (t_val (m_call (h_meets_l F 6) (by decide) (by decide +kernel) (m_acons (m_call (h_told_l F) (by decide) (by decide +kernel) (m_acons (m_var 10 (by decide +kernel)) (m_acons (m_var 11 (by decide +kernel)) a_nil (by decide +kernel)) (by decide +kernel))) (m_acons (m_var 12 (by decide +kernel)) a_nil (by decide +kernel)) (by decide +kernel))) (fun _ _ => rfl))) (s_cons (s_ret n_bl)
  s_nil) s_nil)
  s_nil))))
  s_nil)))
  (s_cons (m_set 9 (by decide +kernel) (n_ix (n_lst (m_acons n_non (m_acons n_int (m_acons (m_var 6 (by decide +kernel)) (m_acons (n_tup (m_acons (m_var 7 (by decide +kernel)) a_nil (by decide +kernel))) (m_acons n_bl (m_acons (n_lst (m_acons (m_var 7 (by decide +kernel)) a_nil (by decide +kernel))) a_nil (by decide +kernel)) (by decide +kernel)) (by decide +kernel)) (by decide +kernel)) (by decide +kernel)) (by decide +kernel))) (m_call (h_draw_l F) (by decide) (by decide +kernel) (m_acons (m_var 1 (by decide +kernel)) (m_acons n_int a_nil (by decide +kernel)) (by decide +kernel))) (fun _ _ => rfl)))
  (s_cons (s_if (t_not (t_val (m_call (h_meets_l F 6) (by decide) (by decide +kernel) (m_acons (m_call (h_told_l F) (by decide) (by decide +kernel) (m_acons (m_var 9 (by decide +kernel)) (m_acons (n_cmp c_eq (m_call (h_draw_l F) (by decide) (by decide +kernel) (m_acons (m_var 1 (by decide +kernel)) (m_acons n_int a_nil (by decide +kernel)) (by decide +kernel))) n_int (by decide +kernel)) a_nil (by decide +kernel)) (by decide +kernel))) (m_acons n_str a_nil (by decide +kernel)) (by decide +kernel))) (fun _ _ => rfl))) (s_cons (s_ret n_bl)
  s_nil) s_nil)
  s_nil))))))))))))
  (s_cons (s_ret n_bl)
  s_nil)))))
theorem h_law {U : Ud} (F : Fct hd U) : FnHas U.P U.w U.K U.mg U.base 9 "law" sp_law := F.fn (N := ["_law_script", "_law_bag_here", "_law_names_here", "_law_turn", "_law_is_step", "_law_shapes", "_law_thing_here", "_law_text", "_law_way", "_law_odd", "_law_other", "_law_kind", "_law_due"]) (ps := ["_law_script"]) 25 50 rfl rfl ⟨rfl, rfl⟩ rfl ⟨rfl, rfl, rfl, by decide +kernel, rfl, by decide +kernel, by decide +kernel⟩ (fun _ _ _ _ _ _ us hl => match us, hl with | [_], _ => rfl) (k_law F)
end FgL
/-! Z1: the bag of draws (k41). -/
namespace FgL
open PySem PySem.Spec L2 Fg
open PyProof.Rows hiding St
theorem at_lt {ds : List D} {i : Int} {d : D} (h0 : 0 ≤ i) (h : ds[i.toNat]? = some d) : atI ds i = some d := by
  have hl : i.toNat < ds.length := (List.getElem?_eq_some_iff.mp h).1
  unfold atI ixN
  rw [if_pos h0, if_pos (by omega)]
  exact h
theorem ixL {M : MM} {q : Addr} {ds : List D} {i : Int} {d : D} {Q : QD} (h : M q = some (.lst ds)) (ha : atI ds i = some d) (k : Q d M) : dIx (.ref q) (.int i) M Q := by
  unfold dIx
  simp only [h]
  exact ⟨i, d, rfl, ha, k⟩
theorem stL {M : MM} {q : Addr} {ds : List D} {i : Nat} {d : D} {Q : MM → Prop} (h : M q = some (.lst ds)) (hi : i < ds.length) (k : Q (Fg.up M q (.lst (ds.set i d)))) : dSetI (.ref q) (.int (i : Int)) d M Q := by
  unfold dSetI
  simp only [h]
  exact ⟨i, i, rfl, by unfold ixN; rw [if_pos (by omega), if_pos (by omega), Int.toNat_natCast], k⟩
theorem small_mul {i j : Int} (h : i.natAbs < 2 ^ 64) (h2 : j.natAbs < 2 ^ 64) : CMulW i j := mul_ok (low h) (low h2)
theorem upTo_at {n i : Nat} {x : D} (h : (Fg.upTo 0 n)[i]? = some x) : i < n ∧ x = .int (0 + (i : Int)) := by
  unfold Fg.upTo at h
  rw [List.getElem?_map] at h
  obtain ⟨j, hj, rfl⟩ := Option.map_eq_some_iff.mp h
  obtain ⟨h1, h2⟩ := List.getElem?_eq_some_iff.mp hj
  rw [List.getElem_range] at h2
  rw [List.length_range] at h1
  subst h2
  exact ⟨h1, rfl⟩
theorem upTo_len (n : Nat) : (Fg.upTo 0 n).length = n := by simp [Fg.upTo]
/-- the bag at p, B draws and more to come -/
def BG (M : MM) (p g c : Addr) (B : Nat) : Prop := ∃ (a v l : Int) (gs cs : List Int), M p = some (.lst [.int a, .int v, .ref g, .ref c, .int l]) ∧ M g = some (.lst (gs.map D.int)) ∧ M c = some (.lst (cs.map D.int)) ∧ g ≠ p ∧ c ≠ p ∧ g ≠ c ∧
  0 ≤ a ∧ a + B ≤ 2 ^ 60 ∧ 0 ≤ v ∧ (∀ x ∈ gs, 0 ≤ x) ∧ cs ≠ [] ∧ cs.length ≤ 64 ∧ (∀ x ∈ cs, 0 ≤ x ∧ x < 2147483647)
/-- what was there stays but for the bag and its row -/
def Ex2 (p g : Addr) (M M' : MM) : Prop := ∀ x o, x ≠ p → x ≠ g → M x = some o → M' x = some o
theorem Ex2.refl {p g : Addr} {M : MM} : Ex2 p g M M := fun _ _ _ _ h => h
theorem Ex2.trans {p g : Addr} {M M1 M2 : MM} (a : Ex2 p g M M1) (b : Ex2 p g M1 M2) : Ex2 p g M M2 := fun x o h k e => b x o h k (a x o h k e)
theorem Ex2.of {p g : Addr} {M M' : MM} (e : Ext M M') : Ex2 p g M M' := fun x o _ _ h => e x o h
theorem Ex2.ext {p g : Addr} {M M1 M2 : MM} (a : Ex2 p g M M1) (b : Ext M1 M2) : Ex2 p g M M2 := a.trans (.of b)
theorem Ex2.at {p g q : Addr} {M M' : MM} (f : Ex2 p g M M') (h : q ≠ p) (k : q ≠ g) {o : MO} (e : M q = some o) : M' q = some o := f q o h k e
theorem Ex2.upP {p g : Addr} {M M' : MM} {o : MO} (f : Ex2 p g M M') : Ex2 p g M (Fg.up M' p o) := fun x u h k e => by rw [up_ne h]; exact f x u h k e
theorem Ex2.upG {p g : Addr} {M M' : MM} {o : MO} (f : Ex2 p g M M') : Ex2 p g M (Fg.up M' g o) := fun x u h k e => by rw [up_ne k]; exact f x u h k e
theorem Ex2.upd {p g q : Addr} {M M' : MM} {o : MO} (h : M q = none) (e : Ex2 p g M M') : Ex2 p g M (Fg.up M' q o) := fun x u hn hk w => by rw [up_ne (fun z => by rw [z, h] at w; cases w)]; exact e x u hn hk w
theorem BG.less {M : MM} {p g c : Addr} {B B' : Nat} (h : BG M p g c B) (hb : B' ≤ B) : BG M p g c B' := by
  obtain ⟨a, v, l, gs, cs, h1, h2, h3, h4, h5, h6, h7, h8, h9⟩ := h
  exact ⟨a, v, l, gs, cs, h1, h2, h3, h4, h5, h6, h7, by omega, h9⟩
theorem BG.ext {M M' : MM} {p g c : Addr} {B : Nat} (h : BG M p g c B) (e : Ext M M') : BG M' p g c B := by
  obtain ⟨a, v, l, gs, cs, h1, h2, h3, h4⟩ := h
  exact ⟨a, v, l, gs, cs, e _ _ h1, e _ _ h2, e _ _ h3, h4⟩
theorem BG.ne {M : MM} {p g c r : Addr} {B : Nat} (h : BG M p g c B) (hr : M r = none) : r ≠ p ∧ r ≠ g ∧ r ≠ c := by
  obtain ⟨a, v, l, gs, cs, h1, h2, h3, _⟩ := h
  exact ⟨fun z => (by rw [z, h1] at hr; cases hr), fun z => (by rw [z, h2] at hr; cases hr), fun z => (by rw [z, h3] at hr; cases hr)⟩
theorem BG.upd {M : MM} {p g c r : Addr} {B : Nat} {o : MO} (h : BG M p g c B) (hr : r ≠ p ∧ r ≠ g ∧ r ≠ c) : BG (Fg.up M r o) p g c B := by
  obtain ⟨a, v, l, gs, cs, h1, h2, h3, h4⟩ := h
  exact ⟨a, v, l, gs, cs, by rw [up_ne (Ne.symm hr.1)]; exact h1, by rw [up_ne (Ne.symm hr.2.1)]; exact h2, by rw [up_ne (Ne.symm hr.2.2)]; exact h3, h4⟩
theorem BG.new {M : MM} {p g c r : Addr} {B : Nat} {o : MO} (h : BG M p g c B) (hr : M r = none) : BG (Fg.up M r o) p g c B := h.upd (h.ne hr)
theorem p_draw {M : MM} {p g c : Addr} {m : Int} {B : Nat} {Q : QD} {E : QX} (h : BG M p g c (B + 1)) (m1 : 1 ≤ m) (hm : m.natAbs.log2 < 9000) (k : ∀ r M', 0 ≤ r → r < m → BG M' p g c B → Ex2 p g M M' → Q (.int r) M') : sp_draw_l [.ref p, .int m] M Q E := by
  refine ⟨rfl, ?_⟩
  show w_draw_l [some (.ref p), some (.int m), none, none, none] M _ _
  have cdm : ∀ z : Int, CDivW z m := fun z => ⟨by omega, hm⟩
  have lt : ∀ z : Int, 0 ≤ z % m ∧ z % m < m := fun z => ⟨Int.emod_nonneg _ (by omega), Int.emod_lt_of_pos _ (by omega)⟩
  obtain ⟨a, v, l, gs, cs, hp, hg, hc, gp, cp, gc, a0, aB, v0, gs0, cs0, csl, csb⟩ := h
  have hB : ((B + 1 : Nat) : Int) = B + 1 := by omega
  (unfold w_draw_l; obtain ⟨Tl, hTl⟩ : ∃ x, x = w_draw_l_1 := ⟨_, rfl⟩; rw [← hTl]; simp only [wSeq, wAsg, wDrop, wRet, wRetN, wNext, wIfS, wBl, Fg.wTru, wOp, wUn, wCl, wCons, wNil, wVar, wCst, wTup, wLst, gNm, wCall, List.set_cons_zero, List.set_cons_succ, List.getElem?_cons_zero, List.getElem?_cons_succ, gSubD]; subst hTl)
  refine ixL hp (at_lt (by decide) rfl) ?_
  simp only [dAdd]
  refine stL (i := 0) hp (by simp) ?_
  have x1 : Ex2 p g M (Fg.up M p (.lst (List.set [D.int a, .int v, .ref g, .ref c, .int l] 0 (.int (a + 1))))) := Ex2.refl.upP
  have e1 : Fg.up M p (.lst (List.set [D.int a, .int v, .ref g, .ref c, .int l] 0 (.int (a + 1)))) p = some (.lst [.int (a + 1), .int v, .ref g, .ref c, .int l]) := up_same
  have g1 : Fg.up M p (.lst (List.set [D.int a, .int v, .ref g, .ref c, .int l] 0 (.int (a + 1)))) g = some (.lst (gs.map D.int)) := by rw [up_ne gp]; exact hg
  have c1 : Fg.up M p (.lst (List.set [D.int a, .int v, .ref g, .ref c, .int l] 0 (.int (a + 1)))) c = some (.lst (cs.map D.int)) := by rw [up_ne cp]; exact hc
  generalize Fg.up M p (.lst (List.set [D.int a, .int v, .ref g, .ref c, .int l] 0 (.int (a + 1)))) = M1 at x1 e1 g1 c1 ⊢
  -- behind the row's pop
  have rest : ∀ (M2 : MM) (v l : Int) (gs : List Int), M2 p = some (.lst [.int (a + 1), .int v, .ref g, .ref c, .int l]) → M2 g = some (.lst (gs.map D.int)) → M2 c = some (.lst (cs.map D.int)) → Ex2 p g M M2 → 0 ≤ v → (∀ x ∈ gs, 0 ≤ x) →
      w_draw_l_2 [some (.ref p), some (.int m), none, none, none] M2 { nx := fun _ M' => Q .non M', rt := Q } (fun x _ M' => E x M') := fun M2 v l gs e2 g2 c2 x2 v0 gs0 => by
    have st : ∀ (M3 : MM) (v l : Int), M3 p = some (.lst [.int (a + 1), .int v, .ref g, .ref c, .int l]) → M3 g = some (.lst (gs.map D.int)) → M3 c = some (.lst (cs.map D.int)) → 0 ≤ v → BG M3 p g c B := fun M3 v l q1 q2 q3 q4 => ⟨a + 1, v, l, gs, cs, q1, q2, q3, gp, cp, gc, by omega, by omega, q4, gs0, cs0, csl, csb⟩
    (unfold w_draw_l_2; obtain ⟨Tl, hTl⟩ : ∃ x, x = w_draw_l_3 := ⟨_, rfl⟩; rw [← hTl]; simp only [wSeq, wAsg, wDrop, wRet, wRetN, wNext, wIfS, wBl, Fg.wTru, wOp, wUn, wCl, wCons, wNil, wVar, wCst, wTup, wLst, gNm, wCall, List.set_cons_zero, List.set_cons_succ, List.getElem?_cons_zero, List.getElem?_cons_succ, dGt, dOrd, gSubD]; subst hTl)
    refine ixL e2 (at_lt (by decide) rfl) ?_
    by_cases c0 : 0 < v
    · simp only [c0, decide_true, if_true]
      refine ixL e2 (at_lt (by decide) rfl) ?_
      simp only [cInt, dMod]
      refine ⟨by omega, ?_⟩
      refine ixL e2 (at_lt (by decide) rfl) ?_
      simp only [dSub]
      refine stL (i := 4) e2 (by simp) ?_
      have e3 : Fg.up M2 p (.lst (List.set [D.int (a + 1), .int v, .ref g, .ref c, .int l] 4 (.int (l - 1)))) p = some (.lst [.int (a + 1), .int v, .ref g, .ref c, .int (l - 1)]) := up_same
      refine ixL e3 (at_lt (by decide) rfl) ?_
      simp only [dDiv]
      refine ⟨cdm v, ?_⟩
      refine ixL e3 (at_lt (by decide) rfl) ?_
      have hb : ∀ b : Bool, ((if b = true then 1 else 0 : Int) = 1 ∨ (if b = true then 1 else 0 : Int) = 0) := fun b => by cases b <;> simp
      have hb1 := hb (decide (0 < l - 1))
      simp only [cInt, dMulS]
      generalize (if decide (0 < l - 1) = true then 1 else 0 : Int) = y at hb1 ⊢
      have vd : 0 ≤ v / m := Int.ediv_nonneg v0 (by omega)
      have vy : 0 ≤ v / m * y := by rcases hb1 with rfl | rfl <;> omega
      refine ⟨.inr (by rcases hb1 with rfl | rfl <;> decide), ?_⟩
      refine stL (i := 1) e3 (by simp) ?_
      rw [up_up]
      refine k _ _ (lt v).1 (lt v).2 (st _ (v / m * y) (l - 1) up_same (by rw [up_ne gp]; exact g2) (by rw [up_ne cp]; exact c2) vy) x2.upP
    · simp only [c0, decide_false, Bool.false_eq_true, if_false]
      have hcl : 1 ≤ cs.length := List.length_pos_iff.mpr cs0
      (unfold w_draw_l_3; obtain ⟨Tl, hTl⟩ : ∃ x, x = w_draw_l_4 := ⟨_, rfl⟩; rw [← hTl]; simp only [wSeq, wAsg, wDrop, wRet, wRetN, wNext, wIfS, wBl, Fg.wTru, wOp, wUn, wCl, wCons, wNil, wVar, wCst, wTup, wLst, gNm, wCall, List.set_cons_zero, List.set_cons_succ, List.getElem?_cons_zero, List.getElem?_cons_succ, cInt, cLen]; subst hTl)
      refine ixL e2 (at_lt (by decide) rfl) ?_
      refine ixL e2 (at_lt (by decide) rfl) ?_
      refine ixL e2 (at_lt (by decide) rfl) ?_
      refine ⟨_, cs.length, rfl, by unfold lenD; simp only [c2, List.length_map], ?_⟩
      simp only [dMod]
      refine ⟨by omega, ?_⟩
      have i0 := Int.emod_nonneg (a + 1) (show (cs.length : Int) ≠ 0 by omega)
      have i1 := Int.emod_lt_of_pos (a + 1) (show (0 : Int) < (cs.length : Int) by omega)
      generalize (a + 1) % (cs.length : Int) = ix at i0 i1 ⊢
      have hix : ix.toNat < cs.length := by omega
      have hz := csb cs[ix.toNat] (List.getElem_mem hix)
      refine ixL c2 (d := .int cs[ix.toNat]) (at_lt i0 (by rw [List.getElem?_map, List.getElem?_eq_getElem hix]; rfl)) ?_
      generalize cs[ix.toNat] = z at hz ⊢
      (unfold w_draw_l_4; obtain ⟨Tl, hTl⟩ : ∃ x, x = w_draw_l_5 := ⟨_, rfl⟩; rw [← hTl]; simp only [wSeq, wAsg, wDrop, wRet, wRetN, wNext, wIfS, wBl, Fg.wTru, wOp, wUn, wCl, wCons, wNil, wVar, wCst, wTup, wLst, gNm, wCall, List.set_cons_zero, List.set_cons_succ, List.getElem?_cons_zero, List.getElem?_cons_succ, dMul]; subst hTl)
      refine ⟨small_mul (by omega) (by decide), ?_⟩
      refine ixL e2 (at_lt (by decide) rfl) ?_
      simp only [dAdd, cInt, dMod]
      refine ⟨small_mul (by omega) (by decide), by decide, ?_⟩
      have y0 := Int.emod_nonneg (z * 48271 + (a + 1) * 69621 + 1) (show (2147483647 : Int) ≠ 0 by decide)
      have y1 := Int.emod_lt_of_pos (z * 48271 + (a + 1) * 69621 + 1) (show (0 : Int) < 2147483647 by decide)
      generalize (z * 48271 + (a + 1) * 69621 + 1) % 2147483647 = y at y0 y1 ⊢
      simp only [w_draw_l_5, wSeq, wAsg, wDrop, wRet, wRetN, wNext, wIfS, wBl, Fg.wTru, wOp, wUn, wCl, wCons, wNil, wVar, wCst, wTup, wLst, gNm, wCall, List.set_cons_zero, List.set_cons_succ, List.getElem?_cons_zero, List.getElem?_cons_succ, dMul]
      refine ⟨small_mul (by omega) (by omega), small_mul (by omega) (by decide), ?_⟩
      simp only [dAdd]
      refine ixL e2 (at_lt (by decide) rfl) ?_
      refine ⟨small_mul (by omega) (by decide), ?_⟩
      simp only [cInt, dMod, dDiv]
      refine ⟨by decide, ⟨by decide, by decide⟩, by omega, ?_⟩
      exact k _ _ (lt _).1 (lt _).2 (st _ v l e2 g2 c2 v0) x2
  (unfold w_draw_l_1; obtain ⟨Tl, hTl⟩ : ∃ x, x = w_draw_l_2 := ⟨_, rfl⟩; rw [← hTl]; simp only [wSeq, wAsg, wDrop, wRet, wRetN, wNext, wIfS, wBl, Fg.wTru, wOp, wUn, wCl, wCons, wNil, wVar, wCst, wTup, wLst, gNm, wCall, List.set_cons_zero, List.set_cons_succ, List.getElem?_cons_zero, List.getElem?_cons_succ, wAndB, cLen, dGt, dOrd, gSubD, wBm]; subst hTl)
  refine ixL e1 (at_lt (by decide) rfl) ?_
  simp only [dEq]
  by_cases c0 : v = 0
  · simp only [c0, decide_true, if_true]
    subst c0
    refine ixL e1 (at_lt (by decide) rfl) ?_
    refine ⟨_, gs.length, rfl, by unfold lenD; simp only [g1, List.length_map], ?_⟩
    by_cases c2 : (0 : Int) < (gs.length : Int)
    · simp only [c2, decide_true, if_true]
      refine ixL e1 (at_lt (by decide) rfl) ?_
      refine ⟨by unfold tyR; simp only [g1], ?_⟩
      have hgl : gs ≠ [] := fun e => by rw [e] at c2; simp at c2
      have hlast : (gs.map D.int)[(gs.map D.int).length - 1]? = some (.int (gs.getLast hgl)) := by
        rw [List.length_map, List.getElem?_map, ← List.getLast?_eq_getElem?, List.getLast?_eq_some_getLast hgl]; rfl
      refine ⟨g, _, _, rfl, rfl, g1, hlast, ?_⟩
      have ep : Fg.up M1 g (.lst (gs.map D.int).dropLast) p = some (.lst [.int (a + 1), .int 0, .ref g, .ref c, .int l]) := by rw [up_ne (Ne.symm gp)]; exact e1
      refine stL (i := 1) ep (by simp) ?_
      refine stL (i := 4) up_same (by simp) ?_
      rw [up_up]
      refine rest _ (gs.getLast hgl) 60 gs.dropLast up_same ?_ ?_ (x1.upG.upP) (gs0 _ (List.getLast_mem hgl)) fun x hx => gs0 x ((List.dropLast_sublist gs).subset hx)
      · rw [up_ne gp, up_same, List.map_dropLast]
      · rw [up_ne cp, up_ne (Ne.symm gc)]; exact c1
    · simp only [c2, decide_false, Bool.false_eq_true, if_false]
      exact rest M1 0 l gs e1 g1 c1 x1 v0 gs0
  · simp only [c0, decide_false, Bool.false_eq_true, if_false]
    exact rest M1 v l gs e1 g1 c1 x1 v0 gs0
end FgL
/-! Z2: the bag made; the names. -/
namespace FgL
open PySem PySem.Spec L2 Fg
open PyProof.Rows hiding St
theorem walk_lst {M : MM} {p : Addr} {ds : List D} (h : M p = some (.lst ds)) : ∃ st, walkD M (.ref p) = some (ds, st) ∧ (∀ M', M' p = some (.lst ds) → st M') :=
  ⟨fun M' => M' p = some (.lst ds), by unfold walkD; simp only [h], fun M' e => e⟩
/-! ### texts as rows of signs -/
def S (l : List Nat) : Str := ⟨l.toArray⟩
theorem S_cps (l : List Nat) : (S l).cps.toList = l := by unfold S; simp
theorem S_app (a b : List Nat) : S a ++ S b = S (a ++ b) := by
  show (⟨a.toArray ++ b.toArray⟩ : Str) = ⟨(a ++ b).toArray⟩
  simp
theorem S_len (l : List Nat) : (S l).length = l.length := by show l.toArray.size = _; simp
theorem S_one (c : Nat) : (⟨#[c]⟩ : Str) = S [c] := rfl
theorem S_of (s : Str) : S s.cps.toList = s := by
  obtain ⟨a⟩ := s
  show (⟨a.toList.toArray⟩ : Str) = ⟨a⟩
  simp
/-- one to four small letters -/
structure NmL (l : List Nat) : Prop where
  l1 : 1 ≤ l.length
  l4 : l.length ≤ 4
  az : ∀ c ∈ l, 97 ≤ c ∧ c ≤ 122
abbrev abc : Str := Str.ofString "abcdefghijklmnopqrstuvwxyz"
theorem abc_cps : abc.cps.toList = List.range' 97 26 := by decide +kernel
theorem abc_len : abc.length = 26 ∧ abc.cps.size = 26 := by decide +kernel
theorem abc_at {i : Int} (h0 : 0 ≤ i) (h1 : i < 26) : atI abc.cps.toList i = some (97 + i.toNat) := by
  rw [abc_cps]
  unfold atI ixN
  rw [if_pos h0, if_pos (by rw [List.length_range']; omega)]
  show (List.range' 97 26)[i.toNat]? = _
  rw [List.getElem?_range' (by omega)]
  simp
theorem ixAbc {M : MM} {i : Int} {Q : QD} (h0 : 0 ≤ i) (h1 : i < 26) (k : Q (.str (S [97 + i.toNat])) M) : dIx (.str abc) (.int i) M Q := ⟨i, _, rfl, by rw [abc_len.1, sizeLine_eq]; decide, abc_at h0 h1, k⟩
/-- a comprehension that may change what is there, each item taken -/
theorem lc_J {stay : MM → Prop} {p : Addr} {ρ0 : En} {g : WG} {te : WE} {K : MM → Prop} (J : Nat → List D → MM → Prop) (hst : ∀ i acc M, J i acc M → stay M ∧ M p = some (.lst acc)) : ∀ (ds : List D) (i : Nat) (acc : List D) (M : MM),
    J i acc M → acc.length + ds.length ≤ sizeLine →
    (∀ (j : Nat) (d : D), ds[j]? = some d → ∀ acc M, J (i + j) acc M → ∀ K1 : QD, (∀ y M3, M3 p = some (.lst acc) → J (i + j + 1) (acc ++ [y]) (Fg.up M3 p (.lst (acc ++ [y]))) → K1 y M3) → g d ρ0 M (fun ρ1 M1 => te ρ1 M1 K1 noX) noX) →
    (∀ acc M, J (i + ds.length) acc M → K M) → lcD stay p ρ0 g wYes te ds acc M K
  | [], i, acc, M, h, _, _, hk => ⟨(hst i acc M h).1, (hst i acc M h).2, hk acc M (by simpa using h)⟩
  | d :: ds, i, acc, M, h, hz, hs, hk => by
    rw [List.length_cons] at hz
    refine ⟨(hst i acc M h).1, ?_⟩
    refine hs 0 d rfl acc M h _ fun y M3 e j => ⟨e, by omega, ?_⟩
    refine lc_J J hst ds (i + 1) (acc ++ [y]) _ j (by rw [List.length_append, List.length_singleton]; omega) (fun n d' hd acc' M' j' K1 k1 => ?_) fun acc' M' j' => hk acc' M' (by rw [List.length_cons, show i + (ds.length + 1) = i + 1 + ds.length by omega]; exact j')
    have e1 : i + 1 + n = i + (n + 1) := by omega
    rw [e1] at j'
    refine hs (n + 1) d' (by simpa using hd) acc' M' j' K1 fun y' M3' e' j3 => k1 y' M3' e' (by rw [e1]; exact j3)
theorem cp18 : CPow 10 18 ∧ CPow 10 9 := by unfold CPow; decide
theorem p_bag {M : MM} {ns : List Int} {Q : QD} {E : QX} (hl : ns.length ≤ 63) (k : ∀ p g c M', M p = none → M g = none → BG M' p g c (2 ^ 59) → Ext M M' → Q (.ref p) M') : sp_bag_l [script ns] M Q E := by
  refine ⟨rfl, ?_⟩
  show w_bag_l [some (script ns), none, none, none] M _ _
  have z5 : 1 ≤ sizeLine ∧ 5 ≤ sizeLine := by rw [sizeLine_eq]; decide
  (unfold w_bag_l; obtain ⟨Tl, hTl⟩ : ∃ x, x = w_bag_l_1 := ⟨_, rfl⟩; rw [← hTl]; simp only [wSeq, wAsg, wDrop, wRet, wRetN, wNext, wIfS, wBl, Fg.wTru, wOp, wUn, wCl, wCons, wNil, wVar, wCst, wTup, wLst, gNm, wCall, List.set_cons_zero, List.set_cons_succ, List.getElem?_cons_zero, List.getElem?_cons_succ, wLc, wWk]; subst hTl)
  refine ⟨ns.map D.int, fun _ => True, rfl, fun a ha => ?_⟩
  refine lc_map (xs := ns) ha D.int D.int (fun _ => true) (fun _ _ => trivial) (by rw [sizeLine_eq]; omega) (fun x hx M1 x1 K1 K0 k1 k0 => ?_) fun M1 x1 e1 => ?_
  · simp only [wipeD, wSeq, wAsg, wDrop, wRet, wRetN, wNext, wIfS, wBl, Fg.wTru, wOp, wUn, wCl, wCons, wNil, wVar, wCst, wTup, wLst, gNm, wCall, List.set_cons_zero, List.set_cons_succ, List.getElem?_cons_zero, List.getElem?_cons_succ, wYes, if_true, cInt]
    exact k1 rfl M1 (Ext.refl _)
  rw [List.filter_eq_self.mpr fun _ _ => rfl] at e1
  simp only [List.length_cons, List.length_nil, Nat.zero_add, Nat.reduceAdd, z5, true_and]
  intro b hb
  have x2 : Ext M (Fg.up M1 b (.lst [.int 7])) := x1.trans (.new hb)
  simp only [dAdd]
  have e2 : Fg.up M1 b (.lst [.int 7]) a = some (.lst (ns.map D.int)) := (Ext.new hb) _ _ e1
  refine ⟨_, _, e2, up_same, by rw [List.length_map, List.length_singleton, sizeLine_eq]; omega, fun c hc => ?_⟩
  have em : ns.map D.int ++ [D.int 7] = (ns ++ [7]).map D.int := by rw [List.map_append]; rfl
  rw [em]
  have lcs : (ns ++ [7]).length ≤ 64 := by rw [List.length_append, List.length_singleton]; omega
  have l1 : 1 ≤ (ns ++ [7]).length := by rw [List.length_append, List.length_singleton]; omega
  generalize ns ++ [7] = cl at lcs l1 ⊢
  have x3 : Ext M (Fg.up (Fg.up M1 b (.lst [.int 7])) c (.lst (cl.map D.int))) := x2.trans (.new hc)
  have e3 : Fg.up (Fg.up M1 b (.lst [.int 7])) c (.lst (cl.map D.int)) c = some (.lst (cl.map D.int)) := up_same
  generalize Fg.up (Fg.up M1 b (.lst [.int 7])) c (.lst (cl.map D.int)) = M3 at x3 e3 ⊢
  (unfold w_bag_l_1; obtain ⟨Tl, hTl⟩ : ∃ x, x = w_bag_l_2 := ⟨_, rfl⟩; rw [← hTl]; simp only [wSeq, wAsg, wDrop, wRet, wRetN, wNext, wIfS, wBl, Fg.wTru, wOp, wUn, wCl, wCons, wNil, wVar, wCst, wTup, wLst, gNm, wCall, List.set_cons_zero, List.set_cons_succ, List.getElem?_cons_zero, List.getElem?_cons_succ, List.length_nil]; subst hTl)
  refine ⟨Nat.zero_le _, fun g hg => ?_⟩
  have x4 : Ext M3 (Fg.up M3 g (.lst [])) := .new hg
  have e4 : Fg.up M3 g (.lst []) g = some (.lst (([] : List Int).map D.int)) := up_same
  have c4 := x4 _ _ e3
  have gM : M g = none := by
    cases w : M g with
    | none => rfl
    | some o => rw [x3 _ _ w] at hg; cases hg
  generalize Fg.up M3 g (.lst []) = M4 at x4 e4 c4 ⊢
  have y4 := x3.trans x4
  -- the bag itself
  have last : ∀ (M5 : MM) (gg : Addr) (gs : List Int) (v3 : Option D), Ext M M5 → M gg = none → M5 gg = some (.lst (gs.map D.int)) → M5 c = some (.lst (cl.map D.int)) → (∀ x ∈ gs, 0 ≤ x) → w_bag_l_3 [some (script ns), some (.ref c), some (.ref gg), v3] M5 { nx := fun _ M' => Q .non M', rt := Q } (fun x _ M' => E x M') := fun M5 gg gs v3 x5 gn g5 c5 gs0 => by
    simp only [w_bag_l_3, wSeq, wAsg, wDrop, wRet, wRetN, wNext, wIfS, wBl, Fg.wTru, wOp, wUn, wCl, wCons, wNil, wVar, wCst, wTup, wLst, gNm, wCall, List.set_cons_zero, List.set_cons_succ, List.getElem?_cons_zero, List.getElem?_cons_succ, wLc, wWk]
    obtain ⟨st, hw, hst⟩ := walk_lst c5
    refine ⟨_, st, hw, fun d hd => ?_⟩
    refine lc_map (xs := cl) hd D.int (fun x => .int (x % 2147483647)) (fun _ => true) (fun M' x' => hst M' (x' _ _ c5)) (by rw [sizeLine_eq]; omega) (fun x hx M6 x6 K1 K0 k1 k0 => ?_) fun M6 x6 e6 => ?_
    · simp only [wipeD, wSeq, wAsg, wDrop, wRet, wRetN, wNext, wIfS, wBl, Fg.wTru, wOp, wUn, wCl, wCons, wNil, wVar, wCst, wTup, wLst, gNm, wCall, List.set_cons_zero, List.set_cons_succ, List.getElem?_cons_zero, List.getElem?_cons_succ, wYes, if_true, cInt, dMod]
      exact ⟨by decide, k1 rfl M6 (Ext.refl _)⟩
    rw [List.filter_eq_self.mpr fun _ _ => rfl] at e6
    simp only [List.length_cons, List.length_nil, Nat.zero_add, Nat.reduceAdd, z5, true_and]
    intro p hp
    have g6 := x6 _ _ g5
    have hpg : gg ≠ p := fun z => by rw [z, hp] at g6; cases g6
    have hpd : d ≠ p := fun z => by rw [z, hp] at e6; cases e6
    have gd : gg ≠ d := fun z => by rw [z, hd] at g5; cases g5
    have hpM : M p = none := by
      cases w : M p with
      | none => rfl
      | some o => rw [x6 _ _ (x5 _ _ w)] at hp; cases hp
    refine k p gg d _ hpM gn ⟨0, 0, 0, gs, cl.map fun x => x % 2147483647, up_same, by rw [up_ne hpg]; exact g6, by rw [up_ne hpd, e6, List.map_map]; rfl, hpg, hpd, gd, by decide, by decide, by decide, gs0, fun z => ?_, by rw [List.length_map]; exact lcs, fun x hx => ?_⟩ ((x5.trans x6).trans (.new hp))
    · rw [List.map_eq_nil_iff.mp z] at l1
      simp at l1
    · obtain ⟨y, _, rfl⟩ := List.mem_map.mp hx
      exact ⟨Int.emod_nonneg _ (by decide), Int.emod_lt_of_pos _ (by decide)⟩
  (unfold w_bag_l_2; obtain ⟨Tl, hTl⟩ : ∃ x, x = w_bag_l_3 := ⟨_, rfl⟩; rw [← hTl]; simp only [wSeq, wAsg, wDrop, wRet, wRetN, wNext, wIfS, wBl, Fg.wTru, wOp, wUn, wCl, wCons, wNil, wVar, wCst, wTup, wLst, gNm, wCall, List.set_cons_zero, List.set_cons_succ, List.getElem?_cons_zero, List.getElem?_cons_succ, cInt, dMod, dEq]; subst hTl)
  have a0 : atI (cl.map D.int) 0 = some (.int (cl[0]'(by omega))) := at_lt (by decide) (by rw [List.getElem?_map, List.getElem?_eq_getElem (by exact l1)]; rfl)
  refine ixL c4 a0 ?_
  refine ⟨by decide, ?_⟩
  by_cases ev : cl[0]'(by omega) % 2 = 0
  · simp only [ev, decide_true, if_true, wLc, wWk, wSeq, wAsg, wDrop, wRet, wRetN, wNext, wIfS, wBl, Fg.wTru, wOp, wUn, wCl, wCons, wNil, wVar, wCst, wTup, wLst, gNm, wCall, List.set_cons_zero, List.set_cons_succ, List.getElem?_cons_zero, List.getElem?_cons_succ]
    obtain ⟨st, hw, hst⟩ := walk_lst c4
    refine ⟨_, st, hw, fun d hd => ?_⟩
    refine lc_map (xs := cl) hd D.int (fun x => .int ((x.natAbs : Int) / 2)) (fun x => decide ((10 : Int) ^ 18 ≤ (x.natAbs : Int))) (fun M' x' => hst M' (x' _ _ c4)) (by rw [sizeLine_eq]; omega) (fun x hx M6 x6 K1 K0 k1 k0 => ?_) fun M6 x6 e6 => ?_
    · have ea : (if x < 0 then -x else x) = (x.natAbs : Int) := by split <;> omega
      simp only [wipeD, wSeq, wAsg, wDrop, wRet, wRetN, wNext, wIfS, wBl, Fg.wTru, wOp, wUn, wCl, wCons, wNil, wVar, wCst, wTup, wLst, gNm, wCall, List.set_cons_zero, List.set_cons_succ, List.getElem?_cons_zero, List.getElem?_cons_succ, cAbs, exists_eq_left', exists_and_left, Option.some.injEq, List.cons.injEq, and_true, true_and, D.int.injEq, D.ref.injEq, D.str.injEq, D.tup.injEq, D.bl.injEq, exists_eq', and_assoc, dPow, cp18, true_and, dGe, dOrd, ea, show (18 : Int).toNat = 18 from rfl, dDiv]
      by_cases cc : (10 : Int) ^ 18 ≤ (x.natAbs : Int)
      · simp only [cc, decide_true, if_true]
        exact ⟨⟨by decide, by decide⟩, k1 (decide_eq_true cc) M6 (Ext.refl _)⟩
      · simp only [cc, decide_false, Bool.false_eq_true, if_false]
        exact k0 (decide_eq_false cc) M6 (Ext.refl _)
    have dM : M d = none := by
      cases w : M d with
      | none => rfl
      | some o => rw [y4 _ _ w] at hd; cases hd
    have e6' : M6 d = some (.lst (((cl.filter fun x => decide ((10 : Int) ^ 18 ≤ (x.natAbs : Int))).map fun x => (x.natAbs : Int) / 2).map D.int)) := by rw [e6, List.map_map]; rfl
    simp only [wBm, tyR, e6', wSeq, wAsg, wDrop, wRet, wRetN, wNext, wIfS, wBl, Fg.wTru, wOp, wUn, wCl, wCons, wNil, wVar, wCst, wTup, wLst, gNm, wCall, List.set_cons_zero, List.set_cons_succ, List.getElem?_cons_zero, List.getElem?_cons_succ]
    refine ⟨trivial, d, _, rfl, rfl, e6', ?_⟩
    have c6 := x6 _ _ c4
    have cd : c ≠ d := fun z => by rw [z, hd] at c4; cases c4
    refine last _ d ((cl.filter fun x => decide ((10 : Int) ^ 18 ≤ (x.natAbs : Int))).map fun x => (x.natAbs : Int) / 2).reverse _ (Ext.upd dM (y4.trans x6)) dM ?_ ?_ fun x hx => ?_
    · rw [up_same, List.map_reverse]
    · rw [up_ne cd]; exact c6
    · obtain ⟨y, _, rfl⟩ := List.mem_map.mp (List.mem_reverse.mp hx)
      omega
  · simp only [ev, decide_false, Bool.false_eq_true, if_false]
    exact last M4 g [] _ y4 gM e4 c4 fun x hx => nomatch hx
end FgL
/-! Z3: names and integers by their signs, by the program and by the law. -/
namespace FgL
open PySem PySem.Spec L2 Fg
open PyProof.Rows hiding St
abbrev dgt : Str := Str.ofString "0123456789"
def isL (c : Nat) : Bool := decide (c ∈ abc.cps.toList)
def isD (c : Nat) : Bool := decide (c ∈ dgt.cps.toList)
theorem dgt_cps : dgt.cps.toList = List.range' 48 10 := by decide +kernel
theorem isD_iff {c : Nat} : isD c = true ↔ 48 ≤ c ∧ c ≤ 57 := by
  unfold isD
  rw [decide_eq_true_iff, dgt_cps, List.mem_range'_1]
  omega
theorem isL_iff {c : Nat} : isL c = true ↔ 97 ≤ c ∧ c ≤ 122 := by
  unfold isL
  rw [decide_eq_true_iff, abc_cps, List.mem_range'_1]
  omega
def nm (l : List Nat) : Bool := decide (1 ≤ l.length) && (decide (l.length ≤ 4) && l.all isL)
def nb (l : List Nat) : Bool := decide (1 ≤ l.length) && (decide (l.length ≤ 9) && (l.all isD && (decide (l = [48]) || decide (l.head? ≠ some 48))))
def ib (l : List Nat) : Bool := if l.take 1 = [45] then nb (l.drop 1) && decide (l ≠ [45, 48]) else nb l
theorem lenS {M : MM} {l : List Nat} (h : l.length ≤ sizeLine) : lenD M (.str (S l)) = some l.length := by
  show (if (S l).length ≤ sizeLine then some (S l).length else none) = _
  rw [S_len, if_pos h]
theorem signs_S (l : List Nat) : Fg.signs (S l) = l.map fun c => D.str (S [c]) := by unfold Fg.signs; rw [S_cps]; rfl
theorem in_one {M : MM} {c : Nat} {z : Str} {Q : QD} (k : Q (.bl (decide (c ∈ z.cps.toList))) M) : dIn (.str (S [c])) (.str z) M Q := ⟨_, rfl, by rw [← S_one, inStr_one]; exact k⟩
/-- all signs of a text in a row of signs -/
theorem all_signs {M : MM} {l : List Nat} {z : Str} {a : Addr} {v : En} {g : WG} {te : WE} {K : MM → Prop} (ha : M a = none) (hl : l.length ≤ sizeLine)
    (hs : ∀ c ∈ l, ∀ M', Ext M M' → ∀ K1 : QD, (K1 (.bl (decide (c ∈ z.cps.toList))) M') → g (.str (S [c])) v M' (fun ρ1 M1 => te ρ1 M1 K1 noX) noX) (k : ∀ M', Ext M M' → M' a = some (.lst ((l.map fun c => decide (c ∈ z.cps.toList)).map D.bl)) → K M') :
    lcD (fun _ => True) a v g wYes te (l.map fun c => D.str (S [c])) [] (Fg.up M a (.lst [])) K := by
  refine lc_map (xs := l) ha (fun c => .str (S [c])) (fun c => .bl (decide (c ∈ z.cps.toList))) (fun _ => true) (fun _ _ => trivial) hl (fun c hc M1 x1 K1 K0 k1 k0 => ?_) fun M1 x1 e1 => ?_
  · exact hs c hc M1 x1 K1 (k1 rfl M1 (Ext.refl _))
  · rw [List.filter_eq_self.mpr fun _ _ => rfl] at e1
    exact k M1 x1 (by rw [e1, List.map_map]; rfl)
theorem p_is_name_word {M : MM} {l : List Nat} {Q : QD} {E : QX} (hl : l.length ≤ sizeLine) (k : ∀ M', Ext M M' → Q (.bl (nm l)) M') : sp_is_name_word [.str (S l)] M Q E := by
  refine ⟨rfl, ?_⟩
  show w_is_name_word [some (.str (S l)), none] M _ _
  simp only [w_is_name_word, wSeq, wAsg, wDrop, wRet, wRetN, wNext, wIfS, wBl, Fg.wTru, wOp, wUn, wCl, wCons, wNil, wVar, wCst, wTup, wLst, gNm, wCall, List.set_cons_zero, List.set_cons_succ, List.getElem?_cons_zero, List.getElem?_cons_succ, wAndV, wChain, cLen, dLe, dOrd, wLc, wWk, cAll]
  refine ⟨_, l.length, rfl, lenS hl, ?_⟩
  by_cases c1 : (1 : Int) ≤ (l.length : Int)
  · simp only [c1, decide_true, if_true]
    refine ⟨_, rfl, ?_⟩
    by_cases c2 : (l.length : Int) ≤ 4
    · simp only [c2, decide_true, if_true]
      refine ⟨_, fun _ => True, rfl, fun a ha => ?_⟩
      rw [signs_S]
      refine all_signs (z := abc) ha hl (fun c hc M1 x1 K1 k1 => ?_) fun M1 x1 e1 => ?_
      · simp only [wSeq, wAsg, wDrop, wRet, wRetN, wNext, wIfS, wBl, Fg.wTru, wOp, wUn, wCl, wCons, wNil, wVar, wCst, wTup, wLst, gNm, wCall, List.set_cons_zero, List.set_cons_succ, List.getElem?_cons_zero, List.getElem?_cons_succ, wipeD]
        exact in_one k1
      · refine ⟨_, _, rfl, lstOf_ref e1, ?_⟩
        have e : nm l = (l.map fun c => decide (c ∈ abc.cps.toList)).all id := by
          unfold nm
          rw [decide_eq_true (by omega : 1 ≤ l.length), decide_eq_true (by omega : l.length ≤ 4), Bool.true_and, Bool.true_and, List.all_map]
          rfl
        rw [← e]
        exact k M1 x1
    · simp only [c2, decide_false, Bool.false_eq_true, if_false]
      have e : nm l = false := by unfold nm; rw [decide_eq_false (by omega : ¬ l.length ≤ 4)]; simp
      rw [← e]
      exact k M (Ext.refl _)
  · simp only [c1, decide_false, Bool.false_eq_true, if_false]
    refine ⟨_, rfl, ?_⟩
    simp only [Bool.false_eq_true, if_false]
    have e : nm l = false := by unfold nm; rw [decide_eq_false (by omega : ¬ 1 ≤ l.length)]; rfl
    rw [← e]
    exact k M (Ext.refl _)
/-- the signs that are none of a row -/
theorem non_signs {M : MM} {l : List Nat} {z : Str} {a : Addr} {v : En} {g : WG} {tt : WB} {te : WE} {K : MM → Prop} (ha : M a = none) (hl : l.length ≤ sizeLine)
    (hs : ∀ c ∈ l, ∀ M', Ext M M' → ∀ (K1 : QD) (K0 : MM → Prop), ((!decide (c ∈ z.cps.toList)) = true → K1 (.str (S [c])) M') → ((!decide (c ∈ z.cps.toList)) = false → K0 M') → g (.str (S [c])) v M' (fun ρ1 M2 => tt ρ1 M2 (fun k M3 => if k = true then te ρ1 M3 K1 noX else K0 M3) noX) noX)
    (k : ∀ M' n, Ext M M' → M' a = some (.lst n) → (decide (n.length = 0)) = l.all (fun c => decide (c ∈ z.cps.toList)) → K M') :
    lcD (fun _ => True) a v g tt te (l.map fun c => D.str (S [c])) [] (Fg.up M a (.lst [])) K := by
  refine lc_map (xs := l) ha (fun c => .str (S [c])) (fun c => .str (S [c])) (fun c => !decide (c ∈ z.cps.toList)) (fun _ _ => trivial) hl (fun c hc M1 x1 K1 K0 k1 k0 => ?_) fun M1 x1 e1 => ?_
  · exact hs c hc M1 x1 K1 K0 (fun h => k1 h M1 (Ext.refl _)) fun h => k0 h M1 (Ext.refl _)
  · refine k M1 _ x1 e1 ?_
    rw [List.length_map]
    cases q : l.all (fun c => decide (c ∈ z.cps.toList)) with
    | true =>
      have : (l.filter fun c => !decide (c ∈ z.cps.toList)) = [] := List.filter_eq_nil_iff.mpr fun c hc => by
        have := List.all_eq_true.mp q c hc
        simpa using this
      rw [this]
      rfl
    | false =>
      refine decide_eq_false fun e => ?_
      have e := List.filter_eq_nil_iff.mp (List.length_eq_zero_iff.mp e)
      have : l.all (fun c => decide (c ∈ z.cps.toList)) = true := List.all_eq_true.mpr fun c hc => by
        have := e c hc
        simpa using this
      rw [q] at this
      cases this
theorem p_is_name_l {M : MM} {l : List Nat} {Q : QD} {E : QX} (hl : l.length ≤ sizeLine) (k : ∀ M', Ext M M' → Q (.bl (nm l)) M') : sp_is_name_l [.str (S l)] M Q E := by
  refine ⟨rfl, ?_⟩
  show w_is_name_l [some (.str (S l)), none, none] M _ _
  (unfold w_is_name_l; obtain ⟨Tl, hTl⟩ : ∃ x, x = w_is_name_l_1 := ⟨_, rfl⟩; rw [← hTl]; simp only [wSeq, wAsg, wDrop, wRet, wRetN, wNext, wIfS, wBl, Fg.wTru, wOp, wUn, wCl, wCons, wNil, wVar, wCst, wTup, wLst, gNm, wCall, List.set_cons_zero, List.set_cons_succ, List.getElem?_cons_zero, List.getElem?_cons_succ]; subst hTl)
  simp only [w_is_name_l_1, wSeq, wAsg, wDrop, wRet, wRetN, wNext, wIfS, wBl, Fg.wTru, wOp, wUn, wCl, wCons, wNil, wVar, wCst, wTup, wLst, gNm, wCall, List.set_cons_zero, List.set_cons_succ, List.getElem?_cons_zero, List.getElem?_cons_succ, wAndV, wChain, cLen, dLe, dOrd, wLc, wWk, dEq]
  refine ⟨_, l.length, rfl, lenS hl, ?_⟩
  by_cases c1 : (1 : Int) ≤ (l.length : Int)
  · simp only [c1, decide_true, if_true]
    refine ⟨_, rfl, ?_⟩
    by_cases c2 : (l.length : Int) ≤ 4
    · simp only [c2, decide_true, if_true]
      refine ⟨_, fun _ => True, rfl, fun a ha => ?_⟩
      rw [signs_S]
      refine non_signs (z := abc) ha hl (fun c hc M1 x1 K1 K0 k1 k0 => ?_) fun M1 n x1 e1 en => ?_
      · simp only [wSeq, wAsg, wDrop, wRet, wRetN, wNext, wIfS, wBl, Fg.wTru, wOp, wUn, wCl, wCons, wNil, wVar, wCst, wTup, wLst, gNm, wCall, List.set_cons_zero, List.set_cons_succ, List.getElem?_cons_zero, List.getElem?_cons_succ, wipeD, dNotIn]
        refine in_one ?_
        cases q : decide (c ∈ abc.cps.toList) with
        | true => exact k0 (by rw [q]; rfl)
        | false => exact k1 (by rw [q]; rfl)
      · refine ⟨_, n.length, rfl, by unfold lenD; simp only [e1], ?_⟩
        have e : nm l = decide ((n.length : Int) = 0) := by
          have e2 : decide ((n.length : Int) = 0) = decide (n.length = 0) := by
            by_cases c : n.length = 0
            · rw [decide_eq_true c, decide_eq_true (by omega)]
            · rw [decide_eq_false c, decide_eq_false (by omega)]
          unfold nm
          rw [decide_eq_true (by omega : 1 ≤ l.length), decide_eq_true (by omega : l.length ≤ 4), Bool.true_and, Bool.true_and, e2, en]
          rfl
        rw [← e]
        exact k M1 x1
    · simp only [c2, decide_false, Bool.false_eq_true, if_false]
      have e : nm l = false := by unfold nm; rw [decide_eq_false (by omega : ¬ l.length ≤ 4)]; simp
      rw [← e]
      exact k M (Ext.refl _)
  · simp only [c1, decide_false, Bool.false_eq_true, if_false]
    refine ⟨_, rfl, ?_⟩
    simp only [Bool.false_eq_true, if_false]
    have e : nm l = false := by unfold nm; rw [decide_eq_false (by omega : ¬ 1 ≤ l.length)]; rfl
    rw [← e]
    exact k M (Ext.refl _)
end FgL
/-! Z4: integers by their signs, by the program and by the law. -/
namespace FgL
open PySem PySem.Spec L2 Fg
open PyProof.Rows hiding St
theorem S_inj {a b : List Nat} (h : S a = S b) : a = b := by rw [← S_cps a, h, S_cps]
theorem cut_to {l : List Nat} {i : Int} (h0 : 0 ≤ i) : cutS (S l) none (some i) = S (l.take i.toNat) := by
  unfold cutS
  rw [S_len, S_cps]
  have e : HT.sIx l.length l.length (some i) = min i.toNat l.length := by
    obtain ⟨n, rfl⟩ := Int.eq_ofNat_of_zero_le h0
    rw [HT.sIx_nat, Int.toNat_natCast]
  rw [e]
  show S ((l.drop 0).take (min i.toNat l.length - 0)) = _
  rw [List.drop_zero, Nat.sub_zero]
  congr 1
  by_cases c : i.toNat ≤ l.length
  · rw [Nat.min_eq_left c]
  · rw [Nat.min_eq_right (by omega), List.take_length, List.take_of_length_le (by omega)]
theorem cut_from {l : List Nat} {i : Int} (h0 : 0 ≤ i) : cutS (S l) (some i) none = S (l.drop i.toNat) := by
  unfold cutS
  rw [S_len, S_cps]
  have e : HT.sIx l.length 0 (some i) = min i.toNat l.length := by
    obtain ⟨n, rfl⟩ := Int.eq_ofNat_of_zero_le h0
    rw [HT.sIx_nat, Int.toNat_natCast]
  rw [e]
  show S ((l.drop (min i.toNat l.length)).take (l.length - min i.toNat l.length)) = _
  congr 1
  by_cases c : i.toNat ≤ l.length
  · rw [Nat.min_eq_left c, List.take_of_length_le (by rw [List.length_drop]; omega)]
  · rw [Nat.min_eq_right (by omega), List.drop_of_length_le (by omega), List.drop_of_length_le (by omega), List.take_nil]
theorem ixS {M : MM} {l : List Nat} {i : Int} {c : Nat} {Q : QD} (h : l.length ≤ sizeLine) (ha : atI l i = some c) (k : Q (.str (S [c])) M) : dIx (.str (S l)) (.int i) M Q := by
  unfold dIx
  simp only [S_len, S_cps]
  exact ⟨i, c, rfl, h, ha, k⟩
theorem at_lt0 (h : Nat) (t : List Nat) : atI (h :: t) 0 = some h := by unfold atI ixN; rw [if_pos (by decide), if_pos (by simp <;> omega)]; rfl
theorem sdec (a b : List Nat) : decide (S a = S b) = decide (a = b) := by
  by_cases c : a = b
  · rw [decide_eq_true c, decide_eq_true (by rw [c])]
  · rw [decide_eq_false c, decide_eq_false fun e => c (S_inj e)]
theorem s45 : Str.ofString "-" = S [45] ∧ Str.ofString "0" = S [48] ∧ Str.ofString "-0" = S [45, 48] ∧ Str.ofString "name" = S [110, 97, 109, 101] := by decide +kernel
theorem p_is_number_word {M : MM} {l : List Nat} {Q : QD} {E : QX} (hl : l.length ≤ sizeLine) (k : ∀ M', Ext M M' → Q (.bl (nb l)) M') : sp_is_number_word [.str (S l)] M Q E := by
  refine ⟨rfl, ?_⟩
  show w_is_number_word [some (.str (S l)), none] M _ _
  (unfold w_is_number_word; obtain ⟨Tl, hTl⟩ : ∃ x, x = w_is_number_word_1 := ⟨_, rfl⟩; rw [← hTl]; simp only [wSeq, wAsg, wDrop, wRet, wRetN, wNext, wIfS, wBl, Fg.wTru, wOp, wUn, wCl, wCons, wNil, wVar, wCst, wTup, wLst, gNm, wCall, List.set_cons_zero, List.set_cons_succ, List.getElem?_cons_zero, List.getElem?_cons_succ, wOrB, wNotB, wChain, cLen, dLe, dOrd, wLc, wWk, cAll]; subst hTl)
  refine ⟨_, l.length, rfl, lenS hl, ?_⟩
  by_cases c1 : (1 : Int) ≤ (l.length : Int)
  · simp only [c1, decide_true, if_true]
    by_cases c2 : (l.length : Int) ≤ 9
    · simp only [c2, decide_true, if_true, Bool.not_true, Bool.false_eq_true, if_false]
      refine ⟨_, fun _ => True, rfl, fun a ha => ?_⟩
      rw [signs_S]
      refine all_signs (z := dgt) ha hl (fun c hc M1 x1 K1 k1 => ?_) fun M1 x1 e1 => ?_
      · simp only [wSeq, wAsg, wDrop, wRet, wRetN, wNext, wIfS, wBl, Fg.wTru, wOp, wUn, wCl, wCons, wNil, wVar, wCst, wTup, wLst, gNm, wCall, List.set_cons_zero, List.set_cons_succ, List.getElem?_cons_zero, List.getElem?_cons_succ, wipeD]
        exact in_one k1
      · refine ⟨_, _, rfl, lstOf_ref e1, ?_⟩
        have e : ((l.map fun c => decide (c ∈ dgt.cps.toList)).all id) = l.all isD := by rw [List.all_map]; rfl
        rw [e]
        refine ⟨l.all isD, rfl, ?_⟩
        have lne : l ≠ [] := fun q => by rw [q] at c1; simp at c1
        have en : nb l = (l.all isD && (decide (l = [48]) || decide (l.head? ≠ some 48))) := by
          unfold nb
          rw [decide_eq_true (by omega : 1 ≤ l.length), decide_eq_true (by omega : l.length ≤ 9), Bool.true_and, Bool.true_and]
        cases qa : l.all isD with
        | false =>
          simp only [Bool.not_false, if_true]
          rw [qa, Bool.false_and] at en
          rw [← en]
          exact k M1 x1
        | true =>
          rw [qa, Bool.true_and] at en
          simp only [Bool.not_true, Bool.false_eq_true, if_false, w_is_number_word_1, wSeq, wAsg, wDrop, wRet, wRetN, wNext, wIfS, wBl, Fg.wTru, wOp, wUn, wCl, wCons, wNil, wVar, wCst, wTup, wLst, gNm, wCall, List.set_cons_zero, List.set_cons_succ, List.getElem?_cons_zero, List.getElem?_cons_succ, wOrV, dEq, s45, sdec]
          refine ⟨_, rfl, ?_⟩
          by_cases c0 : l = [48]
          · simp only [c0, decide_true, if_true]
            rw [decide_eq_true c0, Bool.true_or] at en
            rw [c0] at en k
            rw [← en]
            exact k M1 x1
          · simp only [c0, decide_false, Bool.false_eq_true, if_false]
            obtain ⟨h, t, rfl⟩ := List.exists_cons_of_ne_nil lne
            refine ixS hl (c := h) (at_lt0 h t) ?_
            simp only [dNe, dEq, sdec]
            have e2 : nb (h :: t) = !decide (([h] : List Nat) = [48]) := by
              rw [en, decide_eq_false c0, Bool.false_or]
              by_cases q : h = 48
              · rw [q]; rfl
              · rw [decide_eq_true (by simpa using q), decide_eq_false (by simpa using q)]; rfl
            rw [← e2]
            exact k M1 x1
    · simp only [c2, decide_false, Bool.false_eq_true, if_false, Bool.not_false, if_true]
      have e : nb l = false := by unfold nb; rw [decide_eq_false (by omega : ¬ l.length ≤ 9)]; simp
      rw [← e]
      exact k M (Ext.refl _)
  · simp only [c1, decide_false, Bool.false_eq_true, if_false, Bool.not_false, if_true]
    have e : nb l = false := by unfold nb; rw [decide_eq_false (by omega : ¬ 1 ≤ l.length)]; rfl
    rw [← e]
    exact k M (Ext.refl _)
theorem p_is_integer_word {M : MM} {l : List Nat} {Q : QD} {E : QX} (hl : l.length ≤ sizeLine) (k : ∀ M', Ext M M' → Q (.bl (ib l)) M') : sp_is_integer_word [.str (S l)] M Q E := by
  refine ⟨rfl, ?_⟩
  show w_is_integer_word [some (.str (S l))] M _ _
  (unfold w_is_integer_word; obtain ⟨Tl, hTl⟩ : ∃ x, x = w_is_integer_word_1 := ⟨_, rfl⟩; rw [← hTl]; simp only [wSeq, wAsg, wDrop, wRet, wRetN, wNext, wIfS, wBl, Fg.wTru, wOp, wUn, wCl, wCons, wNil, wVar, wCst, wTup, wLst, gNm, wCall, List.set_cons_zero, List.set_cons_succ, List.getElem?_cons_zero, List.getElem?_cons_succ, wSl, wNoP, wSoP, dSl, wAndV]; subst hTl)
  refine ⟨1, rfl, by rw [S_len]; exact hl, ?_⟩
  rw [cut_to (by decide), s45.1]
  simp only [dEq, sdec]
  by_cases c : l.take 1 = [45]
  · have c' : l.take (Int.toNat 1) = [45] := c
    simp only [c', decide_true, if_true]
    refine ⟨1, rfl, by rw [S_len]; exact hl, ?_⟩
    rw [cut_from (by decide)]
    have hd : (l.drop (Int.toNat 1)).length ≤ sizeLine := by rw [List.length_drop]; omega
    refine p_is_number_word hd fun M1 x1 => ?_
    refine ⟨_, rfl, ?_⟩
    have e : ib l = (nb (l.drop 1) && decide (l ≠ [45, 48])) := by unfold ib; rw [if_pos c]
    cases q : nb (l.drop 1) with
    | false =>
      have q' : nb (l.drop (Int.toNat 1)) = false := q
      rw [q']
      simp only [Bool.false_eq_true, if_false]
      rw [q, Bool.false_and] at e
      rw [← e]
      exact k M1 x1
    | true =>
      have q' : nb (l.drop (Int.toNat 1)) = true := q
      rw [q']
      simp only [if_true, dNe, dEq, s45, sdec]
      rw [q, Bool.true_and] at e
      have e2 : ib l = !decide (l = [45, 48]) := by rw [e]; simp
      rw [← e2]
      exact k M1 x1
  · have c' : ¬ l.take (Int.toNat 1) = [45] := c
    simp only [c', decide_false, Bool.false_eq_true, if_false, w_is_integer_word_1, wSeq, wAsg, wDrop, wRet, wRetN, wNext, wIfS, wBl, Fg.wTru, wOp, wUn, wCl, wCons, wNil, wVar, wCst, wTup, wLst, gNm, wCall, List.set_cons_zero, List.set_cons_succ, List.getElem?_cons_zero, List.getElem?_cons_succ]
    refine p_is_number_word hl fun M1 x1 => ?_
    have e : ib l = nb l := by unfold ib; rw [if_neg c]
    rw [← e]
    exact k M1 x1
/-- the integer that a word tells -/
def iv (l : List Nat) : Int := (intText? (S l)).getD 0
theorem nb_dig {l : List Nat} (h : nb l = true) : NumText.AllDigits l ∧ l ≠ [] ∧ l.length ≤ 9 := by
  unfold nb at h
  simp only [Bool.and_eq_true, decide_eq_true_iff] at h
  obtain ⟨h1, h2, h3, _⟩ := h
  exact ⟨fun c hc => isD_iff.mp (List.all_eq_true.mp h3 c hc), fun e => by rw [e] at h1; simp at h1, h2⟩
theorem iv_ok {l : List Nat} (h : ib l = true) : intText? (S l) = some (iv l) ∧ l.length ≤ 10 := by
  unfold ib at h
  split at h
  · rename_i c
    rw [Bool.and_eq_true] at h
    obtain ⟨a, b, d⟩ := nb_dig h.1
    have e : l = 45 :: l.drop 1 := by
      cases l with
      | nil => simp at c
      | cons x r => simp at c; rw [c]; rfl
    have q := PySem.intText_neg (x := S l) (cs := l.drop 1) (by rw [S_cps]; exact e) a b (by rw [S_len, e, List.length_cons]; omega)
    unfold iv
    rw [q]
    exact ⟨rfl, by rw [e, List.length_cons]; omega⟩
  · obtain ⟨a, b, d⟩ := nb_dig h
    have q := PySem.intText_digits (x := S l) (by rw [S_cps]; exact a) (by rw [S_cps]; exact b) (by rw [S_len]; omega)
    unfold iv
    rw [q]
    exact ⟨rfl, by omega⟩
end FgL
/-! Z5: one member, by the program and by the law. -/
namespace FgL
open PySem PySem.Spec L2 Fg
open PyProof.Rows hiding St
/-- a word read as an integer -/
def iD (l : List Nat) : D := if ib l = true then .int (iv l) else .non
def nD (l : List Nat) : D := if nm l = true then .str (S l) else .non
theorem cIntS {M : MM} {l : List Nat} {Q : QD} (h : ib l = true) (k : Q (.int (iv l)) M) : cInt [.str (S l)] M Q := ⟨iv l, (iv_ok h).1, by rw [S_len]; have := (iv_ok h).2; omega, k⟩
theorem p_member {M : MM} {l : List Nat} {b : Bool} {Q : QD} {E : QX} (hl : l.length ≤ sizeLine) (k : ∀ M', Ext M M' → Q (if b = true then nD l else iD l) M') : sp_member_of [.str (if b = true then Str.ofString "name" else Str.ofString "integer"), .str (S l)] M Q E := by
  refine ⟨rfl, ?_⟩
  show w_member_of [some (.str (if b = true then Str.ofString "name" else Str.ofString "integer")), some (.str (S l))] M _ _
  have ne : Str.ofString "integer" ≠ Str.ofString "name" := by decide +kernel
  (unfold w_member_of; obtain ⟨Tl, hTl⟩ : ∃ x, x = w_member_of_1 := ⟨_, rfl⟩; rw [← hTl]; simp only [wSeq, wAsg, wDrop, wRet, wRetN, wNext, wIfS, wBl, Fg.wTru, wOp, wUn, wCl, wCons, wNil, wVar, wCst, wTup, wLst, gNm, wCall, List.set_cons_zero, List.set_cons_succ, List.getElem?_cons_zero, List.getElem?_cons_succ, wIte, dEq]; subst hTl)
  cases b with
  | true =>
    simp only [if_true, decide_true] at k ⊢
    refine p_is_name_word hl fun M1 x1 => ?_
    refine ⟨_, rfl, ?_⟩
    unfold nD at k
    cases q : nm l with
    | true =>
      rw [q] at k
      simp only [if_true] at k ⊢
      exact k M1 x1
    | false =>
      rw [q] at k
      simp only [Bool.false_eq_true, if_false] at k ⊢
      exact k M1 x1
  | false =>
    simp only [Bool.false_eq_true, if_false, ne, decide_false, w_member_of_1, wSeq, wAsg, wDrop, wRet, wRetN, wNext, wIfS, wBl, Fg.wTru, wOp, wUn, wCl, wCons, wNil, wVar, wCst, wTup, wLst, gNm, wCall, List.set_cons_zero, List.set_cons_succ, List.getElem?_cons_zero, List.getElem?_cons_succ, wIte] at k ⊢
    refine p_is_integer_word hl fun M1 x1 => ?_
    refine ⟨_, rfl, ?_⟩
    unfold iD at k
    cases q : ib l with
    | true =>
      rw [q] at k
      simp only [if_true] at k ⊢
      exact cIntS q (k M1 x1)
    | false =>
      rw [q] at k
      simp only [Bool.false_eq_true, if_false] at k ⊢
      exact k M1 x1
/-- the law's way: figures behind the sign, none of them needless -/
theorem ib_law (l : List Nat) : ib l = (decide (1 ≤ (l.drop (if l.take 1 = [45] then 1 else 0)).length) && (decide ((l.drop (if l.take 1 = [45] then 1 else 0)).length ≤ 9) && ((l.drop (if l.take 1 = [45] then 1 else 0)).all isD &&
    !(decide ((l.drop (if l.take 1 = [45] then 1 else 0)).head? = some 48) && decide (l ≠ [48]))))) := by
  unfold ib
  by_cases c : l.take 1 = [45]
  · rw [if_pos c, if_pos c]
    have e : l = 45 :: l.drop 1 := by
      cases l with
      | nil => simp at c
      | cons x r => simp at c; rw [c]; rfl
    generalize l.drop 1 = f at e
    subst e
    unfold nb
    have h1 : decide (45 :: f ≠ ([48] : List Nat)) = true := decide_eq_true (by simp)
    rw [h1, Bool.and_true]
    cases f with
    | nil => rfl
    | cons x r =>
      by_cases hx : x = 48
      · subst hx
        cases r with
        | nil => rfl
        | cons y r => simp
      · simp [hx]
  · rw [if_neg c, if_neg c, List.drop_zero]
    unfold nb
    cases l with
    | nil => rfl
    | cons x r =>
      by_cases hx : x = 48
      · subst hx
        cases r with
        | nil => rfl
        | cons y r => simp
      · simp [hx]
theorem p_integer_l {M : MM} {l : List Nat} {Q : QD} {E : QX} (hl : l.length ≤ sizeLine) (k : ∀ M', Ext M M' → Q (iD l) M') : sp_integer_l [.str (S l)] M Q E := by
  refine ⟨rfl, ?_⟩
  show w_integer_l [some (.str (S l)), none, none] M _ _
  have law := ib_law l
  (unfold w_integer_l; obtain ⟨Tl, hTl⟩ : ∃ x, x = w_integer_l_1 := ⟨_, rfl⟩; rw [← hTl]; simp only [wSeq, wAsg, wDrop, wRet, wRetN, wNext, wIfS, wBl, Fg.wTru, wOp, wUn, wCl, wCons, wNil, wVar, wCst, wTup, wLst, gNm, wCall, List.set_cons_zero, List.set_cons_succ, List.getElem?_cons_zero, List.getElem?_cons_succ, wSl, wNoP, wSoP, dSl, cInt, dEq, s45, sdec]; subst hTl)
  refine ⟨1, rfl, by rw [S_len]; exact hl, ?_⟩
  rw [cut_to (by decide)]
  simp only [sdec, cInt]
  refine ⟨_, rfl, by rw [S_len]; exact hl, ?_⟩
  have ei : (if decide (l.take (Int.toNat 1) = [45]) = true then (1 : Int) else 0) = (((if l.take 1 = [45] then 1 else 0 : Nat)) : Int) := by
    by_cases c : l.take 1 = [45]
    · have c' : l.take (Int.toNat 1) = [45] := c
      rw [if_pos c, decide_eq_true c', if_pos rfl]; rfl
    · have c' : ¬ l.take (Int.toNat 1) = [45] := c
      rw [if_neg c, decide_eq_false c']; rfl
  rw [ei, cut_from (by omega), Int.toNat_natCast]
  have fl : (l.drop (if l.take 1 = [45] then 1 else 0)).length ≤ sizeLine := by rw [List.length_drop]; omega
  generalize l.drop (if l.take 1 = [45] then 1 else 0) = f at law fl ⊢
  have no : ib l = false → ∀ M', Ext M M' → Q .non M' := fun h M' x => by
    have := k M' x
    unfold iD at this
    rw [h] at this
    exact this
  (unfold w_integer_l_1; obtain ⟨Tl, hTl⟩ : ∃ x, x = w_integer_l_2 := ⟨_, rfl⟩; rw [← hTl]; simp only [wSeq, wAsg, wDrop, wRet, wRetN, wNext, wIfS, wBl, Fg.wTru, wOp, wUn, wCl, wCons, wNil, wVar, wCst, wTup, wLst, gNm, wCall, List.set_cons_zero, List.set_cons_succ, List.getElem?_cons_zero, List.getElem?_cons_succ, wOrB, cLen, dLt, dGt, dOrd, wLc, wWk]; subst hTl)
  refine ⟨_, f.length, rfl, lenS fl, ?_⟩
  by_cases c1 : (f.length : Int) < 1
  · simp only [c1, decide_true, if_true]
    exact no (by rw [law, decide_eq_false (by omega : ¬ 1 ≤ f.length)]; rfl) M (Ext.refl _)
  simp only [c1, decide_false, Bool.false_eq_true, if_false]
  refine ⟨_, f.length, rfl, lenS fl, ?_⟩
  rw [decide_eq_true (by omega : 1 ≤ f.length), Bool.true_and] at law
  by_cases c2 : (9 : Int) < (f.length : Int)
  · simp only [c2, decide_true, if_true]
    exact no (by rw [law, decide_eq_false (by omega : ¬ f.length ≤ 9)]; rfl) M (Ext.refl _)
  simp only [c2, decide_false, Bool.false_eq_true, if_false]
  rw [decide_eq_true (by omega : f.length ≤ 9), Bool.true_and] at law
  refine ⟨_, fun _ => True, rfl, fun a ha => ?_⟩
  rw [signs_S]
  refine non_signs (z := dgt) ha fl (fun c hc M1 x1 K1 K0 k1 k0 => ?_) fun M1 n x1 e1 en => ?_
  · simp only [wSeq, wAsg, wDrop, wRet, wRetN, wNext, wIfS, wBl, Fg.wTru, wOp, wUn, wCl, wCons, wNil, wVar, wCst, wTup, wLst, gNm, wCall, List.set_cons_zero, List.set_cons_succ, List.getElem?_cons_zero, List.getElem?_cons_succ, wipeD, dNotIn]
    refine in_one ?_
    cases q : decide (c ∈ dgt.cps.toList) with
    | true => exact k0 (by rw [q]; rfl)
    | false => exact k1 (by rw [q]; rfl)
  refine ⟨_, n.length, rfl, by unfold lenD; simp only [e1], ?_⟩
  have en : decide (n.length = 0) = f.all isD := en
  by_cases c3 : (0 : Int) < (n.length : Int)
  · simp only [c3, decide_true, if_true]
    rw [decide_eq_false (by omega : ¬ n.length = 0)] at en
    exact no (by rw [law, ← en]; rfl) M1 x1
  simp only [c3, decide_false, Bool.false_eq_true, if_false]
  rw [decide_eq_true (by omega : n.length = 0)] at en
  rw [← en, Bool.true_and] at law
  have fne : f ≠ [] := fun q => by rw [q] at c1; exact c1 (by decide)
  obtain ⟨h, t, rfl⟩ := List.exists_cons_of_ne_nil fne
  (unfold w_integer_l_2; obtain ⟨Tl, hTl⟩ : ∃ x, x = w_integer_l_3 := ⟨_, rfl⟩; rw [← hTl]; simp only [wSeq, wAsg, wDrop, wRet, wRetN, wNext, wIfS, wBl, Fg.wTru, wOp, wUn, wCl, wCons, wNil, wVar, wCst, wTup, wLst, gNm, wCall, List.set_cons_zero, List.set_cons_succ, List.getElem?_cons_zero, List.getElem?_cons_succ, wAndB, dEq, dNe, s45, sdec]; subst hTl)
  refine ixS fl (c := h) (at_lt0 h t) ?_
  simp only [dEq, sdec]
  have last : ib l = true → w_integer_l_3 [some (.str (S l)), some (.str (S (h :: t))), none] M1 { nx := fun _ M' => Q .non M', rt := Q } (fun x _ M' => E x M') := fun hi => by
    have k1 := k M1 x1
    unfold iD at k1
    rw [hi, if_pos rfl] at k1
    simp only [w_integer_l_3, wSeq, wAsg, wDrop, wRet, wRetN, wNext, wIfS, wBl, Fg.wTru, wOp, wUn, wCl, wCons, wNil, wVar, wCst, wTup, wLst, gNm, wCall, List.set_cons_zero, List.set_cons_succ, List.getElem?_cons_zero, List.getElem?_cons_succ]
    exact cIntS hi k1
  have hh : decide ((h :: t : List Nat).head? = some 48) = decide (([h] : List Nat) = [48]) := by
    by_cases q : h = 48
    · rw [q]; rfl
    · rw [decide_eq_false (by simpa using q), decide_eq_false (by simpa using q)]
  rw [hh] at law
  by_cases c4 : ([h] : List Nat) = [48]
  · simp only [c4, decide_true, if_true]
    rw [decide_eq_true c4, Bool.true_and] at law
    by_cases c5 : l = [48]
    · simp only [c5, decide_true, Bool.not_true, Bool.false_eq_true, if_false]
      rw [c5] at last law
      exact last (by rw [law]; decide)
    · simp only [c5, decide_false, Bool.not_false, if_true]
      exact no (by rw [law, decide_eq_true c5]; rfl) M1 x1
  · simp only [c4, decide_false, Bool.false_eq_true, if_false]
    rw [decide_eq_false c4, Bool.false_and] at law
    exact last law
end FgL
/-! Z6: what a text tells by some forms: the program's members_of. -/
namespace FgL
open PySem PySem.Spec L2 Fg
open PyProof.Rows hiding St
/-- a word, its names, its integers -/
abbrev Sh : Type := List (Str × Nat × Nat)
def kd (b : Bool) : Str := if b = true then Str.ofString "name" else Str.ofString "integer"
def bools (n i : Nat) : List Bool := List.replicate n true ++ List.replicate i false
def tbl (sh : Sh) : List (Str × List Str) := sh.map fun r => (r.1, (bools r.2.1 r.2.2).map kd)
def fnd (sh : Sh) (w : Str) : Option (Nat × Nat) := (sh.find? fun r => decide (r.1 = w)).map (·.2)
abbrev blank : Str := Str.ofString " "
/-- one member -/
def memb (p : Bool × Str) : D := if p.1 = true then nD p.2.cps.toList else iD p.2.cps.toList
def rdD (sh : Sh) (ws : List Str) : D := match ws with
  | [] => .non
  | w0 :: rest => match fnd sh w0 with
    | none => .non
    | some (n, i) => if rest.length ≠ n + i then .non else if (((bools n i).zip rest).map memb).any Fg.isNon = true then .non else .tup (.str w0 :: ((bools n i).zip rest).map memb)
theorem kS_ok (rows : List (Str × List Str)) (w : Str) : KOk (rowsD rows) (.str w) (.text w) := ⟨rfl, by simp [NestedKey.depth], .inl ⟨rfl, fun p hp => by
  obtain ⟨r, _, rfl⟩ := List.mem_map.mp hp
  rfl⟩⟩
theorem look_rows (w : Str) : ∀ sh : Sh, lookK (rowsD (tbl sh)) (.text w) = (fnd sh w).map fun p => .tup ((bools p.1 p.2).map fun b => .str (kd b))
  | [] => rfl
  | r :: sh => by
    have ih := look_rows w sh
    unfold lookK rowsD tbl fnd at *
    rw [List.map_cons, List.map_cons, List.find?_cons, List.find?_cons]
    by_cases c : r.1 = w
    · subst c
      have d : dkey (D.str r.1) = some (.text r.1) := rfl
      simp only [d, decide_true, Option.map_some, List.map_map]
      rfl
    · have d : ¬ dkey (D.str r.1) = some (.text w) := fun e => c (by
        have e' : some (NestedKey.text r.1) = some (NestedKey.text w) := e
        have := Option.some.inj e'
        injection this)
      simp only [d, decide_false, c]
      exact ih
theorem zip_bools (bs : List Bool) (ws : List Str) : zipD (bs.map fun b => D.str (kd b)) (ws.map D.str) = (bs.zip ws).map fun p => .tup [.str (kd p.1), .str p.2] := by
  unfold zipD
  rw [List.zip_map, List.map_map]
  rfl
theorem wlen (w : Str) : w.cps.toList.length = w.length := by show w.cps.toList.length = w.cps.size; simp
theorem p_members {M : MM} {f : Addr} {o : Obj} {sh : Sh} {z : Str} {Q : QD} {E : QX} (hf : M f = some (.dct o (rowsD (tbl sh)))) (hz : z.length ≤ 100000) (hw : ∀ w ∈ Txt.split z blank, w.length ≤ 100000) (hl : (Txt.split z blank).length ≤ 100002) (hp : 1 ≤ (Txt.split z blank).length)
    (k : ∀ M', Ext M M' → Q (rdD sh (Txt.split z blank)) M') : sp_members_of [.ref f, .str z] M Q E := by
  refine ⟨rfl, ?_⟩
  show w_members_of [some (.ref f), some (.str z), none, none, none, none, none] M _ _
  have kt : knownTy "str" = true ∧ isTy "str" "str" = true := by decide
  (unfold w_members_of; obtain ⟨Tl, hTl⟩ : ∃ x, x = w_members_of_1 := ⟨_, rfl⟩; rw [← hTl]; simp only [wSeq, wAsg, wDrop, wRet, wRetN, wNext, wIfS, wBl, Fg.wTru, wOp, wUn, wCl, wCons, wNil, wVar, wCst, wTup, wLst, gNm, wCall, List.set_cons_zero, List.set_cons_succ, List.getElem?_cons_zero, List.getElem?_cons_succ, wNotB, cIsi, tyOf, exists_eq_left', exists_and_left, Option.some.injEq, List.cons.injEq, and_true, true_and, D.int.injEq, D.ref.injEq, D.str.injEq, D.tup.injEq, D.bl.injEq, exists_eq', and_assoc, kt, truD]; subst hTl)
  simp only [Bool.not_true, Bool.false_eq_true, if_false]
  (unfold w_members_of_1; obtain ⟨Tl, hTl⟩ : ∃ x, x = w_members_of_2 := ⟨_, rfl⟩; rw [← hTl]; simp only [wSeq, wAsg, wDrop, wRet, wRetN, wNext, wIfS, wBl, Fg.wTru, wOp, wUn, wCl, wCons, wNil, wVar, wCst, wTup, wLst, gNm, wCall, List.set_cons_zero, List.set_cons_succ, List.getElem?_cons_zero, List.getElem?_cons_succ, wBm, tyR]; subst hTl)
  refine ⟨trivial, z, blank, rfl, rfl, by decide +kernel, by rw [sizeLine_eq]; omega, fun p hpn => ?_⟩
  generalize Txt.split z blank = ws at hw hl hp k ⊢
  have x1 : Ext M (Fg.up M p (.lst (ws.map D.str))) := .new hpn
  have e1 : Fg.up M p (.lst (ws.map D.str)) p = some (.lst (ws.map D.str)) := up_same
  have f1 := x1 _ _ hf
  generalize Fg.up M p (.lst (ws.map D.str)) = M1 at x1 e1 f1 ⊢
  cases ws with
  | nil => simp at hp
  | cons w0 rest =>
    have a0 : atI ((w0 :: rest).map D.str) 0 = some (.str w0) := at_lt (by decide) rfl
    have lk := look_rows w0 sh
    (unfold w_members_of_2; obtain ⟨Tl, hTl⟩ : ∃ x, x = w_members_of_3 := ⟨_, rfl⟩; rw [← hTl]; simp only [wSeq, wAsg, wDrop, wRet, wRetN, wNext, wIfS, wBl, Fg.wTru, wOp, wUn, wCl, wCons, wNil, wVar, wCst, wTup, wLst, gNm, wCall, List.set_cons_zero, List.set_cons_succ, List.getElem?_cons_zero, List.getElem?_cons_succ, wOrB, cLen]; subst hTl)
    refine ixL e1 a0 ?_
    simp only [dNotIn, dIn, f1]
    refine ⟨_, kS_ok _ w0, ?_⟩
    rw [lk]
    unfold rdD at k
    cases q : fnd sh w0 with
    | none =>
      simp only [q] at k
      simp only [Option.map_none, Option.isSome_none, Bool.not_false, if_true]
      exact k M1 x1
    | some ni =>
      obtain ⟨n, i⟩ := ni
      simp only [q] at k
      rw [q] at lk
      simp only [Option.map_some, Option.isSome_some, Bool.not_true, Bool.false_eq_true, if_false]
      refine ⟨_, (w0 :: rest).length, rfl, by unfold lenD; simp only [e1, List.length_map], ?_⟩
      simp only [dSub]
      refine ixL e1 a0 ?_
      have dix : ∀ {M2 : MM} {Q2 : QD}, M2 f = some (.dct o (rowsD (tbl sh))) → Q2 (.tup ((bools n i).map fun b => .str (kd b))) M2 → dIx (.ref f) (.str w0) M2 Q2 := fun {M2 Q2} h g => by
        unfold dIx
        simp only [h]
        exact ⟨_, _, kS_ok _ w0, lk, g⟩
      refine dix f1 ?_
      have lb : (bools n i).length = n + i := by unfold bools; rw [List.length_append, List.length_replicate, List.length_replicate]
      refine ⟨_, (bools n i).length, rfl, by show some _ = _; rw [List.length_map], ?_⟩
      simp only [dNe, dEq]
      by_cases c : rest.length = n + i
      · have c' : (((w0 :: rest).length : Nat) : Int) - 1 = (((bools n i).length : Nat) : Int) := by rw [List.length_cons, lb]; omega
        simp only [c', decide_true, Bool.not_true, Bool.false_eq_true, if_false]
        rw [if_neg (by rw [c]; simp)] at k
        (unfold w_members_of_3; obtain ⟨Tl, hTl⟩ : ∃ x, x = w_members_of_4 := ⟨_, rfl⟩; rw [← hTl]; simp only [wSeq, wAsg, wDrop, wRet, wRetN, wNext, wIfS, wBl, Fg.wTru, wOp, wUn, wCl, wCons, wNil, wVar, wCst, wTup, wLst, gNm, wCall, List.set_cons_zero, List.set_cons_succ, List.getElem?_cons_zero, List.getElem?_cons_succ, wLc, wZip, wSl, wSoP, wNoP]; subst hTl)
        refine ixL e1 a0 ?_
        refine dix f1 ?_
        refine ⟨1, rfl, ?_⟩
        refine ⟨_, lstOf_ref e1, fun b hb => ?_⟩
        have ec : cutL ((w0 :: rest).map D.str) (some 1) none = rest.map D.str := by
          unfold cutL
          rw [show HT.sIx ((w0 :: rest).map D.str).length 0 (some 1) = min 1 ((w0 :: rest).map D.str).length from HT.sIx_nat _ _ 1]
          show (((w0 :: rest).map D.str).drop (min 1 ((w0 :: rest).map D.str).length)).take (((w0 :: rest).map D.str).length - min 1 ((w0 :: rest).map D.str).length) = _
          rw [List.length_map, List.length_cons, Nat.min_eq_left (by omega), List.map_cons, List.drop_one, List.tail_cons, List.take_of_length_le (by rw [List.length_map]; omega)]
        rw [ec]
        have x2 : Ext M1 (Fg.up M1 b (.lst (rest.map D.str))) := .new hb
        have e2 : Fg.up M1 b (.lst (rest.map D.str)) b = some (.lst (rest.map D.str)) := up_same
        generalize Fg.up M1 b (.lst (rest.map D.str)) = M2 at x2 e2 ⊢
        refine ⟨_, b, _, rfl, e2, fun r hr => ?_⟩
        rw [zip_bools]
        refine lc_map (xs := (bools n i).zip rest) hr (fun p => .tup [.str (kd p.1), .str p.2]) memb (fun _ => true) (fun M' x' => x' _ _ e2) (by rw [List.length_zip, sizeLine_eq]; omega) (fun y hy M3 x3 K1 K0 k1 k0 => ?_) fun M3 x3 e3 => ?_
        · have hyw := hw y.2 (List.mem_cons_of_mem _ (List.of_mem_zip hy).2)
          refine ⟨_, rfl, rfl, ?_⟩
          simp only [gMany, wipeD, wSeq, wAsg, wDrop, wRet, wRetN, wNext, wIfS, wBl, Fg.wTru, wOp, wUn, wCl, wCons, wNil, wVar, wCst, wTup, wLst, gNm, wCall, List.set_cons_zero, List.set_cons_succ, List.getElem?_cons_zero, List.getElem?_cons_succ, wYes, if_true]
          have k1' : ∀ M', Ext M3 M' → K1 (memb y) M' := fun M' x' => k1 rfl M' x'
          have := p_member (M := M3) (l := y.2.cps.toList) (b := y.1) (Q := K1) (E := noX) (by rw [wlen, sizeLine_eq]; omega) k1'
          rw [S_of] at this
          exact this
        rw [List.filter_eq_self.mpr fun _ _ => rfl] at e3
        have x13 := x2.trans x3
        have e13 := x13 _ _ e1
        simp only [w_members_of_4, wSeq, wAsg, wDrop, wRet, wRetN, wNext, wIfS, wBl, Fg.wTru, wOp, wUn, wCl, wCons, wNil, wVar, wCst, wTup, wLst, gNm, wCall, List.set_cons_zero, List.set_cons_succ, List.getElem?_cons_zero, List.getElem?_cons_succ, wIte, wLc, wWk, cAny]
        obtain ⟨st, hwk, hst⟩ := walk_lst e3
        refine ⟨_, st, hwk, fun s hs => ?_⟩
        refine lc_map (xs := (bools n i).zip rest) hs memb (fun y => .bl (Fg.isNon (memb y))) (fun _ => true) (fun M' x' => hst M' (x' _ _ e3)) (by rw [List.length_zip, sizeLine_eq]; omega) (fun y hy M4 x4 K1 K0 k1 k0 => ?_) fun M4 x4 e4 => ?_
        · simp only [wipeD, wSeq, wAsg, wDrop, wRet, wRetN, wNext, wIfS, wBl, Fg.wTru, wOp, wUn, wCl, wCons, wNil, wVar, wCst, wTup, wLst, gNm, wCall, List.set_cons_zero, List.set_cons_succ, List.getElem?_cons_zero, List.getElem?_cons_succ, wYes, if_true, dIs]
          exact k1 rfl M4 (Ext.refl _)
        rw [List.filter_eq_self.mpr fun _ _ => rfl] at e4
        refine ⟨_, (((bools n i).zip rest).map memb).map Fg.isNon, rfl, lstOf_ref (by rw [e4, List.map_map, List.map_map]; rfl), ?_⟩
        refine ⟨_, rfl, ?_⟩
        have eb : ((((bools n i).zip rest).map memb).map Fg.isNon).any id = (((bools n i).zip rest).map memb).any Fg.isNon := by rw [List.any_map]; rfl
        rw [eb]
        have xx := x1.trans (x13.trans x4)
        by_cases c2 : (((bools n i).zip rest).map memb).any Fg.isNon = true
        · rw [if_pos c2] at k
          rw [if_pos c2]
          exact k M4 xx
        · rw [if_neg c2] at k
          rw [if_neg c2]
          refine ixL (x4 _ _ e13) a0 ?_
          simp only [cTuple, List.length_cons, List.length_nil]
          refine ⟨by rw [sizeLine_eq]; decide, _, _, rfl, items_ref (x4 _ _ e3), ?_⟩
          simp only [dAdd]
          refine ⟨by rw [List.length_map, List.length_zip, List.length_singleton, sizeLine_eq]; omega, ?_⟩
          exact k M4 xx
      · have c' : ¬ (((w0 :: rest).length : Nat) : Int) - 1 = (((bools n i).length : Nat) : Int) := by rw [List.length_cons, lb]; omega
        simp only [c', decide_false, Bool.not_false, if_true]
        rw [if_pos c] at k
        exact k M1 x1
end FgL
/-! Z7: what a text tells by some forms: the law's own reading. -/
namespace FgL
open PySem PySem.Spec L2 Fg
open PyProof.Rows hiding St
def shD (sh : Sh) : List (D × D) := sh.map fun r => (.str r.1, .tup [.int (r.2.1 : Int), .int (r.2.2 : Int)])
theorem kSh_ok (sh : Sh) (w : Str) : KOk (shD sh) (.str w) (.text w) := ⟨rfl, by simp [NestedKey.depth], .inl ⟨rfl, fun p hp => by
  obtain ⟨r, _, rfl⟩ := List.mem_map.mp hp
  rfl⟩⟩
theorem look_shD (w : Str) : ∀ sh : Sh, lookK (shD sh) (.text w) = (fnd sh w).map fun p => .tup [.int (p.1 : Int), .int (p.2 : Int)]
  | [] => rfl
  | r :: sh => by
    have ih := look_shD w sh
    unfold lookK shD fnd at *
    rw [List.map_cons, List.find?_cons, List.find?_cons]
    by_cases c : r.1 = w
    · subst c
      have d : dkey (D.str r.1) = some (.text r.1) := rfl
      simp only [d, decide_true, Option.map_some]
    · have d : ¬ dkey (D.str r.1) = some (.text w) := fun e => c (by
        have e' : some (NestedKey.text r.1) = some (NestedKey.text w) := e
        have := Option.some.inj e'
        injection this)
      simp only [d, decide_false, c]
      exact ih
theorem zip_rep {α : Type} (b : Bool) : ∀ (l : List α), (List.replicate l.length b).zip l = l.map fun x => (b, x)
  | [] => rfl
  | x :: l => by rw [List.length_cons, List.replicate_succ, List.zip_cons_cons, zip_rep b l]; rfl
theorem zip_two {rest : List Str} {n i : Nat} (h : rest.length = n + i) : (bools n i).zip rest = (rest.take n).map (fun x => (true, x)) ++ (rest.drop n).map fun x => (false, x) := by
  have l1 : (rest.take n).length = n := by rw [List.length_take]; omega
  have l2 : (rest.drop n).length = i := by rw [List.length_drop]; omega
  unfold bools
  conv => lhs; rw [← List.take_append_drop n rest]
  rw [List.zip_append (by rw [List.length_replicate, l1])]
  have e1 := zip_rep true (rest.take n)
  have e2 := zip_rep false (rest.drop n)
  rw [l1] at e1
  rw [l2] at e2
  rw [e1, e2]
theorem cutL_nn (ds : List D) (a b : Nat) : cutL ds (some (a : Int)) (some (b : Int)) = (ds.drop (min a ds.length)).take (min b ds.length - min a ds.length) := by
  unfold cutL
  rw [HT.sIx_nat, HT.sIx_nat]
theorem cutL_n (ds : List D) (a : Nat) : cutL ds (some (a : Int)) none = ds.drop (min a ds.length) := by
  unfold cutL
  rw [HT.sIx_nat]
  show (ds.drop (min a ds.length)).take (ds.length - min a ds.length) = _
  rw [List.take_of_length_le (by rw [List.length_drop]; omega)]
theorem cutL_to (ds : List D) (b : Nat) : cutL ds none (some (b : Int)) = ds.take (min b ds.length) := by
  unfold cutL
  rw [HT.sIx_nat]
  show (ds.drop 0).take (min b ds.length - 0) = _
  rw [List.drop_zero, Nat.sub_zero]
theorem any_non (B : List Str) : anyEq (B.map fun w => iD w.cps.toList) .non = (B.map fun w => memb (false, w)).any Fg.isNon := by
  unfold anyEq
  rw [List.any_map, List.any_map]
  congr 1
  funext w
  show eqD (iD w.cps.toList) .non = Fg.isNon (iD w.cps.toList)
  unfold iD
  split
  · simp [eqD, toP, PyData.eqv, Fg.isNon]
  · simp [eqD, toP, PyData.eqv, Fg.isNon]
theorem dats_i : ∀ B : List Str, dats (B.map fun w => iD w.cps.toList) = true ∧ deps (B.map fun w => iD w.cps.toList) = 0
  | [] => ⟨rfl, rfl⟩
  | w :: B => by
    obtain ⟨h1, h2⟩ := dats_i B
    rw [List.map_cons, dats, deps, h1, h2]
    unfold iD
    split
    · exact ⟨rfl, rfl⟩
    · exact ⟨rfl, rfl⟩
theorem p_formed {M : MM} {f : Addr} {o : Obj} {sh : Sh} {z : Str} {Q : QD} {E : QX} (hf : M f = some (.dct o (shD sh))) (hz : z.length ≤ 100000) (hw : ∀ w ∈ Txt.split z blank, w.length ≤ 100000) (hl : (Txt.split z blank).length ≤ 100002) (hp : 1 ≤ (Txt.split z blank).length) (hsh : ∀ r ∈ sh, r.2.1 ≤ 100 ∧ r.2.2 ≤ 100)
    (k : ∀ M', Ext M M' → Q (rdD sh (Txt.split z blank)) M') : sp_formed_l [.str z, .ref f] M Q E := by
  refine ⟨rfl, ?_⟩
  show w_formed_l [some (.str z), some (.ref f), none, none, none, none, none] M _ _
  (unfold w_formed_l; obtain ⟨Tl, hTl⟩ : ∃ x, x = w_formed_l_1 := ⟨_, rfl⟩; rw [← hTl]; simp only [wSeq, wAsg, wDrop, wRet, wRetN, wNext, wIfS, wBl, Fg.wTru, wOp, wUn, wCl, wCons, wNil, wVar, wCst, wTup, wLst, gNm, wCall, List.set_cons_zero, List.set_cons_succ, List.getElem?_cons_zero, List.getElem?_cons_succ, wBm, tyR]; subst hTl)
  refine ⟨trivial, z, blank, rfl, rfl, by decide +kernel, by rw [sizeLine_eq]; omega, fun p hpn => ?_⟩
  generalize Txt.split z blank = ws at hw hl hp k ⊢
  have x1 : Ext M (Fg.up M p (.lst (ws.map D.str))) := .new hpn
  have e1 : Fg.up M p (.lst (ws.map D.str)) p = some (.lst (ws.map D.str)) := up_same
  have f1 := x1 _ _ hf
  generalize Fg.up M p (.lst (ws.map D.str)) = M1 at x1 e1 f1 ⊢
  cases ws with
  | nil => simp at hp
  | cons w0 rest =>
    have a0 : atI ((w0 :: rest).map D.str) 0 = some (.str w0) := at_lt (by decide) rfl
    have lk := look_shD w0 sh
    (unfold w_formed_l_1; obtain ⟨Tl, hTl⟩ : ∃ x, x = w_formed_l_2 := ⟨_, rfl⟩; rw [← hTl]; simp only [wSeq, wAsg, wDrop, wRet, wRetN, wNext, wIfS, wBl, Fg.wTru, wOp, wUn, wCl, wCons, wNil, wVar, wCst, wTup, wLst, gNm, wCall, List.set_cons_zero, List.set_cons_succ, List.getElem?_cons_zero, List.getElem?_cons_succ]; subst hTl)
    refine ixL e1 a0 ?_
    simp only [dNotIn, dIn, f1]
    refine ⟨_, kSh_ok _ w0, ?_⟩
    rw [lk]
    unfold rdD at k
    cases q : fnd sh w0 with
    | none =>
      simp only [q] at k
      simp only [Option.map_none, Option.isSome_none, Bool.not_false, if_true]
      exact k M1 x1
    | some ni =>
      obtain ⟨n, i⟩ := ni
      simp only [q] at k
      rw [q] at lk
      have hni : n ≤ 100 ∧ i ≤ 100 := by
        unfold fnd at q
        obtain ⟨r, hr, er⟩ := Option.map_eq_some_iff.mp q
        have := hsh r (List.mem_of_find?_eq_some hr)
        rw [er] at this
        exact this
      simp only [Option.map_some, Option.isSome_some, Bool.not_true, Bool.false_eq_true, if_false]
      (unfold w_formed_l_2; obtain ⟨Tl, hTl⟩ : ∃ x, x = w_formed_l_3 := ⟨_, rfl⟩; rw [← hTl]; simp only [wSeq, wAsg, wDrop, wRet, wRetN, wNext, wIfS, wBl, Fg.wTru, wOp, wUn, wCl, wCons, wNil, wVar, wCst, wTup, wLst, gNm, wCall, List.set_cons_zero, List.set_cons_succ, List.getElem?_cons_zero, List.getElem?_cons_succ]; subst hTl)
      refine ixL e1 a0 ?_
      have dix : ∀ {Q2 : QD}, Q2 (.tup [.int (n : Int), .int (i : Int)]) M1 → dIx (.ref f) (.str w0) M1 Q2 := fun {Q2} g => by
        unfold dIx
        simp only [f1]
        exact ⟨_, _, kSh_ok _ w0, lk, g⟩
      refine dix ⟨_, rfl, rfl, ?_⟩
      simp only [gMany, wSeq, wAsg, wDrop, wRet, wRetN, wNext, wIfS, wBl, Fg.wTru, wOp, wUn, wCl, wCons, wNil, wVar, wCst, wTup, wLst, gNm, wCall, List.set_cons_zero, List.set_cons_succ, List.getElem?_cons_zero, List.getElem?_cons_succ]
      (unfold w_formed_l_3; obtain ⟨Tl, hTl⟩ : ∃ x, x = w_formed_l_4 := ⟨_, rfl⟩; rw [← hTl]; simp only [wSeq, wAsg, wDrop, wRet, wRetN, wNext, wIfS, wBl, Fg.wTru, wOp, wUn, wCl, wCons, wNil, wVar, wCst, wTup, wLst, gNm, wCall, List.set_cons_zero, List.set_cons_succ, List.getElem?_cons_zero, List.getElem?_cons_succ, cLen, dAdd, dNe, dEq]; subst hTl)
      refine ⟨_, (w0 :: rest).length, rfl, by unfold lenD; simp only [e1, List.length_map], ?_⟩
      by_cases c : rest.length = n + i
      · have c' : (((w0 :: rest).length : Nat) : Int) = 1 + (n : Int) + (i : Int) := by rw [List.length_cons]; omega
        simp only [c', decide_true, Bool.not_true, Bool.false_eq_true, if_false]
        rw [if_neg (by rw [c]; simp), zip_two c] at k
        rw [List.length_cons] at hl
        have lA : (rest.take n).length = n := by rw [List.length_take]; omega
        have hA : ∀ w ∈ rest.take n, w.length ≤ 100000 := fun w h => hw w (List.mem_cons_of_mem _ (List.mem_of_mem_take h))
        have hB : ∀ w ∈ rest.drop n, w.length ≤ 100000 := fun w h => hw w (List.mem_cons_of_mem _ (List.mem_of_mem_drop h))
        have eA : cutL ((w0 :: rest).map D.str) (some 1) (some (1 + (n : Int))) = (rest.take n).map D.str := by
          have := cutL_nn ((w0 :: rest).map D.str) 1 (1 + n)
          rw [show ((1 + n : Nat) : Int) = 1 + (n : Int) by omega] at this
          refine this.trans ?_
          rw [List.length_map, List.length_cons, Nat.min_eq_left (by omega), Nat.min_eq_left (by omega), List.map_cons, List.drop_one, List.tail_cons, show 1 + n - 1 = n by omega, List.map_take]
        have eB : cutL ((w0 :: rest).map D.str) (some (1 + (n : Int))) none = (rest.drop n).map D.str := by
          have := cutL_n ((w0 :: rest).map D.str) (1 + n)
          rw [show ((1 + n : Nat) : Int) = 1 + (n : Int) by omega] at this
          refine this.trans ?_
          rw [List.length_map, List.length_cons, Nat.min_eq_left (by omega), List.map_cons, Nat.add_comm, List.drop_succ_cons, List.map_drop]
        have eC : cutL ((w0 :: rest).map D.str) none (some (1 + (n : Int))) = (w0 :: rest.take n).map D.str := by
          have := cutL_to ((w0 :: rest).map D.str) (1 + n)
          rw [show ((1 + n : Nat) : Int) = 1 + (n : Int) by omega] at this
          refine this.trans ?_
          rw [List.length_map, List.length_cons, Nat.min_eq_left (by omega), List.map_cons, Nat.add_comm, List.take_succ_cons, List.map_cons, List.map_take]
        generalize rest.take n = A at k lA hA eA eC
        generalize rest.drop n = B at k hB eB
        have kA : (((A.map fun x => (true, x)) ++ B.map fun x => (false, x)).map memb) = (A.map fun w => nD w.cps.toList) ++ B.map fun w => memb (false, w) := by
          rw [List.map_append, List.map_map, List.map_map]; rfl
        rw [kA, List.any_append] at k
        (unfold w_formed_l_4; obtain ⟨Tl, hTl⟩ : ∃ x, x = w_formed_l_5 := ⟨_, rfl⟩; rw [← hTl]; simp only [wSeq, wAsg, wDrop, wRet, wRetN, wNext, wIfS, wBl, Fg.wTru, wOp, wUn, wCl, wCons, wNil, wVar, wCst, wTup, wLst, gNm, wCall, List.set_cons_zero, List.set_cons_succ, List.getElem?_cons_zero, List.getElem?_cons_succ, wLc, wWk, wSl, wSoP, dAdd, wNotB, cLen, dGt, dOrd]; subst hTl)
        refine ⟨1, rfl, _, rfl, ?_⟩
        refine ⟨_, lstOf_ref e1, fun b hb => ?_⟩
        rw [eA]
        have x2 : Ext M1 (Fg.up M1 b (.lst (A.map D.str))) := .new hb
        have e2 : Fg.up M1 b (.lst (A.map D.str)) b = some (.lst (A.map D.str)) := up_same
        generalize Fg.up M1 b (.lst (A.map D.str)) = M2 at x2 e2 ⊢
        obtain ⟨st, hwk, hst⟩ := walk_lst e2
        refine ⟨_, st, hwk, fun s hs => ?_⟩
        refine lc_map (xs := A) hs D.str D.str (fun w => !nm w.cps.toList) (fun M' x' => hst M' (x' _ _ e2)) (by rw [sizeLine_eq]; omega) (fun w hw' M3 x3 K1 K0 k1 k0 => ?_) fun M3 x3 e3 => ?_
        · simp only [wipeD, wSeq, wAsg, wDrop, wRet, wRetN, wNext, wIfS, wBl, Fg.wTru, wOp, wUn, wCl, wCons, wNil, wVar, wCst, wTup, wLst, gNm, wCall, List.set_cons_zero, List.set_cons_succ, List.getElem?_cons_zero, List.getElem?_cons_succ]
          have hwl := hA w hw'
          have := p_is_name_l (M := M3) (l := w.cps.toList) (E := noX) (Q := fun d M' => ∃ b, truD M' d = some b ∧ if (!b) = true then K1 (.str w) M' else K0 M') (by rw [wlen, sizeLine_eq]; omega) fun M' x' => ⟨_, rfl, by
            cases qn : nm w.cps.toList with
            | true => exact k0 (by rw [qn]; rfl) M' x'
            | false => exact k1 (by rw [qn]; rfl) M' x'⟩
          rw [S_of] at this
          exact this
        refine ⟨_, (A.filter fun w => !nm w.cps.toList).length, rfl, by unfold lenD; simp only [e3, List.length_map], ?_⟩
        have lA2 : (0 < (A.filter fun w => !nm w.cps.toList).length) ↔ (A.map fun w => nD w.cps.toList).any Fg.isNon = true := by
          rw [List.length_pos_iff_exists_mem, List.any_eq_true]
          constructor
          · rintro ⟨w, hw'⟩
            obtain ⟨h1, h2⟩ := List.mem_filter.mp hw'
            refine ⟨_, List.mem_map.mpr ⟨w, h1, rfl⟩, ?_⟩
            unfold nD
            rw [if_neg (by simpa using h2)]
            rfl
          · rintro ⟨d, hd, hn⟩
            obtain ⟨w, h1, rfl⟩ := List.mem_map.mp hd
            refine ⟨w, List.mem_filter.mpr ⟨h1, ?_⟩⟩
            unfold nD at hn
            cases qn : nm w.cps.toList with
            | true => rw [qn, if_pos rfl] at hn; cases hn
            | false => rfl
        by_cases c2 : 0 < (A.filter fun w => !nm w.cps.toList).length
        · have c2' : (0 : Int) < (((A.filter fun w => !nm w.cps.toList).length : Nat) : Int) := by omega
          simp only [c2', decide_true, if_true]
          rw [lA2.mp c2, Bool.true_or, if_pos rfl] at k
          exact k M3 (x1.trans (x2.trans x3))
        have c2' : ¬ (0 : Int) < (((A.filter fun w => !nm w.cps.toList).length : Nat) : Int) := by omega
        simp only [c2', decide_false, Bool.false_eq_true, if_false]
        have nA : (A.map fun w => nD w.cps.toList).any Fg.isNon = false := by
          cases qn : (A.map fun w => nD w.cps.toList).any Fg.isNon with
          | true => exact absurd (lA2.mpr qn) c2
          | false => rfl
        have sA : (A.map fun w => nD w.cps.toList) = A.map D.str := List.map_congr_left fun w hw' => by
          unfold nD
          cases qn : nm w.cps.toList with
          | true => rw [if_pos rfl, S_of]
          | false => exact absurd (List.length_pos_iff_exists_mem.mpr ⟨w, List.mem_filter.mpr ⟨hw', by rw [qn]; rfl⟩⟩) c2
        rw [nA, Bool.false_or, sA, ← any_non] at k
        have e13 := (x2.trans x3) _ _ e1
        (unfold w_formed_l_5; obtain ⟨Tl, hTl⟩ : ∃ x, x = w_formed_l_6 := ⟨_, rfl⟩; rw [← hTl]; simp only [wSeq, wAsg, wDrop, wRet, wRetN, wNext, wIfS, wBl, Fg.wTru, wOp, wUn, wCl, wCons, wNil, wVar, wCst, wTup, wLst, gNm, wCall, List.set_cons_zero, List.set_cons_succ, List.getElem?_cons_zero, List.getElem?_cons_succ, wLc, wWk, wSl, wSoP, wNoP, dAdd]; subst hTl)
        refine ⟨_, rfl, ?_⟩
        refine ⟨_, lstOf_ref e13, fun b2 hb2 => ?_⟩
        rw [eB]
        have x4 : Ext M3 (Fg.up M3 b2 (.lst (B.map D.str))) := .new hb2
        have e4 : Fg.up M3 b2 (.lst (B.map D.str)) b2 = some (.lst (B.map D.str)) := up_same
        generalize Fg.up M3 b2 (.lst (B.map D.str)) = M4 at x4 e4 ⊢
        have lB : B.length ≤ 100002 := by
          have := congrArg List.length eB
          rw [List.length_map] at this
          rw [← this]
          have := cutL_n ((w0 :: rest).map D.str) (1 + n)
          rw [show ((1 + n : Nat) : Int) = 1 + (n : Int) by omega] at this
          rw [this, List.length_drop, List.length_map, List.length_cons]
          omega
        obtain ⟨st2, hwk2, hst2⟩ := walk_lst e4
        refine ⟨_, st2, hwk2, fun s2 hs2 => ?_⟩
        refine lc_map (xs := B) hs2 D.str (fun w => iD w.cps.toList) (fun _ => true) (fun M' x' => hst2 M' (x' _ _ e4)) (by rw [sizeLine_eq]; omega) (fun w hw' M5 x5 K1 K0 k1 k0 => ?_) fun M5 x5 e5 => ?_
        · simp only [wipeD, wSeq, wAsg, wDrop, wRet, wRetN, wNext, wIfS, wBl, Fg.wTru, wOp, wUn, wCl, wCons, wNil, wVar, wCst, wTup, wLst, gNm, wCall, List.set_cons_zero, List.set_cons_succ, List.getElem?_cons_zero, List.getElem?_cons_succ, wYes, if_true]
          have hwl := hB w hw'
          have := p_integer_l (M := M5) (l := w.cps.toList) (E := noX) (Q := K1) (by rw [wlen, sizeLine_eq]; omega) fun M' x' => k1 rfl M' x'
          rw [S_of] at this
          exact this
        rw [List.filter_eq_self.mpr fun _ _ => rfl] at e5
        have y5 := x1.trans (x2.trans (x3.trans (x4.trans x5)))
        obtain ⟨d1, d2⟩ := dats_i B
        (unfold w_formed_l_6; obtain ⟨Tl, hTl⟩ : ∃ x, x = w_formed_l_7 := ⟨_, rfl⟩; rw [← hTl]; simp only [wSeq, wAsg, wDrop, wRet, wRetN, wNext, wIfS, wBl, Fg.wTru, wOp, wUn, wCl, wCons, wNil, wVar, wCst, wTup, wLst, gNm, wCall, List.set_cons_zero, List.set_cons_succ, List.getElem?_cons_zero, List.getElem?_cons_succ, dIn, e5]; subst hTl)
        refine ⟨rfl, d1, by rw [d2]; simp, ?_⟩
        by_cases c3 : anyEq (B.map fun w => iD w.cps.toList) .non = true
        · rw [c3, if_pos rfl] at k
          rw [c3, if_pos rfl]
          exact k M5 y5
        · have c3' : anyEq (B.map fun w => iD w.cps.toList) .non = false := by simpa using c3
          rw [if_neg c3] at k
          rw [c3']
          simp only [Bool.false_eq_true, if_false]
          simp only [w_formed_l_7, wSeq, wAsg, wDrop, wRet, wRetN, wNext, wIfS, wBl, Fg.wTru, wOp, wUn, wCl, wCons, wNil, wVar, wCst, wTup, wLst, gNm, wCall, List.set_cons_zero, List.set_cons_succ, List.getElem?_cons_zero, List.getElem?_cons_succ, wSl, wSoP, wNoP, dAdd, cTuple]
          refine ⟨_, rfl, ?_⟩
          refine ⟨_, lstOf_ref ((x4.trans x5) _ _ e13), fun b3 hb3 => ?_⟩
          rw [eC]
          refine ⟨_, _, up_same, (Ext.new hb3) _ _ e5, by rw [List.length_map, List.length_map, List.length_cons, lA, sizeLine_eq]; omega, fun b4 hb4 => ?_⟩
          refine ⟨_, _, rfl, items_ref up_same, ?_⟩
          have fin := k _ (y5.trans ((Ext.new (o := .lst ((w0 :: A).map D.str)) hb3).trans (.new (o := .lst ((w0 :: A).map D.str ++ B.map fun w => iD w.cps.toList)) hb4)))
          exact fin
      · have c' : ¬ (((w0 :: rest).length : Nat) : Int) = 1 + (n : Int) + (i : Int) := by rw [List.length_cons]; omega
        simp only [c', decide_false, Bool.not_false, if_true]
        rw [if_pos c] at k
        exact k M1 x1
end FgL
/-! Z8: what is told; the same. -/
namespace FgL
open PySem PySem.Spec L2 Fg
open PyProof.Rows hiding St
theorem kt : knownTy "int" = true ∧ knownTy "bool" = true ∧ knownTy "str" = true ∧ knownTy "list" = true ∧ knownTy "tuple" = true := by decide
theorem it1 : isTy "NoneType" "tuple" = false ∧ isTy "NoneType" "list" = false ∧ isTy "NoneType" "str" = false ∧ isTy "tuple" "tuple" = true ∧ isTy "tuple" "list" = false ∧ isTy "tuple" "str" = false ∧ isTy "tuple" "int" = false ∧ isTy "tuple" "bool" = false ∧ isTy "list" "str" = false ∧ isTy "str" "tuple" = false ∧ isTy "str" "list" = false ∧ isTy "str" "str" = true ∧ isTy "str" "bool" = false ∧ isTy "str" "int" = false ∧ isTy "bool" "str" = false ∧ isTy "bool" "bool" = true ∧ isTy "int" "tuple" = false ∧ isTy "int" "list" = false ∧ isTy "int" "str" = false ∧ isTy "int" "bool" = false ∧ isTy "int" "int" = true := by decide
/-- texts, integers, rows of these -/
def at1 : D → Bool
  | .str _ => true
  | .int _ => true
  | _ => false
def ok2 : D → Bool
  | .tup ds => decide (ds.length ≤ 1000000) && ds.all at1
  | d => at1 d
theorem meets1 (n : Nat) {d : D} {M : MM} {Q : QD} {E : QX} (h : at1 d = true) (k : Q (.bl true) M) : sp_meets_l (n + 1) [d, d] M Q E := by
  refine ⟨rfl, ?_⟩
  show w_meets_l (sp_meets_l n) [some d, some d, none] M _ _
  cases d with
  | int i => simp only [w_meets_l, w_meets_l_1, w_meets_l_2, wAndV, wNotV, wSeq, wAsg, wDrop, wRet, wRetN, wNext, wIfS, wBl, Fg.wTru, wOp, wUn, wCl, wCons, wNil, wVar, wCst, wTup, wLst, gNm, wCall, List.set_cons_zero, List.set_cons_succ, List.getElem?_cons_zero, List.getElem?_cons_succ, cIsi, tyOf, exists_eq_left', exists_and_left, Option.some.injEq, List.cons.injEq, and_true, true_and, D.int.injEq, D.ref.injEq, D.str.injEq, D.tup.injEq, D.bl.injEq, exists_eq', and_assoc, kt, it1, truD, Bool.false_eq_true, if_false, if_true, dIs, Fg.isNon, dEq, decide_true, Bool.not_false]; exact k
  | str s => simp only [w_meets_l, w_meets_l_1, w_meets_l_2, w_meets_l_3, wAndV, wNotV, wSeq, wAsg, wDrop, wRet, wRetN, wNext, wIfS, wBl, Fg.wTru, wOp, wUn, wCl, wCons, wNil, wVar, wCst, wTup, wLst, gNm, wCall, List.set_cons_zero, List.set_cons_succ, List.getElem?_cons_zero, List.getElem?_cons_succ, cIsi, tyOf, exists_eq_left', exists_and_left, Option.some.injEq, List.cons.injEq, and_true, true_and, D.int.injEq, D.ref.injEq, D.str.injEq, D.tup.injEq, D.bl.injEq, exists_eq', and_assoc, kt, it1, truD, Bool.false_eq_true, if_false, if_true, dIs, Fg.isNon, dEq, decide_true, Bool.not_false]; exact k
  | _ => cases h
theorem p_meets {d : D} {M : MM} {Q : QD} {E : QX} (h : ok2 d = true) (k : Q (.bl true) M) : sp_meets_l 6 [d, d] M Q E := by
  cases d with
  | int i => exact meets1 5 (d := .int i) rfl k
  | str s => exact meets1 5 (d := .str s) rfl k
  | tup ds =>
    have hh : ds.length ≤ 1000000 ∧ ds.all at1 = true := by
      have h : (decide (ds.length ≤ 1000000) && ds.all at1) = true := h
      rw [Bool.and_eq_true] at h
      exact ⟨of_decide_eq_true h.1, h.2⟩
    refine ⟨rfl, ?_⟩
    show w_meets_l (sp_meets_l 5) [some (.tup ds), some (.tup ds), none] M _ _
    simp only [w_meets_l, w_meets_l_1, w_meets_l_2, w_meets_l_3, w_meets_l_4, w_meets_l_5, wOrB, wNotB, wFor, wRng1, wSeq, wAsg, wDrop, wRet, wRetN, wNext, wIfS, wBl, Fg.wTru, wOp, wUn, wCl, wCons, wNil, wVar, wCst, wTup, wLst, gNm, wCall, List.set_cons_zero, List.set_cons_succ, List.getElem?_cons_zero, List.getElem?_cons_succ, cIsi, tyOf, exists_eq_left', exists_and_left, Option.some.injEq, List.cons.injEq, and_true, true_and, D.int.injEq, D.ref.injEq, D.str.injEq, D.tup.injEq, D.bl.injEq, exists_eq', and_assoc, kt, it1, truD, Bool.false_eq_true, if_false, if_true, dIs, Fg.isNon, dNe, dEq, Bool.not_true, cLen, lenD, decide_true, Int.toNat_natCast]
    refine ⟨by omega, by omega, ?_⟩
    refine for_rule (I := fun j ρ M' => ∃ v2, ρ = [some (.tup ds), some (.tup ds), v2] ∧ M' = M) ⟨none, rfl, rfl⟩ (fun j x hx ρ M1 ⟨v2, e1, e2⟩ K hK => ⟨trivial, ?_⟩) fun ρ M1 ⟨v2, e1, e2⟩ => ⟨trivial, ?_⟩
    · subst e1 e2
      obtain ⟨hj, rfl⟩ := upTo_at hx
      have ha : atI ds (0 + (j : Int)) = some ds[j] := by
        rw [Int.zero_add]
        exact at_lt (by omega) (by rw [Int.toNat_natCast]; exact List.getElem?_eq_getElem hj)
      have hm := List.all_eq_true.mp hh.2 _ (List.getElem_mem hj)
      simp only [wSeq, wAsg, wDrop, wRet, wRetN, wNext, wIfS, wBl, Fg.wTru, wOp, wUn, wCl, wCons, wNil, wVar, wCst, wTup, wLst, gNm, wCall, List.set_cons_zero, List.set_cons_succ, List.getElem?_cons_zero, List.getElem?_cons_succ, wNotB, dIx, exists_eq_left', exists_and_left, Option.some.injEq, List.cons.injEq, and_true, true_and, D.int.injEq, D.ref.injEq, D.str.injEq, D.tup.injEq, D.bl.injEq, exists_eq', and_assoc, ha, exists_eq_left]
      refine meets1 4 hm ?_
      refine ⟨true, rfl, ?_⟩
      simp only [Bool.not_true, Bool.false_eq_true, if_false]
      exact hK _ _ ⟨_, rfl, rfl⟩
    · subst e1 e2
      simp only [w_meets_l_6, wSeq, wAsg, wDrop, wRet, wRetN, wNext, wIfS, wBl, Fg.wTru, wOp, wUn, wCl, wCons, wNil, wVar, wCst, wTup, wLst, gNm, wCall, List.set_cons_zero, List.set_cons_succ, List.getElem?_cons_zero, List.getElem?_cons_succ]
      exact k
  | _ => cases h
abbrev shS : Sh := [("free", 1, 0), ("slide", 3, 0), ("part", 3, 2), ("shift", 4, 0), ("turn", 4, 0), ("over", 3, 0), ("mirror", 4, 0), ("foot", 4, 0), ("meet", 5, 0), ("second", 4, 0), ("centre", 4, 0)]
abbrev shC : Sh := [("same", 2, 0), ("on_line", 3, 0), ("parallel", 4, 0), ("perpendicular", 4, 0), ("equal_length", 4, 0), ("equal_area", 6, 0), ("on_circle", 4, 0), ("one_meet", 6, 0)]
theorem tbS : tb_STEPS = tbl shS ∧ tb_CLAIMS = tbl shC := by decide +kernel
def shB (b : Bool) : Sh := if b = true then shS else shC
theorem shB_small (b : Bool) : ∀ r ∈ shB b, r.2.1 ≤ 100 ∧ r.2.2 ≤ 100 := by cases b <;> decide +kernel
theorem mem_join (sep : Str) : ∀ (l : List Str) (w : Str), w ∈ l → w.length ≤ (Str.join sep l).length
  | [x], w, h => by rw [List.mem_singleton.mp h]; exact Nat.le_refl _
  | x :: y :: r, w, h => by
    show w.length ≤ (x ++ sep ++ Str.join sep (y :: r)).length
    rw [PySem.Str.length_append, PySem.Str.length_append]
    rcases List.mem_cons.mp h with rfl | h
    · omega
    · have := mem_join sep (y :: r) w h
      omega
/-- a text that is not too long, with its words -/
structure Tx (z : Str) : Prop where
  len : z.length ≤ 100000
theorem Tx.ws {z : Str} (h : Tx z) : (∀ w ∈ Txt.split z blank, w.length ≤ 100000) ∧ (Txt.split z blank).length ≤ 100002 ∧ 1 ≤ (Txt.split z blank).length := by
  have f := PyProof.Rows.fact_split z blank
  have hl := h.len
  refine ⟨fun w hw => ?_, by omega, f.1⟩
  have e := PySem.StrLaws.join_split z blank
  have := mem_join blank _ w hw
  rw [e] at this
  omega
abbrev bad : D := .str (Str.ofString "bad")
def tdD (b : Bool) (z : Str) : D := if Fg.isNon (rdD (shB b) (Txt.split z blank)) = true then bad else rdD (shB b) (Txt.split z blank)
end FgL
/-! Z9: what is read, or refused. -/
namespace FgL
open PySem PySem.Spec L2 Fg
open PyProof.Rows hiding St
abbrev bv : Xn := ⟨Str.ofString "BadValue", Str.ofString "at", .int 0⟩
theorem p_read_step {M : MM} {z : Str} {Q : QD} {E : QX} (h : Tx z) (k1 : ∀ M', Ext M M' → Fg.isNon (rdD shS (Txt.split z blank)) = false → Q (rdD shS (Txt.split z blank)) M') (k2 : ∀ M', Ext M M' → Fg.isNon (rdD shS (Txt.split z blank)) = true → E ⟨"BadValue", "at", .int 0⟩ M') : sp_read_step [.str z] M Q E := by
  refine ⟨rfl, ?_⟩
  show w_read_step [some (.str z), none] M _ _
  obtain ⟨h1, h2, h3⟩ := h.ws
  (unfold w_read_step; obtain ⟨Tl, hTl⟩ : ∃ x, x = w_read_step_1 := ⟨_, rfl⟩; rw [← hTl]; simp only [wSeq, wAsg, wDrop, wRet, wRetN, wNext, wIfS, wBl, Fg.wTru, wOp, wUn, wCl, wCons, wNil, wVar, wCst, wTup, wLst, gNm, wCall, List.set_cons_zero, List.set_cons_succ, List.getElem?_cons_zero, List.getElem?_cons_succ, wDctC]; subst hTl)
  intro p hp o
  have x1 : Ext M (Fg.up M p (.dct o (rowsD tb_STEPS))) := .new hp
  have e1 : Fg.up M p (.dct o (rowsD tb_STEPS)) p = some (.dct o (rowsD (tbl shS))) := by rw [up_same, tbS.1]
  refine p_members e1 h.len h1 h2 h3 fun M2 x2 => ?_
  have y := x1.trans x2
  generalize rdD shS (Txt.split z blank) = d at k1 k2 ⊢
  (unfold w_read_step_1; obtain ⟨Tl, hTl⟩ : ∃ x, x = w_read_step_2 := ⟨_, rfl⟩; rw [← hTl]; simp only [wSeq, wAsg, wDrop, wRet, wRetN, wNext, wIfS, wBl, Fg.wTru, wOp, wUn, wCl, wCons, wNil, wVar, wCst, wTup, wLst, gNm, wCall, List.set_cons_zero, List.set_cons_succ, List.getElem?_cons_zero, List.getElem?_cons_succ, dIs]; subst hTl)
  cases q : Fg.isNon d with
  | true =>
    simp only [if_true, wRaise, wSeq, wAsg, wDrop, wRet, wRetN, wNext, wIfS, wBl, Fg.wTru, wOp, wUn, wCl, wCons, wNil, wVar, wCst, wTup, wLst, gNm, wCall, List.set_cons_zero, List.set_cons_succ, List.getElem?_cons_zero, List.getElem?_cons_succ]
    exact k2 M2 y q
  | false =>
    simp only [Bool.false_eq_true, if_false, w_read_step_2, wSeq, wAsg, wDrop, wRet, wRetN, wNext, wIfS, wBl, Fg.wTru, wOp, wUn, wCl, wCons, wNil, wVar, wCst, wTup, wLst, gNm, wCall, List.set_cons_zero, List.set_cons_succ, List.getElem?_cons_zero, List.getElem?_cons_succ]
    exact k1 M2 y q
theorem p_read_claim {M : MM} {z : Str} {Q : QD} {E : QX} (h : Tx z) (k1 : ∀ M', Ext M M' → Fg.isNon (rdD shC (Txt.split z blank)) = false → Q (rdD shC (Txt.split z blank)) M') (k2 : ∀ M', Ext M M' → Fg.isNon (rdD shC (Txt.split z blank)) = true → E ⟨"BadValue", "at", .int 0⟩ M') : sp_read_claim [.str z] M Q E := by
  refine ⟨rfl, ?_⟩
  show w_read_claim [some (.str z), none] M _ _
  obtain ⟨h1, h2, h3⟩ := h.ws
  (unfold w_read_claim; obtain ⟨Tl, hTl⟩ : ∃ x, x = w_read_claim_1 := ⟨_, rfl⟩; rw [← hTl]; simp only [wSeq, wAsg, wDrop, wRet, wRetN, wNext, wIfS, wBl, Fg.wTru, wOp, wUn, wCl, wCons, wNil, wVar, wCst, wTup, wLst, gNm, wCall, List.set_cons_zero, List.set_cons_succ, List.getElem?_cons_zero, List.getElem?_cons_succ, wDctC]; subst hTl)
  intro p hp o
  have x1 : Ext M (Fg.up M p (.dct o (rowsD tb_CLAIMS))) := .new hp
  have e1 : Fg.up M p (.dct o (rowsD tb_CLAIMS)) p = some (.dct o (rowsD (tbl shC))) := by rw [up_same, tbS.2]
  refine p_members e1 h.len h1 h2 h3 fun M2 x2 => ?_
  have y := x1.trans x2
  generalize rdD shC (Txt.split z blank) = d at k1 k2 ⊢
  (unfold w_read_claim_1; obtain ⟨Tl, hTl⟩ : ∃ x, x = w_read_claim_2 := ⟨_, rfl⟩; rw [← hTl]; simp only [wSeq, wAsg, wDrop, wRet, wRetN, wNext, wIfS, wBl, Fg.wTru, wOp, wUn, wCl, wCons, wNil, wVar, wCst, wTup, wLst, gNm, wCall, List.set_cons_zero, List.set_cons_succ, List.getElem?_cons_zero, List.getElem?_cons_succ, dIs]; subst hTl)
  cases q : Fg.isNon d with
  | true =>
    simp only [if_true, wRaise, wSeq, wAsg, wDrop, wRet, wRetN, wNext, wIfS, wBl, Fg.wTru, wOp, wUn, wCl, wCons, wNil, wVar, wCst, wTup, wLst, gNm, wCall, List.set_cons_zero, List.set_cons_succ, List.getElem?_cons_zero, List.getElem?_cons_succ]
    exact k2 M2 y q
  | false =>
    simp only [Bool.false_eq_true, if_false, w_read_claim_2, wSeq, wAsg, wDrop, wRet, wRetN, wNext, wIfS, wBl, Fg.wTru, wOp, wUn, wCl, wCons, wNil, wVar, wCst, wTup, wLst, gNm, wCall, List.set_cons_zero, List.set_cons_succ, List.getElem?_cons_zero, List.getElem?_cons_succ]
    exact k1 M2 y q
/-- no text at all -/
inductive NoT : MM → D → Prop
  | non {M} : NoT M .non
  | int {M} (i : Int) : NoT M (.int i)
  | bl {M} (b : Bool) : NoT M (.bl b)
  | tup {M} (ds : List D) : NoT M (.tup ds)
  | lst {M : MM} {a : Addr} {ds : List D} (h : M a = some (.lst ds)) : NoT M (.ref a)
theorem no_members {M : MM} {f : Addr} {d : D} {Q : QD} {E : QX} (h : NoT M d) (k : Q .non M) : sp_members_of [.ref f, d] M Q E := by
  refine ⟨rfl, ?_⟩
  show w_members_of [some (.ref f), some d, none, none, none, none, none] M _ _
  have it : isTy "NoneType" "str" = false ∧ isTy "list" "str" = false := ⟨it1.2.2.1, it1.2.2.2.2.2.2.2.2.1⟩
  cases h with
  | lst h =>
    (unfold w_members_of; obtain ⟨Tl, hTl⟩ : ∃ x, x = w_members_of_1 := ⟨_, rfl⟩; rw [← hTl]; simp only [wSeq, wAsg, wDrop, wRet, wRetN, wNext, wIfS, wBl, Fg.wTru, wOp, wUn, wCl, wCons, wNil, wVar, wCst, wTup, wLst, gNm, wCall, List.set_cons_zero, List.set_cons_succ, List.getElem?_cons_zero, List.getElem?_cons_succ, wNotB, cIsi, tyOf, h, exists_eq_left', exists_and_left, Option.some.injEq, List.cons.injEq, and_true, true_and, D.int.injEq, D.ref.injEq, D.str.injEq, D.tup.injEq, D.bl.injEq, exists_eq', and_assoc, kt, it1, truD]; subst hTl)
    simp only [Bool.not_false, if_true]
    exact k
  | _ =>
    (unfold w_members_of; obtain ⟨Tl, hTl⟩ : ∃ x, x = w_members_of_1 := ⟨_, rfl⟩; rw [← hTl]; simp only [wSeq, wAsg, wDrop, wRet, wRetN, wNext, wIfS, wBl, Fg.wTru, wOp, wUn, wCl, wCons, wNil, wVar, wCst, wTup, wLst, gNm, wCall, List.set_cons_zero, List.set_cons_succ, List.getElem?_cons_zero, List.getElem?_cons_succ, wNotB, cIsi, tyOf, exists_eq_left', exists_and_left, Option.some.injEq, List.cons.injEq, and_true, true_and, D.int.injEq, D.ref.injEq, D.str.injEq, D.tup.injEq, D.bl.injEq, exists_eq', and_assoc, kt, it1, truD]; subst hTl)
    simp only [Bool.not_false, if_true]
    exact k
theorem NoT.ext {M M' : MM} {d : D} (h : NoT M d) (e : Ext M M') : NoT M' d := by
  cases h with
  | non => exact .non
  | int i => exact .int i
  | bl b => exact .bl b
  | tup ds => exact .tup ds
  | lst h => exact .lst (e _ _ h)
theorem no_step {M : MM} {d : D} {Q : QD} {E : QX} (h : NoT M d) (k2 : ∀ M', Ext M M' → E ⟨"BadValue", "at", .int 0⟩ M') : sp_read_step [d] M Q E := by
  refine ⟨rfl, ?_⟩
  show w_read_step [some d, none] M _ _
  (unfold w_read_step; obtain ⟨Tl, hTl⟩ : ∃ x, x = w_read_step_1 := ⟨_, rfl⟩; rw [← hTl]; simp only [wSeq, wAsg, wDrop, wRet, wRetN, wNext, wIfS, wBl, Fg.wTru, wOp, wUn, wCl, wCons, wNil, wVar, wCst, wTup, wLst, gNm, wCall, List.set_cons_zero, List.set_cons_succ, List.getElem?_cons_zero, List.getElem?_cons_succ, wDctC]; subst hTl)
  intro p hp o
  have x1 : Ext M (Fg.up M p (.dct o (rowsD tb_STEPS))) := .new hp
  refine no_members (h.ext x1) ?_
  (unfold w_read_step_1; obtain ⟨Tl, hTl⟩ : ∃ x, x = w_read_step_2 := ⟨_, rfl⟩; rw [← hTl]; simp only [wSeq, wAsg, wDrop, wRet, wRetN, wNext, wIfS, wBl, Fg.wTru, wOp, wUn, wCl, wCons, wNil, wVar, wCst, wTup, wLst, gNm, wCall, List.set_cons_zero, List.set_cons_succ, List.getElem?_cons_zero, List.getElem?_cons_succ, dIs]; subst hTl)
  simp only [Fg.isNon, if_true, wRaise, wSeq, wAsg, wDrop, wRet, wRetN, wNext, wIfS, wBl, Fg.wTru, wOp, wUn, wCl, wCons, wNil, wVar, wCst, wTup, wLst, gNm, wCall, List.set_cons_zero, List.set_cons_succ, List.getElem?_cons_zero, List.getElem?_cons_succ]
  exact k2 _ x1
theorem no_claim {M : MM} {d : D} {Q : QD} {E : QX} (h : NoT M d) (k2 : ∀ M', Ext M M' → E ⟨"BadValue", "at", .int 0⟩ M') : sp_read_claim [d] M Q E := by
  refine ⟨rfl, ?_⟩
  show w_read_claim [some d, none] M _ _
  (unfold w_read_claim; obtain ⟨Tl, hTl⟩ : ∃ x, x = w_read_claim_1 := ⟨_, rfl⟩; rw [← hTl]; simp only [wSeq, wAsg, wDrop, wRet, wRetN, wNext, wIfS, wBl, Fg.wTru, wOp, wUn, wCl, wCons, wNil, wVar, wCst, wTup, wLst, gNm, wCall, List.set_cons_zero, List.set_cons_succ, List.getElem?_cons_zero, List.getElem?_cons_succ, wDctC]; subst hTl)
  intro p hp o
  have x1 : Ext M (Fg.up M p (.dct o (rowsD tb_CLAIMS))) := .new hp
  refine no_members (h.ext x1) ?_
  (unfold w_read_claim_1; obtain ⟨Tl, hTl⟩ : ∃ x, x = w_read_claim_2 := ⟨_, rfl⟩; rw [← hTl]; simp only [wSeq, wAsg, wDrop, wRet, wRetN, wNext, wIfS, wBl, Fg.wTru, wOp, wUn, wCl, wCons, wNil, wVar, wCst, wTup, wLst, gNm, wCall, List.set_cons_zero, List.set_cons_succ, List.getElem?_cons_zero, List.getElem?_cons_succ, dIs]; subst hTl)
  simp only [Fg.isNon, if_true, wRaise, wSeq, wAsg, wDrop, wRet, wRetN, wNext, wIfS, wBl, Fg.wTru, wOp, wUn, wCl, wCons, wNil, wVar, wCst, wTup, wLst, gNm, wCall, List.set_cons_zero, List.set_cons_succ, List.getElem?_cons_zero, List.getElem?_cons_succ]
  exact k2 _ x1
theorem meetsH {M : MM} {Q : QD} {E : QX} (k : Q (.bl true) M) : sp_meets_l_h [.int 0, .int 0] M Q E := by
  refine ⟨rfl, ?_⟩
  show w_meets_l_h [some (.int 0), some (.int 0), none] M _ _
  simp only [w_meets_l_h, w_meets_l_h_1, w_meets_l_h_2, wAndV, wNotV, wSeq, wAsg, wDrop, wRet, wRetN, wNext, wIfS, wBl, Fg.wTru, wOp, wUn, wCl, wCons, wNil, wVar, wCst, wTup, wLst, gNm, wCall, List.set_cons_zero, List.set_cons_succ, List.getElem?_cons_zero, List.getElem?_cons_succ, cIsi, tyOf, exists_eq_left', exists_and_left, Option.some.injEq, List.cons.injEq, and_true, true_and, D.int.injEq, D.ref.injEq, D.str.injEq, D.tup.injEq, D.bl.injEq, exists_eq', and_assoc, kt, it1, truD, Bool.false_eq_true, if_false, if_true, dIs, Fg.isNon, dEq, decide_true, Bool.not_false]
  exact k
/-- told by whatever reads -/
theorem p_told_by {M : MM} {d r : D} {b : Bool} {Q : QD} {E : QX} (h : ∀ (Q1 : QD) (E1 : QX), (∀ M', Ext M M' → Fg.isNon r = false → Q1 r M') → (∀ M', Ext M M' → Fg.isNon r = true → E1 ⟨"BadValue", "at", .int 0⟩ M') → (if b = true then sp_read_step [d] M Q1 E1 else sp_read_claim [d] M Q1 E1))
    (k : ∀ M', Ext M M' → Q (if Fg.isNon r = true then bad else r) M') : sp_told_l [d, .bl b] M Q E := by
  refine ⟨rfl, ?_⟩
  show w_told_l [some d, some (.bl b), none] M _ _
  have hc : Str.ofString "BadValue" ∈ xs := by decide +kernel
  have hb : xsb (Str.ofString "BadValue") (Str.ofString "BadValue") = true := by decide +kernel
  have hw : Str.ofString "at" ∈ xflds := by decide +kernel
  have hf : ([Fg.Cn.own (Str.ofString "FigureError")] : List Fg.Cn).any (Fg.Cn.b (Str.ofString "BadValue")) = true := by decide +kernel
  have hf2 : ([Fg.Cn.own (Str.ofString "BadClaim")] : List Fg.Cn).any (Fg.Cn.b (Str.ofString "BadValue")) = false := by decide +kernel
  have z2 : 2 ≤ sizeLine := by rw [sizeLine_eq]; decide
  have kk : ∀ M', Ext M M' → Fg.isNon r = true → wHdD xs { nx := fun _ M' => Q .non M', rt := Q } (fun x _ M' => E x M') [("BadValue", some 2, fun x a dd => (wSeq (wRet (wOp dIx (wLst (wCons (wCst (.str "none")) (wCons (wCst (.str "bad")) wNil))) (wCl cInt (wCons (wAndV (wXIs xs a x dd [.own "FigureError"] (wVar 2)) (wAndV (wNotV (wXIs xs a x dd [.own "BadClaim"] (wVar 2))) (wCallH sp_meets_l_h (wCons (wXAtt xs "at" a x dd (wVar 2)) (wCons (wCst (.int 0)) wNil))))) wNil))))
  wNext))] ⟨"BadValue", "at", .int 0⟩ [some d, some (.bl b), none] M' := fun M' x' hn => by
    refine ⟨hc, ?_⟩
    rw [if_pos hb]
    intro a dd ha hd hne
    simp only [wSeq, wAsg, wDrop, wRet, wRetN, wNext, wIfS, wBl, Fg.wTru, wOp, wUn, wCl, wCons, wNil, wVar, wCst, wTup, wLst, gNm, wCall, List.set_cons_zero, List.set_cons_succ, List.getElem?_cons_zero, List.getElem?_cons_succ, wXAtt, wXIs, clrD, wAndV, wNotV, wCallH, truD, exists_eq_left', exists_and_left, Option.some.injEq, List.cons.injEq, and_true, true_and, D.int.injEq, D.ref.injEq, D.str.injEq, D.tup.injEq, D.bl.injEq, exists_eq', and_assoc, List.length_cons, List.length_nil, hc, hw, hf, hf2, if_true, Bool.not_false, Nat.zero_add, Nat.reduceAdd, z2]
    intro q hq
    have hqd : q ≠ dd := fun z => by rw [z, up_same] at hq; cases hq
    have e : Fg.up (Fg.up M' dd (MO.xd (Str.ofString "at") (D.int 0))) q (MO.lst [D.str (Str.ofString "none"), D.str (Str.ofString "bad")]) dd = some (MO.xd (Str.ofString "at") (D.int 0)) := by rw [up_ne (Ne.symm hqd), up_same]
    refine ⟨⟨_, _, e⟩, ⟨_, _, e⟩, _, e, meetsH ?_⟩
    simp only [cInt, if_true]
    refine ixL up_same (d := bad) (at_lt (by decide) rfl) ?_
    have kf := k _ (x'.trans ((Ext.new (o := MO.xd (Str.ofString "at") (D.int 0)) hd).trans (Ext.new (o := MO.lst [D.str (Str.ofString "none"), D.str (Str.ofString "bad")]) hq)))
    rw [hn, if_pos rfl] at kf
    exact kf
  cases b with
  | true =>
    simp only [if_true] at h
    simp only [w_told_l, wSeq, wAsg, wDrop, wRet, wRetN, wNext, wIfS, wBl, Fg.wTru, wOp, wUn, wCl, wCons, wNil, wVar, wCst, wTup, wLst, gNm, wCall, List.set_cons_zero, List.set_cons_succ, List.getElem?_cons_zero, List.getElem?_cons_succ, wTry, truD, exists_eq_left', exists_and_left, Option.some.injEq, List.cons.injEq, and_true, true_and, D.int.injEq, D.ref.injEq, D.str.injEq, D.tup.injEq, D.bl.injEq, exists_eq', and_assoc, if_true]
    exact h _ _ (fun M' x' hn => by rw [hn] at k; exact k M' x') fun M' x' hn => kk M' x' hn
  | false =>
    simp only [Bool.false_eq_true, if_false] at h
    simp only [w_told_l, wSeq, wAsg, wDrop, wRet, wRetN, wNext, wIfS, wBl, Fg.wTru, wOp, wUn, wCl, wCons, wNil, wVar, wCst, wTup, wLst, gNm, wCall, List.set_cons_zero, List.set_cons_succ, List.getElem?_cons_zero, List.getElem?_cons_succ, wTry, truD, exists_eq_left', exists_and_left, Option.some.injEq, List.cons.injEq, and_true, true_and, D.int.injEq, D.ref.injEq, D.str.injEq, D.tup.injEq, D.bl.injEq, exists_eq', and_assoc, Bool.false_eq_true, if_false]
    exact ⟨rfl, rfl, h _ _ (fun M' x' hn => by rw [hn] at k; exact k M' x') fun M' x' hn => kk M' x' hn⟩
theorem p_told {M : MM} {z : Str} {b : Bool} {Q : QD} {E : QX} (h : Tx z) (k : ∀ M', Ext M M' → Q (tdD b z) M') : sp_told_l [.str z, .bl b] M Q E := by
  refine p_told_by (r := rdD (shB b) (Txt.split z blank)) (fun Q1 E1 k1 k2 => ?_) k
  cases b with
  | true => exact p_read_step h k1 k2
  | false => exact p_read_claim h k1 k2
theorem no_told {M : MM} {d : D} {b : Bool} {Q : QD} {E : QX} (h : NoT M d) (k : ∀ M', Ext M M' → Q bad M') : sp_told_l [d, .bl b] M Q E := by
  refine p_told_by (r := .non) (fun Q1 E1 k1 k2 => ?_) k
  cases b with
  | true => exact no_step h fun M' x => k2 M' x rfl
  | false => exact no_claim h fun M' x => k2 M' x rfl
theorem rd_ok2 (sh : Sh) (ws : List Str) (hl : ws.length ≤ 100002) : Fg.isNon (rdD sh ws) = true ∨ ok2 (rdD sh ws) = true := by
  unfold rdD
  cases ws with
  | nil => exact .inl rfl
  | cons w0 rest =>
    simp only
    cases q : fnd sh w0 with
    | none => exact .inl rfl
    | some ni =>
      obtain ⟨n, i⟩ := ni
      simp only
      by_cases c : rest.length ≠ n + i
      · rw [if_pos c]; exact .inl rfl
      · rw [if_neg c]
        by_cases c2 : (((bools n i).zip rest).map memb).any Fg.isNon = true
        · rw [if_pos c2]; exact .inl rfl
        · rw [if_neg c2]
          refine .inr ?_
          show (decide _ && _) = true
          rw [Bool.and_eq_true, decide_eq_true_iff, List.length_cons, List.length_map, List.length_zip]
          rw [List.length_cons] at hl
          refine ⟨by omega, List.all_eq_true.mpr fun d hd => ?_⟩
          rcases List.mem_cons.mp hd with rfl | hd
          · rfl
          · have nn : Fg.isNon d = false := by
              cases qn : Fg.isNon d with
              | false => rfl
              | true => exact absurd (List.any_eq_true.mpr ⟨d, hd, qn⟩) c2
            obtain ⟨p, _, rfl⟩ := List.mem_map.mp hd
            unfold memb at nn ⊢
            split at nn <;> rename_i hb
            · rw [if_pos hb]
              unfold nD at nn ⊢
              split at nn
              · rename_i h2; rw [if_pos h2]; rfl
              · cases nn
            · rw [if_neg hb]
              unfold iD at nn ⊢
              split at nn
              · rename_i h2; rw [if_pos h2]; rfl
              · cases nn
theorem td_ok2 {b : Bool} {z : Str} (h : Tx z) : ok2 (tdD b z) = true := by
  unfold tdD
  split
  · rfl
  · rename_i c
    exact (rd_ok2 (shB b) _ h.ws.2.1).resolve_left c
end FgL
/-! Z10: the law's shapes; texts joined. -/
namespace FgL
open PySem PySem.Spec L2 Fg
open PyProof.Rows hiding St
theorem shD_all : Fg.putAll [] (shD shS) = shD shS ∧ Fg.putAll [] (shD shC) = shD shC := by
  constructor <;> kernel_rfl
theorem shD_ok (sh : Sh) : PairsOk (shD sh) := ⟨fun p hp => by
  obtain ⟨r, _, rfl⟩ := List.mem_map.mp hp
  exact ⟨.text r.1, rfl, by simp [NestedKey.depth]⟩, .inl fun p hp => by
  obtain ⟨r, _, rfl⟩ := List.mem_map.mp hp
  rfl⟩
theorem p_shS {M : MM} {Q : QD} {E : QX} (k : ∀ p o M', M p = none → Ext M M' → M' p = some (.dct o (shD shS)) → Q (.ref p) M') : sp_step_shapes_l [] M Q E := by
  refine ⟨rfl, ?_⟩
  show w_step_shapes_l [] M _ _
  have z2 : 2 ≤ sizeLine := by rw [sizeLine_eq]; decide
  simp only [w_step_shapes_l, wSeq, wAsg, wDrop, wRet, wRetN, wNext, wIfS, wBl, Fg.wTru, wOp, wUn, wCl, wCons, wNil, wVar, wCst, wTup, wLst, gNm, wCall, List.set_cons_zero, List.set_cons_succ, List.getElem?_cons_zero, List.getElem?_cons_succ, wDisp, prsD, List.length_cons, List.length_nil, Nat.zero_add, Nat.reduceAdd, z2, true_and]
  intro p hp
  refine ⟨⟨_, up_same⟩, shD_ok shS, by decide, fun o => ?_⟩
  exact k p o _ hp (Ext.upd hp (Ext.new hp)) (up_same.trans (congrArg (fun z => some (MO.dct o z)) shD_all.1))
theorem p_shC {M : MM} {Q : QD} {E : QX} (k : ∀ p o M', M p = none → Ext M M' → M' p = some (.dct o (shD shC)) → Q (.ref p) M') : sp_claim_shapes_l [] M Q E := by
  refine ⟨rfl, ?_⟩
  show w_claim_shapes_l [] M _ _
  have z2 : 2 ≤ sizeLine := by rw [sizeLine_eq]; decide
  simp only [w_claim_shapes_l, wSeq, wAsg, wDrop, wRet, wRetN, wNext, wIfS, wBl, Fg.wTru, wOp, wUn, wCl, wCons, wNil, wVar, wCst, wTup, wLst, gNm, wCall, List.set_cons_zero, List.set_cons_succ, List.getElem?_cons_zero, List.getElem?_cons_succ, wDisp, prsD, List.length_cons, List.length_nil, Nat.zero_add, Nat.reduceAdd, z2, true_and]
  intro p hp
  refine ⟨⟨_, up_same⟩, shD_ok shC, by decide, fun o => ?_⟩
  exact k p o _ hp (Ext.upd hp (Ext.new hp)) (up_same.trans (congrArg (fun z => some (MO.dct o z)) shD_all.2))
/-! ### names -/
theorem join_S : ∀ l : List Nat, Txt.join (Str.ofString "") (l.map fun c => S [c]) = S l := fun l => by
  rw [show Txt.join (Str.ofString "") (l.map fun c => S [c]) = Str.join (Str.ofString "") (l.map fun c => S [c]) from PySem.StrLaws.glued_eq_join _ _]
  have e0 : Str.ofString "" = S [] := by decide +kernel
  rw [e0]
  induction l with
  | nil => rfl
  | cons c l ih =>
    cases l with
    | nil => rfl
    | cons d l =>
      show S [c] ++ S [] ++ Str.join (S []) ((d :: l).map fun c => S [c]) = _
      rw [ih, S_app, S_app]
      rfl
theorem sum_S : ∀ l : List Nat, ((l.map fun c => S [c]).map (·.length)).sum = l.length
  | [] => rfl
  | a :: l => by
    have := sum_S l
    rw [List.map_cons, List.map_cons, List.sum_cons, this, S_len, List.length_cons, List.length_cons, List.length_nil]
    omega
/-- some letters joined -/
theorem p_letters {M : MM} {p g c : Addr} {m : Int} {B : Nat} {v1 v3 v4 v5 v6 : Option D} {Q : QD} {E : QX} (h : BG M p g c (B + 30)) (m1 : 1 ≤ m) (m5 : m ≤ 5)
    (k : ∀ (l : List Nat) M', (l.length : Int) < m → (∀ c ∈ l, 97 ≤ c ∧ c ≤ 122) → BG M' p g c B → Ex2 p g M M' → Q (.str (S l)) M') :
    wBm "str" mJoin (wCst (.str (Str.ofString ""))) (wCons (wLc (wRng1 (wCons (wCall sp_draw_l (wCons (wVar 0) (wCons (wCst (.int m)) wNil))) wNil)) [6] (gNm 6) wYes (wOp dIx (wVar 2) (wCall sp_draw_l (wCons (wVar 0) (wCons (wCst (.int 26)) wNil))))) wNil) [some (.ref p), v1, some (.str abc), v3, v4, v5, v6] M Q E := by
  have hm : m.natAbs.log2 < 9000 := Nat.lt_of_le_of_lt (Nat.log2_le_self _) (by omega)
  simp only [wBm, tyR, wLc, wRng1, wSeq, wAsg, wDrop, wRet, wRetN, wNext, wIfS, wBl, Fg.wTru, wOp, wUn, wCl, wCons, wNil, wVar, wCst, wTup, wLst, gNm, wCall, List.set_cons_zero, List.set_cons_succ, List.getElem?_cons_zero, List.getElem?_cons_succ, mJoin]
  refine ⟨trivial, ?_⟩
  refine p_draw (B := B + 29) h m1 hm fun r M1 r0 r1 f1 y1 => ?_
  refine ⟨_, rfl, by omega, by omega, fun s hs => ?_⟩
  have hsp := f1.ne hs
  have rn : r.toNat ≤ 5 := by omega
  have sM : M s = none := by
    cases w : M s with
    | none => rfl
    | some o => rw [y1 _ _ hsp.1 hsp.2.1 w] at hs; cases hs
  refine lc_J (J := fun i acc M' => ∃ l : List Nat, acc = l.map (fun c => .str (S [c])) ∧ l.length = i ∧ (∀ c ∈ l, 97 ≤ c ∧ c ≤ 122) ∧ M' s = some (.lst acc) ∧ BG M' p g c (B + (29 - i)) ∧ Ex2 p g M M') (fun i acc M' ⟨l, _, _, _, e, _⟩ => ⟨trivial, e⟩) (Fg.upTo 0 r.toNat) 0 [] _
    ⟨[], rfl, rfl, (fun _ z => nomatch z), up_same, f1.new hs, Ex2.upd sM y1⟩ (by rw [upTo_len, List.length_nil, sizeLine_eq]; omega) (fun j d hd acc M2 ⟨l, ea, el, hl, es, f2, y2⟩ K1 k1 => ?_) fun acc M2 ⟨l, ea, el, hl, es, f2, y2⟩ => ?_
  · obtain ⟨hj, rfl⟩ := upTo_at hd
    rw [Nat.zero_add] at el f2
    simp only [wipeD, wSeq, wAsg, wDrop, wRet, wRetN, wNext, wIfS, wBl, Fg.wTru, wOp, wUn, wCl, wCons, wNil, wVar, wCst, wTup, wLst, gNm, wCall, List.set_cons_zero, List.set_cons_succ, List.getElem?_cons_zero, List.getElem?_cons_succ]
    refine p_draw (B := B + (29 - (j + 1))) (f2.less (by omega)) (by decide) (by decide +kernel) fun x M3 x0 x1 f3 y3 => ?_
    refine ixAbc x0 x1 ?_
    refine k1 _ M3 (y3.at hsp.1 hsp.2.1 es) ⟨l ++ [97 + x.toNat], by rw [ea, List.map_append]; rfl, by rw [List.length_append, el, Nat.zero_add]; rfl, fun c hc => ?_, up_same, ?_, Ex2.upd sM (y2.trans y3)⟩
    · rcases List.mem_append.mp hc with hc | hc
      · exact hl c hc
      · rw [List.mem_singleton] at hc; omega
    · rw [Nat.zero_add]; exact f3.upd hsp
  · rw [Nat.zero_add, upTo_len] at el f2
    subst ea
    refine ⟨Str.ofString "", .ref s, l.map fun c => S [c], rfl, rfl, ?_, ?_, ?_⟩
    · rw [items_ref es, List.map_map]; rfl
    · have e1 := sum_S l
      have e2 : (Str.ofString "").length = 0 := by decide +kernel
      rw [e2, Nat.mul_zero]
      omega
    · rw [join_S]
      exact k l M2 (by omega) hl (f2.less (by omega)) y2
end FgL
/-! Z11: the four names. -/
namespace FgL
open PySem PySem.Spec L2 Fg
open PyProof.Rows hiding St
theorem er_map {α β : Type} (f : α → β) : ∀ (l : List α) (i : Nat), (l.map f).eraseIdx i = (l.eraseIdx i).map f
  | [], _ => rfl
  | a :: l, 0 => rfl
  | a :: l, i + 1 => by rw [List.map_cons, List.eraseIdx_cons_succ, er_map f l i, List.eraseIdx_cons_succ, List.map_cons]
theorem p_names {M : MM} {p g c : Addr} {B : Nat} {Q : QD} {E : QX} (h : BG M p g c (B + 100))
    (k : ∀ a (l : List (List Nat)) M', M a = none → a ≠ p → a ≠ g → a ≠ c → M' a = some (.lst ((l.map S).map D.str)) → l.length = 4 → (∀ x ∈ l, NmL x) → BG M' p g c B → Ex2 p g M M' → Q (.ref a) M') : sp_names_l [.ref p, .int 4] M Q E := by
  refine ⟨rfl, ?_⟩
  show w_names_l [some (.ref p), some (.int 4), none, none, none, none, none] M _ _
  (unfold w_names_l; obtain ⟨Tl, hTl⟩ : ∃ x, x = w_names_l_1 := ⟨_, rfl⟩; rw [← hTl]; simp only [wSeq, wAsg, wDrop, wRet, wRetN, wNext, wIfS, wBl, Fg.wTru, wOp, wUn, wCl, wCons, wNil, wVar, wCst, wTup, wLst, gNm, wCall, List.set_cons_zero, List.set_cons_succ, List.getElem?_cons_zero, List.getElem?_cons_succ]; subst hTl)
  (unfold w_names_l_1; obtain ⟨Tl, hTl⟩ : ∃ x, x = w_names_l_2 := ⟨_, rfl⟩; rw [← hTl]; simp only [wSeq, wAsg, wDrop, wRet, wRetN, wNext, wIfS, wBl, Fg.wTru, wOp, wUn, wCl, wCons, wNil, wVar, wCst, wTup, wLst, gNm, wCall, List.set_cons_zero, List.set_cons_succ, List.getElem?_cons_zero, List.getElem?_cons_succ]; subst hTl)
  refine .inl ⟨abc, rfl, by rw [abc_len.2, sizeLine_eq]; decide, fun q hq => ?_⟩
  have hqp := h.ne hq
  have x1 : Ext M (Fg.up M q (.lst (Fg.signs abc))) := .new hq
  have e1 : Fg.up M q (.lst (Fg.signs abc)) q = some (.lst ((List.range' 97 26).map fun c => D.str (S [c]))) := by rw [up_same]; unfold Fg.signs; rw [abc_cps]; rfl
  have f1 := h.new (o := .lst (Fg.signs abc)) hq
  generalize Fg.up M q (.lst (Fg.signs abc)) = M1 at x1 e1 f1 ⊢
  (unfold w_names_l_2; obtain ⟨Tl, hTl⟩ : ∃ x, x = w_names_l_3 := ⟨_, rfl⟩; rw [← hTl]; simp only [wSeq, wAsg, wDrop, wRet, wRetN, wNext, wIfS, wBl, Fg.wTru, wOp, wUn, wCl, wCons, wNil, wVar, wCst, wTup, wLst, gNm, wCall, List.set_cons_zero, List.set_cons_succ, List.getElem?_cons_zero, List.getElem?_cons_succ]; subst hTl)
  refine p_letters (B := B + 70) (f1.less (by omega)) (by decide) (by decide) fun l1 M2 n1 h1 f2 y2 => ?_
  (unfold w_names_l_3; obtain ⟨Tl, hTl⟩ : ∃ x, x = w_names_l_4 := ⟨_, rfl⟩; rw [← hTl]; simp only [wSeq, wAsg, wDrop, wRet, wRetN, wNext, wIfS, wBl, Fg.wTru, wOp, wUn, wCl, wCons, wNil, wVar, wCst, wTup, wLst, gNm, wCall, List.set_cons_zero, List.set_cons_succ, List.getElem?_cons_zero, List.getElem?_cons_succ]; subst hTl)
  refine p_letters (B := B + 40) (f2.less (by omega)) (by decide) (by decide) fun l2 M3 n2 h2 f3 y3 => ?_
  have y13 : Ex2 p g M M3 := (Ex2.of x1).trans (y2.trans y3)
  have e3 := (y2.trans y3).at hqp.1 hqp.2.1 e1
  simp only [w_names_l_4, wSeq, wAsg, wDrop, wRet, wRetN, wNext, wIfS, wBl, Fg.wTru, wOp, wUn, wCl, wCons, wNil, wVar, wCst, wTup, wLst, gNm, wCall, List.set_cons_zero, List.set_cons_succ, List.getElem?_cons_zero, List.getElem?_cons_succ, wLc, wRng1]
  refine ⟨4, rfl, by decide, by decide, fun s hs => ?_⟩
  have hsp := f3.ne hs
  have hsq : s ≠ q := fun z => by rw [z, e3] at hs; cases hs
  have sM : M s = none := by
    cases w : M s with
    | none => rfl
    | some o => rw [y13 _ _ hsp.1 hsp.2.1 w] at hs; cases hs
  refine lc_J (J := fun i acc M' => ∃ (l : List (List Nat)) (pl : List Nat), acc = (l.map S).map D.str ∧ l.length = i ∧ (∀ x ∈ l, NmL x) ∧ pl.length + i = 26 ∧ (∀ c ∈ pl, 97 ≤ c ∧ c ≤ 122) ∧ M' s = some (.lst acc) ∧ M' q = some (.lst (pl.map fun c => D.str (S [c]))) ∧ BG M' p g c (B + (30 - i)) ∧ Ex2 p g M M')
    (fun i acc M' ⟨l, pl, _, _, _, _, _, e, _⟩ => ⟨trivial, e⟩) (Fg.upTo 0 (4 : Int).toNat) 0 [] _
    ⟨[], List.range' 97 26, rfl, rfl, (fun _ z => nomatch z), by simp, (fun c hc => by rw [List.mem_range'_1] at hc; omega), up_same, by rw [up_ne (Ne.symm hsq)]; exact e3, (f3.less (by omega)).new hs, Ex2.upd sM y13⟩ (by rw [upTo_len, List.length_nil, sizeLine_eq]; decide)
    (fun j d hd acc M4 ⟨l, pl, ea, el, hl, pn, hpl, es, eq, f4, y4⟩ K1 k1 => ?_) fun acc M4 ⟨l, pl, ea, el, hl, pn, hpl, es, eq, f4, y4⟩ => ?_
  · obtain ⟨hj, rfl⟩ := upTo_at hd
    have hj4 : j < 4 := hj
    rw [Nat.zero_add] at el f4 pn
    simp only [wipeD, wSeq, wAsg, wDrop, wRet, wRetN, wNext, wIfS, wBl, Fg.wTru, wOp, wUn, wCl, wCons, wNil, wVar, wCst, wTup, wLst, gNm, wCall, List.set_cons_zero, List.set_cons_succ, List.getElem?_cons_zero, List.getElem?_cons_succ, wBm, tyR, eq, cLen]
    refine ⟨trivial, ?_⟩
    refine ⟨_, pl.length, rfl, by unfold lenD; simp only [eq, List.length_map], ?_⟩
    refine p_draw (B := B + (30 - (j + 1))) (f4.less (by omega)) (by omega) (Nat.lt_of_le_of_lt (Nat.log2_le_self _) (by omega)) fun x M5 x0 x1' f5 y5 => ?_
    have eq5 := y5.at hqp.1 hqp.2.1 eq
    have es5 := y5.at hsp.1 hsp.2.1 es
    have hx : x.toNat < pl.length := by omega
    refine ⟨q, _, x, x.toNat, .str (S [pl[x.toNat]]), rfl, rfl, eq5, by omega, by omega, ?_, ?_, ?_⟩
    · unfold ixN
      rw [if_pos x0, if_pos (by rw [List.length_map]; omega)]
    · rw [List.getElem?_map, List.getElem?_eq_getElem hx]; rfl
    have hc := hpl pl[x.toNat] (List.getElem_mem hx)
    generalize pl[x.toNat] = cc at hc ⊢
    simp only [dAdd, S_app, S_len]
    refine ⟨by rw [List.length_singleton, sizeLine_eq]; omega, by rw [List.length_append, List.length_singleton, sizeLine_eq]; omega, ?_⟩
    have hN : NmL (l1 ++ [cc] ++ l2) := ⟨by rw [List.length_append, List.length_append, List.length_singleton]; omega, by rw [List.length_append, List.length_append, List.length_singleton]; omega, fun d hd' => by
      rcases List.mem_append.mp hd' with hd' | hd'
      · rcases List.mem_append.mp hd' with hd' | hd'
        · exact h1 d hd'
        · rw [List.mem_singleton] at hd'; omega
      · exact h2 d hd'⟩
    refine k1 _ _ (by rw [up_ne hsq]; exact es5) ⟨l ++ [l1 ++ [cc] ++ l2], pl.eraseIdx x.toNat, by rw [ea, List.map_append, List.map_append]; rfl, by rw [List.length_append, el, Nat.zero_add]; rfl, fun y hy => ?_, ?_, fun d hd' => hpl d (List.mem_of_mem_eraseIdx hd'), up_same, ?_, ?_, ?_⟩
    · rcases List.mem_append.mp hy with hy | hy
      · exact hl y hy
      · rw [List.mem_singleton] at hy; rw [hy]; exact hN
    · rw [List.length_eraseIdx]; split <;> omega
    · rw [up_ne (Ne.symm hsq), up_same, er_map]
    · rw [Nat.zero_add]; exact (f5.upd hqp).upd hsp
    · exact Ex2.upd sM (Ex2.upd (by
        cases w : M q with
        | none => rfl
        | some o => rw [w] at hq; cases hq) (y4.trans y5))
  · rw [Nat.zero_add, upTo_len] at el f4
    subst ea
    exact k s l M4 sM hsp.1 hsp.2.1 hsp.2.2 es el hl (f4.less (by omega)) y4
end FgL
/-! Z12: the text of a step or a claim, and back. -/
namespace FgL
open PySem PySem.Spec L2 Fg
open PyProof.Rows hiding St
open TL (tl len_tl ext_tl tl_ofString tl_num numL numL_lt numL_step numL_digits numL_ne numL_free numL_val numL_len split_join join_eq)
def nL (n : Int) : List Nat := if n < 0 then 45 :: numL n.natAbs else numL n.natAbs
theorem tl_S (l : List Nat) : tl (S l) = l := S_cps l
theorem str_num (n : Int) : Str.ofString (toString n) = S (nL n) := by
  refine ext_tl ?_
  rw [tl_S]
  unfold nL
  split
  · rename_i c
    have e : (0 : Int) - n = ((n.natAbs : Nat) : Int) := by omega
    rw [PyProof.Rows.toString_neg c, e, tl_ofString, String.toList_append, List.map_append, ← tl_ofString (toString _), tl_num]
    rfl
  · have e : n = ((n.natAbs : Nat) : Int) := by omega
    conv => lhs; rw [e]
    rw [tl_num]
theorem numL_head {n : Nat} (h : 1 ≤ n) : (numL n).head? ≠ some 48 := by
  induction n using Nat.strongRecOn with
  | _ n ih =>
    by_cases c : n < 10
    · rw [numL_lt c]
      simp
      omega
    · rw [numL_step (by omega)]
      have := ih (n / 10) (by omega) (by omega)
      have ne := numL_ne (n / 10)
      cases q : numL (n / 10) with
      | nil => exact absurd q ne
      | cons a r => rw [q] at this; exact this
theorem nb_num {m : Nat} (h : m ≤ 999999999) : nb (numL m) = true := by
  unfold nb
  have l1 : 1 ≤ (numL m).length := List.length_pos_iff.mpr (numL_ne m)
  have l9 : (numL m).length ≤ 9 := numL_len (by decide) (by omega)
  rw [decide_eq_true l1, decide_eq_true l9, List.all_eq_true.mpr fun c hc => isD_iff.mpr (numL_digits m c hc)]
  by_cases c : m = 0
  · subst c; decide +kernel
  · rw [decide_eq_true (numL_head (by omega))]
    simp
theorem num_word {n : Int} (h : n.natAbs ≤ 999999999) : ib (nL n) = true ∧ iv (nL n) = n ∧ 32 ∉ nL n ∧ (nL n).length ≤ 10 := by
  have l9 : (numL n.natAbs).length ≤ 9 := numL_len (by decide) (by omega)
  have f32 : 32 ∉ numL n.natAbs := numL_free (.inl (by decide))
  unfold nL
  by_cases c : n < 0
  · rw [if_pos c]
    refine ⟨?_, ?_, fun e => ?_, by rw [List.length_cons]; omega⟩
    · unfold ib
      rw [if_pos (show List.take 1 (45 :: numL n.natAbs) = [45] from rfl)]
      show (nb (numL n.natAbs) && _) = true
      rw [nb_num h, Bool.true_and, decide_eq_true_iff]
      intro e
      have e := (List.cons.inj e).2
      have := numL_head (n := n.natAbs) (by omega)
      rw [e] at this
      exact this rfl
    · unfold iv
      rw [PySem.intText_neg (x := S (45 :: numL n.natAbs)) (cs := numL n.natAbs) (S_cps _) (numL_digits _) (numL_ne _) (by rw [S_len, List.length_cons]; omega), numL_val]
      show -((n.natAbs : Nat) : Int) = n
      omega
    · rcases List.mem_cons.mp e with e | e
      · cases e
      · exact f32 e
  · rw [if_neg c]
    refine ⟨?_, ?_, f32, by omega⟩
    · unfold ib
      rw [if_neg]
      · exact nb_num h
      · intro e
        have ne := numL_ne n.natAbs
        have dg := numL_digits n.natAbs
        cases q : numL n.natAbs with
        | nil => exact ne q
        | cons a r =>
          rw [q] at e dg
          have e : [a] = [45] := e
          have := dg a (List.mem_cons_self ..)
          have := (List.cons.inj e).1
          omega
    · unfold iv
      rw [PySem.intText_digits (x := S (numL n.natAbs)) (by rw [S_cps]; exact numL_digits _) (by rw [S_cps]; exact numL_ne _) (by rw [S_len]; omega), S_cps, numL_val]
      show ((n.natAbs : Nat) : Int) = n
      omega
/-- a step or a claim -/
structure Th (b : Bool) (r : Str × Nat × Nat) (nl : List (List Nat)) (is : List Int) : Prop where
  mem : r ∈ shB b
  cn : nl.length = r.2.1
  ci : is.length = r.2.2
  nm : ∀ l ∈ nl, NmL l
  ib : ∀ i ∈ is, i.natAbs ≤ 999999999
def thD (w : Str) (nl : List (List Nat)) (is : List Int) : List D := .str w :: (nl.map (fun l => .str (S l)) ++ is.map .int)
def thW (w : Str) (nl : List (List Nat)) (is : List Int) : List Str := w :: (nl.map S ++ is.map fun i => S (nL i))
def thT (w : Str) (nl : List (List Nat)) (is : List Int) : Str := Txt.join blank (thW w nl is)
theorem sh_row (b : Bool) : ∀ r ∈ shB b, fnd (shB b) r.1 = some r.2 ∧ fnd (shB (!b)) r.1 = none ∧ 32 ∉ tl r.1 ∧ r.1.length ≤ 13 := by cases b <;> decide +kernel
theorem nm_ok {l : List Nat} (h : NmL l) : nm l = true ∧ 32 ∉ l := by
  refine ⟨?_, fun e => by have := h.az 32 e; omega⟩
  unfold nm
  rw [decide_eq_true h.l1, decide_eq_true h.l4, List.all_eq_true.mpr fun c hc => isL_iff.mpr (h.az c hc)]
  rfl
theorem join_len (sep : Str) (B : Nat) : ∀ l : List Str, (∀ w ∈ l, w.length ≤ B) → (Str.join sep l).length ≤ l.length * (B + sep.length)
  | [], _ => Nat.zero_le _
  | [x], h => by
    have := h x (List.mem_singleton.mpr rfl)
    show x.length ≤ 1 * _
    omega
  | x :: y :: r, h => by
    have h1 := h x (List.mem_cons_self ..)
    have h2 := join_len sep B (y :: r) fun w hw => h w (List.mem_cons_of_mem _ hw)
    show (x ++ sep ++ Str.join sep (y :: r)).length ≤ _
    rw [PySem.Str.length_append, PySem.Str.length_append, List.length_cons, Nat.succ_mul]
    omega
section
variable {b : Bool} {r : Str × Nat × Nat} {nl : List (List Nat)} {is : List Int} (h : Th b r nl is)
include h
theorem Th.words : ∀ w ∈ thW r.1 nl is, 32 ∉ tl w ∧ w.length ≤ 13 := by
  obtain ⟨_, _, h3, h4⟩ := sh_row b r h.mem
  intro w hw
  rcases List.mem_cons.mp hw with rfl | hw
  · exact ⟨h3, h4⟩
  · rcases List.mem_append.mp hw with hw | hw
    · obtain ⟨l, hl, rfl⟩ := List.mem_map.mp hw
      have := (h.nm l hl).l4
      exact ⟨by rw [tl_S]; exact (nm_ok (h.nm l hl)).2, by rw [S_len]; omega⟩
    · obtain ⟨i, hi, rfl⟩ := List.mem_map.mp hw
      have := num_word (h.ib i hi)
      exact ⟨by rw [tl_S]; exact this.2.2.1, by rw [S_len]; omega⟩
theorem Th.len : (thW r.1 nl is).length ≤ 201 := by
  have := shB_small b r h.mem
  unfold thW
  rw [List.length_cons, List.length_append, List.length_map, List.length_map, h.cn, h.ci]
  omega
theorem Th.split : Txt.split (thT r.1 nl is) blank = thW r.1 nl is := split_join (s := 32) (S := []) (by decide +kernel) (by decide +kernel) (by unfold thW; simp) fun p hp => (h.words p hp).1
theorem Th.tx : Tx (thT r.1 nl is) := ⟨by
  have h1 := join_len blank 13 (thW r.1 nl is) fun w hw => (h.words w hw).2
  have h2 := h.len
  have e : blank.length = 1 := by decide +kernel
  unfold thT
  rw [join_eq]
  rw [e] at h1
  omega⟩
theorem Th.rd : rdD (shB b) (thW r.1 nl is) = .tup (thD r.1 nl is) ∧ rdD (shB (!b)) (thW r.1 nl is) = .non := by
  obtain ⟨h1, h2, _, _⟩ := sh_row b r h.mem
  obtain ⟨w, n, i⟩ := r
  have hn := h.cn
  have hi := h.ci
  simp only at h1 h2 hn hi
  refine ⟨?_, by unfold rdD thW; simp only [h2]⟩
  unfold rdD thW
  simp only [h1]
  have hl : (nl.map S ++ is.map fun i => S (nL i)).length = n + i := by rw [List.length_append, List.length_map, List.length_map, hn, hi]
  rw [if_neg (by rw [hl]; simp)]
  have e1 : ((bools n i).zip (nl.map S ++ is.map fun i => S (nL i))).map memb = nl.map (fun l => D.str (S l)) ++ is.map D.int := by
    rw [zip_two hl, List.map_append, List.map_map, List.map_map]
    rw [List.take_left' (by rw [List.length_map, hn]), List.drop_left' (by rw [List.length_map, hn]), List.map_map, List.map_map]
    congr 1
    · refine List.map_congr_left fun l hl => ?_
      show nD (S l).cps.toList = _
      rw [S_cps]
      unfold nD
      rw [if_pos (nm_ok (h.nm l hl)).1]
    · refine List.map_congr_left fun i hi => ?_
      show iD (S (nL i)).cps.toList = _
      rw [S_cps]
      unfold iD
      have := num_word (h.ib i hi)
      rw [if_pos this.1, this.2.1]
  rw [e1, if_neg]
  · rfl
  · rw [List.any_append, List.any_map, List.any_map]
    intro e
    rw [Bool.or_eq_true] at e
    rcases e with e | e
    · obtain ⟨x, _, e⟩ := List.any_eq_true.mp e
      cases e
    · obtain ⟨x, _, e⟩ := List.any_eq_true.mp e
      cases e
theorem Th.td : tdD b (thT r.1 nl is) = .tup (thD r.1 nl is) ∧ tdD (!b) (thT r.1 nl is) = bad := by
  unfold tdD
  rw [h.split, h.rd.1, h.rd.2]
  exact ⟨rfl, rfl⟩
theorem Th.ok2 : ok2 (.tup (thD r.1 nl is)) = true := by
  have := td_ok2 (b := b) h.tx
  rw [h.td.1] at this
  exact this
end
/-- the text of an item -/
def tw : D → Str
  | .str s => s
  | .int i => Str.ofString (toString i)
  | _ => Str.ofString ""
theorem th_tw (w : Str) (nl : List (List Nat)) (is : List Int) : (thD w nl is).map tw = thW w nl is := by
  unfold thD thW
  rw [List.map_cons, List.map_append, List.map_map, List.map_map]
  show w :: _ = _
  congr 2
  refine List.map_congr_left fun i _ => ?_
  exact str_num i
theorem low_log {n : Nat} (h : n ≤ 999999999) : n.log2 < 1920 := by
  by_cases c : n = 0
  · subst c; decide
  · refine Nat.lt_of_lt_of_le ((Nat.log2_lt c).mpr (show n < 2 ^ 30 by omega)) (by decide)
theorem sum_le (B : Nat) : ∀ l : List Str, (∀ w ∈ l, w.length ≤ B) → (l.map (·.length)).sum ≤ l.length * B
  | [], _ => Nat.zero_le _
  | x :: r, h => by
    have h1 := h x (List.mem_cons_self ..)
    have h2 := sum_le B r fun w hw => h w (List.mem_cons_of_mem _ hw)
    rw [List.map_cons, List.sum_cons, List.length_cons, Nat.succ_mul]
    omega
theorem p_line_ {M : MM} {ds : List D} {w : WS} {Q : QD} {E : QX} (hw : w = w_line_l) (hl : ds.length ≤ 1000) (hd : ∀ d ∈ ds, (∃ s, d = .str s) ∨ ∃ i, d = .int i ∧ i.natAbs ≤ 999999999) (hb : ∀ d ∈ ds, (tw d).length ≤ 100)
    (k : ∀ M', Ext M M' → Q (.str (Txt.join blank (ds.map tw))) M') : w [some (.tup ds), none] M { nx := fun _ M' => Q .non M', rt := Q } (fun x _ M' => E x M') := by
  subst hw
  simp only [w_line_l, wSeq, wAsg, wDrop, wRet, wRetN, wNext, wIfS, wBl, Fg.wTru, wOp, wUn, wCl, wCons, wNil, wVar, wCst, wTup, wLst, gNm, wCall, List.set_cons_zero, List.set_cons_succ, List.getElem?_cons_zero, List.getElem?_cons_succ, wBm, tyR, wLc, wWk, mJoin]
  refine ⟨trivial, ?_⟩
  refine ⟨_, fun _ => True, rfl, fun s hs => ?_⟩
  have hsum : ((ds.map tw).map (·.length)).sum ≤ ds.length * 100 := by
    have := sum_le 100 (ds.map tw) fun w hw => by
      obtain ⟨d, hd', rfl⟩ := List.mem_map.mp hw
      exact hb d hd'
    rw [List.length_map] at this
    exact this
  have e1 : blank.length = 1 := by decide +kernel
  rw [← List.map_id ds]
  refine lc_map (xs := ds) hs id (fun d => .str (tw d)) (fun _ => true) (fun _ _ => trivial) (by rw [sizeLine_eq]; omega) (fun d hd' M1 x1 K1 K0 k1 k0 => ?_) fun M1 x1 e => ?_
  · have k1' : ∀ M', Ext M1 M' → K1 (.str (tw d)) M' := fun M' x' => k1 rfl M' x'
    rcases hd d hd' with ⟨s, rfl⟩ | ⟨i, rfl, hi⟩
    · simp only [wSeq, wAsg, wDrop, wRet, wRetN, wNext, wIfS, wBl, Fg.wTru, wOp, wUn, wCl, wCons, wNil, wVar, wCst, wTup, wLst, gNm, wCall, List.set_cons_zero, List.set_cons_succ, List.getElem?_cons_zero, List.getElem?_cons_succ, wipeD, wYes, if_true, id, cStr]
      exact k1' _ (Ext.refl _)
    · simp only [wSeq, wAsg, wDrop, wRet, wRetN, wNext, wIfS, wBl, Fg.wTru, wOp, wUn, wCl, wCons, wNil, wVar, wCst, wTup, wLst, gNm, wCall, List.set_cons_zero, List.set_cons_succ, List.getElem?_cons_zero, List.getElem?_cons_succ, wipeD, wYes, if_true, id, cStr]
      exact ⟨low_log hi, k1' _ (Ext.refl _)⟩
  · rw [List.filter_eq_self.mpr fun _ _ => rfl] at e
    refine ⟨blank, .ref s, ds.map tw, rfl, rfl, ?_, ?_, ?_⟩
    · rw [items_ref e, List.map_map]; rfl
    · rw [e1, List.length_map]; omega
    · exact k M1 x1
end FgL
/-! Z13: a step or a claim drawn. -/
namespace FgL
open PySem PySem.Spec L2 Fg
open PyProof.Rows hiding St
theorem ixAny {M : MM} {q : Addr} {ds : List D} {i : Int} {Q : QD} (h : M q = some (.lst ds)) (h0 : 0 ≤ i) (h1 : i < ds.length) (k : ∀ d ∈ ds, Q d M) : dIx (.ref q) (.int i) M Q :=
  have hx : i.toNat < ds.length := by omega
  ixL h (at_lt h0 (List.getElem?_eq_getElem hx)) (k _ (List.getElem_mem hx))
theorem of_all {α : Type} {R : α → Prop} {f : α → D} : ∀ (ds : List D), (∀ d ∈ ds, ∃ x, R x ∧ d = f x) → ∃ xs : List α, ds = xs.map f ∧ ∀ x ∈ xs, R x
  | [], _ => ⟨[], rfl, fun _ h => nomatch h⟩
  | d :: ds, h => by
    obtain ⟨x, hx, rfl⟩ := h d (List.mem_cons_self ..)
    obtain ⟨xs, rfl, hxs⟩ := of_all ds fun d' hd => h d' (List.mem_cons_of_mem _ hd)
    exact ⟨x :: xs, rfl, fun y hy => by
      rcases List.mem_cons.mp hy with rfl | hy
      · exact hx
      · exact hxs y hy⟩
/-- a row of drawn things -/
theorem lc_draws {M : MM} {p g c s : Addr} {n B cost : Nat} (P : D → Prop) {v : En} {gg : WG} {te : WE} {K : MM → Prop} (h : BG M p g c (B + n * cost)) (hs : M s = none) (hn : n ≤ 100)
    (step : ∀ (B' : Nat) (M1 : MM), BG M1 p g c (B' + cost) → Ex2 p g M M1 → ∀ (j : Nat) (K1 : QD), (∀ d M2, P d → BG M2 p g c B' → Ex2 p g M1 M2 → K1 d M2) → gg (.int (0 + (j : Int))) v M1 (fun ρ1 M2 => te ρ1 M2 K1 noX) noX)
    (k : ∀ ds M', ds.length = n → (∀ d ∈ ds, P d) → M' s = some (.lst ds) → BG M' p g c B → Ex2 p g M M' → K M') :
    lcD (fun _ => True) s v gg wYes te (Fg.upTo 0 n) [] (Fg.up M s (.lst [])) K := by
  have hsp := h.ne hs
  refine lc_J (J := fun i acc M' => acc.length = i ∧ (∀ d ∈ acc, P d) ∧ M' s = some (.lst acc) ∧ BG M' p g c (B + (n - i) * cost) ∧ Ex2 p g M M') (fun i acc M' ⟨_, _, e, _⟩ => ⟨trivial, e⟩) (Fg.upTo 0 n) 0 [] _
    ⟨rfl, (fun _ z => nomatch z), up_same, h.new hs, Ex2.upd hs Ex2.refl⟩ (by rw [upTo_len, List.length_nil, sizeLine_eq]; omega) (fun j d hd acc M2 ⟨el, hl, es, f2, y2⟩ K1 k1 => ?_) fun acc M2 ⟨el, hl, es, f2, y2⟩ => ?_
  · obtain ⟨hj, rfl⟩ := upTo_at hd
    rw [Nat.zero_add] at el f2
    refine step (B + (n - (j + 1)) * cost) M2 (by
      have e : (n - j) * cost = (n - (j + 1)) * cost + cost := by rw [show n - j = (n - (j + 1)) + 1 by omega, Nat.succ_mul]
      rw [Nat.add_assoc, ← e]
      exact f2) y2 j K1 fun d M3 hp f3 y3 => ?_
    refine k1 _ M3 (y3.at hsp.1 hsp.2.1 es) ⟨by rw [List.length_append, el, Nat.zero_add]; rfl, fun x hx => ?_, up_same, ?_, Ex2.upd hs (y2.trans y3)⟩
    · rcases List.mem_append.mp hx with hx | hx
      · exact hl x hx
      · rw [List.mem_singleton.mp hx]; exact hp
    · rw [Nat.zero_add]; exact f3.upd hsp
  · rw [Nat.zero_add, upTo_len] at el f2
    rw [Nat.sub_self, Nat.zero_mul, Nat.add_zero] at f2
    exact k acc M2 el hl es f2 y2
theorem p_number {M : MM} {p g c : Addr} {B : Nat} {Q : QD} {E : QX} (h : BG M p g c (B + 4)) (k : ∀ (n : Int) M', n.natAbs ≤ 999999999 → BG M' p g c B → Ex2 p g M M' → Q (.int n) M') : sp_number_l [.ref p] M Q E := by
  refine ⟨rfl, ?_⟩
  show w_number_l [some (.ref p), none] M _ _
  (unfold w_number_l; obtain ⟨Tl, hTl⟩ : ∃ x, x = w_number_l_1 := ⟨_, rfl⟩; rw [← hTl]; simp only [wSeq, wAsg, wDrop, wRet, wRetN, wNext, wIfS, wBl, Fg.wTru, wOp, wUn, wCl, wCons, wNil, wVar, wCst, wTup, wLst, gNm, wCall, List.set_cons_zero, List.set_cons_succ, List.getElem?_cons_zero, List.getElem?_cons_succ, dPow, wLst]; subst hTl)
  refine p_draw (B := B + 3) h (by decide) (by decide +kernel) fun r1 M1 a1 b1 f1 y1 => ?_
  refine ⟨cp18.2, ?_⟩
  refine p_draw (B := B + 2) f1 (by decide) (by decide +kernel) fun r2 M2 a2 b2 f2 y2 => ?_
  have b2 : r2 < 1000000000 := b2
  refine ⟨show 6 ≤ sizeLine by rw [sizeLine_eq]; decide, fun q hq => ?_⟩
  have f3 : BG (Fg.up M2 q _) p g c (B + 2) := f2.new (o := .lst [.int 0, .int 1, .int 100, .int 999999999, .int r1, .int r2]) hq
  have y3 := Ex2.upd (o := .lst [.int 0, .int 1, .int 100, .int 999999999, .int r1, .int r2]) hq (Ex2.refl (p := p) (g := g))
  have hqp := f2.ne hq
  refine p_draw (B := B + 1) f3 (by decide) (by decide +kernel) fun r3 M3 a3 b3 f4 y4 => ?_
  have e4 := y4.at hqp.1 hqp.2.1 up_same
  refine ixAny e4 a3 (by simpa using b3) fun d hd => ?_
  have hr : ∃ n : Int, d = .int n ∧ n.natAbs ≤ 999999999 := by
    simp only [List.mem_cons, List.not_mem_nil, or_false] at hd
    rcases hd with rfl | rfl | rfl | rfl | rfl | rfl
    · exact ⟨_, rfl, by decide⟩
    · exact ⟨_, rfl, by decide⟩
    · exact ⟨_, rfl, by decide⟩
    · exact ⟨_, rfl, by decide⟩
    · exact ⟨_, rfl, by omega⟩
    · exact ⟨_, rfl, by omega⟩
  obtain ⟨n, rfl, hn⟩ := hr
  simp only [w_number_l_1, wSeq, wAsg, wDrop, wRet, wRetN, wNext, wIfS, wBl, Fg.wTru, wOp, wUn, wCl, wCons, wNil, wVar, wCst, wTup, wLst, gNm, wCall, List.set_cons_zero, List.set_cons_succ, List.getElem?_cons_zero, List.getElem?_cons_succ, wLst, dSub]
  refine ⟨show 2 ≤ sizeLine by rw [sizeLine_eq]; decide, fun s hs => ?_⟩
  have hsp := f4.ne hs
  refine p_draw (B := B) (f4.new hs) (by decide) (by decide +kernel) fun r4 M4 a5 b5 f5 y5 => ?_
  refine ixAny (y5.at hsp.1 hsp.2.1 up_same) a5 (by simpa using b5) fun d hd => ?_
  have y := y1.trans (y2.trans (y3.trans (y4.trans ((Ex2.upd hs Ex2.refl).trans y5))))
  simp only [List.mem_cons, List.not_mem_nil, or_false] at hd
  rcases hd with rfl | rfl
  · exact k _ _ hn f5 y
  · exact k _ _ (by omega) f5 y
end FgL
/-! Z14: a step or a claim drawn, whole. -/
namespace FgL
open PySem PySem.Spec L2 Fg
open PyProof.Rows hiding St
theorem Ex2.none {p g q : Addr} {M M' : MM} (e : Ex2 p g M M') (h : M' q = Option.none) (hp : q ≠ p) (hg : q ≠ g) : M q = Option.none := by
  cases w : M q with
  | none => rfl
  | some o => rw [e _ _ hp hg w] at h; cases h
theorem sh_len (b : Bool) : 1 ≤ (shD (shB b)).length ∧ (shD (shB b)).length ≤ 11 := by cases b <;> decide +kernel
theorem sh_two (b : Bool) : ∀ r ∈ shB b, 1 ≤ r.2.1 ∧ r.2.1 ≤ 6 ∧ r.2.2 ≤ 2 := by cases b <;> decide +kernel
theorem small_log {i : Int} (h : i.natAbs < 9000) : i.natAbs.log2 < 9000 := Nat.lt_of_le_of_lt (Nat.log2_le_self _) h
theorem p_thing {M : MM} {p g c a f : Addr} {o : Obj} {b pr : Bool} {l : List (List Nat)} {B : Nat} {Q : QD} {E : QX} (h : BG M p g c (B + 40)) (ea : M a = some (.lst ((l.map S).map D.str))) (ap : a ≠ p ∧ a ≠ g) (l4 : l.length = 4) (hl : ∀ x ∈ l, NmL x)
    (ef : M f = some (.dct o (shD (shB b)))) (fp : f ≠ p ∧ f ≠ g)
    (k : ∀ r nl is M', Th b r nl is → BG M' p g c B → Ex2 p g M M' → Q (.tup (thD r.1 nl is)) M') : sp_thing_l [.ref p, .ref a, .ref f, .bl pr] M Q E := by
  refine ⟨rfl, ?_⟩
  show w_thing_l [some (.ref p), some (.ref a), some (.ref f), some (.bl pr), none, none, none, none, none, none] M _ _
  have hN : ∀ d ∈ (l.map S).map D.str, ∃ x, NmL x ∧ d = .str (S x) := fun d hd => by
    rw [List.map_map] at hd
    obtain ⟨x, hx, rfl⟩ := List.mem_map.mp hd
    exact ⟨x, hl x hx, rfl⟩
  have lN : ((l.map S).map D.str).length = 4 := by rw [List.length_map, List.length_map, l4]
  obtain ⟨n1, n11⟩ := sh_len b
  (unfold w_thing_l; obtain ⟨Tl, hTl⟩ : ∃ x, x = w_thing_l_1 := ⟨_, rfl⟩; rw [← hTl]; simp only [wSeq, wAsg, wDrop, wRet, wRetN, wNext, wIfS, wBl, Fg.wTru, wOp, wUn, wCl, wCons, wNil, wVar, wCst, wTup, wLst, gNm, wCall, List.set_cons_zero, List.set_cons_succ, List.getElem?_cons_zero, List.getElem?_cons_succ, cLstX, cLst, cLen]; subst hTl)
  refine .inr ⟨_, (shD (shB b)).map (·.1), fun M' => M' f = some (.dct o (shD (shB b))), rfl, (fun z e => by cases e), by unfold walkD; simp only [ef], fun s hs => ?_⟩
  have hsp := h.ne hs
  have f1 := h.new (o := .lst ((shD (shB b)).map (·.1))) hs
  have y1 := Ex2.upd (o := .lst ((shD (shB b)).map (·.1))) hs (Ex2.refl (p := p) (g := g))
  have ef1 := y1.at fp.1 fp.2 ef
  refine ⟨_, (shD (shB b)).length, rfl, by unfold lenD; simp only [ef1], ?_⟩
  refine p_draw (B := B + 39) f1 (by omega) (small_log (by omega)) fun x M1 x0 x1 f2 y2 => ?_
  refine ixAny (y2.at hsp.1 hsp.2.1 up_same) x0 (by rw [List.length_map]; exact x1) fun d hd => ?_
  have hr : ∃ r ∈ shB b, d = .str r.1 := by
    unfold shD at hd
    rw [List.map_map] at hd
    obtain ⟨r, hr, rfl⟩ := List.mem_map.mp hd
    exact ⟨r, hr, rfl⟩
  obtain ⟨r, hr, rfl⟩ := hr
  have y2 := y1.trans y2
  clear y1 f1 ef1
  have ef2 := y2.at fp.1 fp.2 ef
  have lk := look_shD r.1 (shB b)
  rw [(sh_row b r hr).1] at lk
  obtain ⟨t1, t2, t3⟩ := sh_two b r hr
  have kth : ∀ nl is M', nl.length = r.2.1 → is.length = r.2.2 → (∀ x ∈ nl, NmL x) → (∀ i ∈ is, i.natAbs ≤ 999999999) → BG M' p g c B → Ex2 p g M M' → Q (.tup (thD r.1 nl is)) M' := fun nl is M' h1 h2 h3 h4 h5 h6 => k r nl is M' ⟨hr, h1, h2, h3, h4⟩ h5 h6
  obtain ⟨w, n, i⟩ := r
  simp only at t1 t2 t3 lk kth
  simp only [Option.map_some] at lk
  (unfold w_thing_l_1; obtain ⟨Tl, hTl⟩ : ∃ x, x = w_thing_l_2 := ⟨_, rfl⟩; rw [← hTl]; simp only [wSeq, wAsg, wDrop, wRet, wRetN, wNext, wIfS, wBl, Fg.wTru, wOp, wUn, wCl, wCons, wNil, wVar, wCst, wTup, wLst, gNm, wCall, List.set_cons_zero, List.set_cons_succ, List.getElem?_cons_zero, List.getElem?_cons_succ]; subst hTl)
  have dix : ∀ {Q2 : QD}, Q2 (.tup [.int (n : Int), .int (i : Int)]) M1 → dIx (.ref f) (.str w) M1 Q2 := fun {Q2} g => by
    unfold dIx
    simp only [ef2]
    exact ⟨_, _, kSh_ok _ w, lk, g⟩
  refine dix ⟨_, rfl, rfl, ?_⟩
  simp only [gMany, wSeq, wAsg, wDrop, wRet, wRetN, wNext, wIfS, wBl, Fg.wTru, wOp, wUn, wCl, wCons, wNil, wVar, wCst, wTup, wLst, gNm, wCall, List.set_cons_zero, List.set_cons_succ, List.getElem?_cons_zero, List.getElem?_cons_succ]
  (unfold w_thing_l_2; obtain ⟨Tl, hTl⟩ : ∃ x, x = w_thing_l_3 := ⟨_, rfl⟩; rw [← hTl]; simp only [wSeq, wAsg, wDrop, wRet, wRetN, wNext, wIfS, wBl, Fg.wTru, wOp, wUn, wCl, wCons, wNil, wVar, wCst, wTup, wLst, gNm, wCall, List.set_cons_zero, List.set_cons_succ, List.getElem?_cons_zero, List.getElem?_cons_succ, wLc, wRng1, dAdd, cLen]; subst hTl)
  refine ⟨show 1 ≤ sizeLine by rw [sizeLine_eq]; decide, fun q hq => ?_⟩
  have hqp := f2.ne hq
  have f3 := f2.new (o := .lst [.str w]) hq
  have y3 := y2.trans (Ex2.upd (o := .lst [.str w]) hq (Ex2.refl (p := p) (g := g)))
  have eq3 : Fg.up M1 q (.lst [.str w]) q = some (.lst [.str w]) := up_same
  generalize Fg.up M1 q (.lst [.str w]) = M2 at f3 y3 eq3 ⊢
  refine ⟨_, rfl, by omega, by omega, fun s2 hs2 => ?_⟩
  have hs2p := f3.ne hs2
  rw [Int.toNat_natCast]
  refine lc_draws (B := B + 33) (cost := 1) (fun d => ∃ x, NmL x ∧ d = .str (S x)) (f3.less (by omega)) hs2 (by omega) (fun B' M3 fa ya j K1 k1 => ?_) fun ds M3 el hds es2 f4 y4 => ?_
  · simp only [wipeD, wSeq, wAsg, wDrop, wRet, wRetN, wNext, wIfS, wBl, Fg.wTru, wOp, wUn, wCl, wCons, wNil, wVar, wCst, wTup, wLst, gNm, wCall, List.set_cons_zero, List.set_cons_succ, List.getElem?_cons_zero, List.getElem?_cons_succ]
    have ea3 := (y3.trans ya).at ap.1 ap.2 ea
    refine ⟨_, 4, rfl, by unfold lenD; simp only [ea3, lN], ?_⟩
    refine p_draw fa (by decide) (by decide) fun x M4 x0 x1 f5 y5 => ?_
    exact ixAny (y5.at ap.1 ap.2 ea3) x0 (by rw [lN]; exact x1) fun d hd => k1 d M4 (hN d hd) f5 y5
  obtain ⟨nl, rfl, hnl⟩ := of_all ds hds
  rw [List.length_map] at el
  refine ⟨_, _, y4.at hqp.1 hqp.2.1 eq3, es2, by rw [List.length_singleton, List.length_map, sizeLine_eq]; omega, fun q5 hq5 => ?_⟩
  have hq5p := f4.ne hq5
  have y4 := y3.trans y4
  have f5 := f4.new (o := .lst ([D.str w] ++ nl.map fun x => D.str (S x))) hq5
  have y5 := y4.trans (Ex2.upd (o := .lst ([D.str w] ++ nl.map fun x => D.str (S x))) hq5 (Ex2.refl (p := p) (g := g)))
  have n5 := y4.none hq5 hq5p.1 hq5p.2.1
  have eq5 : Fg.up M3 q5 (.lst ([D.str w] ++ nl.map fun x => D.str (S x))) q5 = some (.lst ([D.str w] ++ nl.map fun x => D.str (S x))) := up_same
  generalize Fg.up M3 q5 (.lst ([D.str w] ++ nl.map fun x => D.str (S x))) = M4 at f5 y5 eq5 ⊢
  (unfold w_thing_l_3; obtain ⟨Tl, hTl⟩ : ∃ x, x = w_thing_l_4 := ⟨_, rfl⟩; rw [← hTl]; simp only [wSeq, wAsg, wDrop, wRet, wRetN, wNext, wIfS, wBl, Fg.wTru, wOp, wUn, wCl, wCons, wNil, wVar, wCst, wTup, wLst, gNm, wCall, List.set_cons_zero, List.set_cons_succ, List.getElem?_cons_zero, List.getElem?_cons_succ, wLc, wRng1]; subst hTl)
  refine ⟨_, rfl, by omega, by omega, fun s6 hs6 => ?_⟩
  have hs6p := f5.ne hs6
  rw [Int.toNat_natCast]
  refine lc_draws (B := B + 10) (cost := 4) (fun d => ∃ x : Int, x.natAbs ≤ 999999999 ∧ d = .int x) (f5.less (by omega)) hs6 (by omega) (fun B' M5 fa ya j K1 k1 => ?_) fun ds M5 el2 hds2 es6 f6 y6 => ?_
  · simp only [wipeD, wSeq, wAsg, wDrop, wRet, wRetN, wNext, wIfS, wBl, Fg.wTru, wOp, wUn, wCl, wCons, wNil, wVar, wCst, wTup, wLst, gNm, wCall, List.set_cons_zero, List.set_cons_succ, List.getElem?_cons_zero, List.getElem?_cons_succ]
    exact p_number fa fun n M6 hn f7 y7 => k1 _ M6 ⟨n, hn, rfl⟩ f7 y7
  obtain ⟨is, rfl, his⟩ := of_all ds hds2
  rw [List.length_map] at el2
  have eq6 := y6.at hq5p.1 hq5p.2.1 eq5
  have y6 := y5.trans y6
  clear f5 y5 y3 y4
  -- the end
  have fin : ∀ (M7 : MM) (q7 s7 : Addr) (nl : List (List Nat)) (is : List Int) (v4 v7 v8 v9 : Option D), nl.length = n → is.length = i → (∀ x ∈ nl, NmL x) → (∀ x ∈ is, x.natAbs ≤ 999999999) → BG M7 p g c B → Ex2 p g M M7 → M7 q7 = some (.lst (.str w :: nl.map fun x => D.str (S x))) → M7 s7 = some (.lst (is.map D.int)) →
      w_thing_l_5 [some (.ref p), some (.ref a), some (.ref f), some (.bl pr), v4, some (.ref q7), some (.ref s7), v7, v8, v9] M7 { nx := fun _ M' => Q .non M', rt := Q } (fun x _ M' => E x M') := fun M7 q7 s7 nl is v4 v7 v8 v9 h1 h2 h3 h4 h5 h6 h7 h8 => by
    simp only [w_thing_l_5, wSeq, wAsg, wDrop, wRet, wRetN, wNext, wIfS, wBl, Fg.wTru, wOp, wUn, wCl, wCons, wNil, wVar, wCst, wTup, wLst, gNm, wCall, List.set_cons_zero, List.set_cons_succ, List.getElem?_cons_zero, List.getElem?_cons_succ, dAdd, cTuple]
    refine ⟨_, _, h7, h8, by rw [List.length_cons, List.length_map, List.length_map, sizeLine_eq]; omega, fun q9 hq9 => ?_⟩
    refine ⟨_, _, rfl, items_ref up_same, ?_⟩
    exact kth nl is _ h1 h2 h3 h4 (h5.new hq9) (h6.trans (Ex2.upd hq9 Ex2.refl))
  cases pr with
  | false =>
    (unfold w_thing_l_4; obtain ⟨Tl, hTl⟩ : ∃ x, x = w_thing_l_5 := ⟨_, rfl⟩; rw [← hTl]; simp only [wSeq, wAsg, wDrop, wRet, wRetN, wNext, wIfS, wBl, Fg.wTru, wOp, wUn, wCl, wCons, wNil, wVar, wCst, wTup, wLst, gNm, wCall, List.set_cons_zero, List.set_cons_succ, List.getElem?_cons_zero, List.getElem?_cons_succ, truD, exists_eq_left', exists_and_left, Option.some.injEq, List.cons.injEq, and_true, true_and, D.int.injEq, D.ref.injEq, D.str.injEq, D.tup.injEq, D.bl.injEq, exists_eq', and_assoc]; subst hTl)
    simp only [Bool.false_eq_true, if_false]
    exact fin M5 q5 s6 nl is _ _ _ _ el el2 hnl his (f6.less (by omega)) y6 eq6 es6
  | true =>
    (unfold w_thing_l_4; obtain ⟨Tl, hTl⟩ : ∃ x, x = w_thing_l_5 := ⟨_, rfl⟩; rw [← hTl]; simp only [wSeq, wAsg, wDrop, wRet, wRetN, wNext, wIfS, wBl, Fg.wTru, wOp, wUn, wCl, wCons, wNil, wVar, wCst, wTup, wLst, gNm, wCall, List.set_cons_zero, List.set_cons_succ, List.getElem?_cons_zero, List.getElem?_cons_succ, truD, exists_eq_left', exists_and_left, Option.some.injEq, List.cons.injEq, and_true, true_and, D.int.injEq, D.ref.injEq, D.str.injEq, D.tup.injEq, D.bl.injEq, exists_eq', and_assoc, wSl, wSoP, wNoP, wLc, wRng1, dAdd, dSub, cLen, gSubD]; subst hTl)
    simp only [if_true]
    have ea5 := y6.at ap.1 ap.2 ea
    refine ixAny ea5 (by decide) (by rw [lN]; decide) fun d0 hd0 => ?_
    obtain ⟨x0, hx0, rfl⟩ := hN d0 hd0
    refine stL (i := 1) eq6 (by rw [List.length_append, List.length_singleton, List.length_map]; omega) ?_
    have f7 := f6.upd (o := .lst (([D.str w] ++ nl.map fun x => D.str (S x)).set 1 (.str (S x0)))) hq5p
    have y7 := Ex2.upd (o := .lst (([D.str w] ++ nl.map fun x => D.str (S x)).set 1 (.str (S x0)))) n5 y6
    have eq7 : Fg.up M5 q5 (.lst (([D.str w] ++ nl.map fun x => D.str (S x)).set 1 (.str (S x0)))) q5 = _ := up_same
    generalize Fg.up M5 q5 (.lst (([D.str w] ++ nl.map fun x => D.str (S x)).set 1 (.str (S x0)))) = M6 at f7 y7 eq7 ⊢
    refine ⟨_, lstOf_ref eq7, fun q8 hq8 => ?_⟩
    have ec : cutL (([D.str w] ++ nl.map fun x => D.str (S x)).set 1 (.str (S x0))) none (some 2) = [D.str w, .str (S x0)] := by
      cases nl with
      | nil => simp at el; omega
      | cons z r =>
        have := cutL_to (([D.str w] ++ (z :: r).map fun x => D.str (S x)).set 1 (.str (S x0))) 2
        refine this.trans ?_
        rw [List.length_set, List.length_append, List.length_singleton, List.length_map, List.length_cons, Nat.min_eq_left (by omega)]
        rfl
    rw [ec]
    have hq8p := f7.ne hq8
    have f8 := f7.new (o := .lst [.str w, .str (S x0)]) hq8
    have y8 := y7.trans (Ex2.upd (o := .lst [.str w, .str (S x0)]) hq8 (Ex2.refl (p := p) (g := g)))
    have eq8 : Fg.up M6 q8 (.lst [.str w, .str (S x0)]) q8 = some (.lst [.str w, .str (S x0)]) := up_same
    generalize Fg.up M6 q8 (.lst [.str w, .str (S x0)]) = M7 at f8 y8 eq8 ⊢
    refine ⟨by omega, by omega, fun s9 hs9 => ?_⟩
    have hs9p := f8.ne hs9
    rw [show ((n : Int) - 1).toNat = n - 1 by omega]
    refine lc_draws (B := B + 4) (cost := 1) (fun d => ∃ x, NmL x ∧ d = .str (S x)) (f8.less (by omega)) hs9 (by omega) (fun B' M8 fa ya j K1 k1 => ?_) fun ds M8 el9 hds9 es9 f9 y9 => ?_
    · simp only [wipeD, wSeq, wAsg, wDrop, wRet, wRetN, wNext, wIfS, wBl, Fg.wTru, wOp, wUn, wCl, wCons, wNil, wVar, wCst, wTup, wLst, gNm, wCall, List.set_cons_zero, List.set_cons_succ, List.getElem?_cons_zero, List.getElem?_cons_succ]
      have ea8 := (y8.trans ya).at ap.1 ap.2 ea
      refine ⟨_, 4, rfl, by unfold lenD; simp only [ea8, lN], ?_⟩
      refine p_draw fa (by decide) (by decide) fun x M9 x0 x1 f10 y10 => ?_
      have x1 : x < 3 := x1
      exact ixAny (y10.at ap.1 ap.2 ea8) (by omega) (by rw [lN]; omega) fun d hd => k1 d M9 (hN d hd) f10 y10
    obtain ⟨nl2, rfl, hnl2⟩ := of_all ds hds9
    rw [List.length_map] at el9
    refine ⟨_, y9.at hq8p.1 hq8p.2.1 eq8, _, es9, by rw [List.length_map, sizeLine_eq]; simp; omega, fun q10 hq10 => ?_⟩
    have y9 := y8.trans y9
    have hq10p := f9.ne hq10
    have f10 := f9.new (o := .lst ([D.str w, .str (S x0)] ++ nl2.map fun x => D.str (S x))) hq10
    have y10 := y9.trans (Ex2.upd (o := .lst ([D.str w, .str (S x0)] ++ nl2.map fun x => D.str (S x))) hq10 (Ex2.refl (p := p) (g := g)))
    have eq10 : Fg.up M8 q10 (.lst ([D.str w, .str (S x0)] ++ nl2.map fun x => D.str (S x))) q10 = some (.lst (.str w :: (x0 :: nl2).map fun x => D.str (S x))) := up_same
    generalize Fg.up M8 q10 (.lst ([D.str w, .str (S x0)] ++ nl2.map fun x => D.str (S x))) = M9 at f10 y10 eq10 ⊢
    refine p_draw (B := B + 3) f10 (by decide) (by decide) fun v1 M10 v10 v11 f11 y11 => ?_
    refine p_draw (B := B + 2) f11 (by decide) (by decide) fun v2 M11 v20 v21 f12 y12 => ?_
    refine ⟨show 2 ≤ sizeLine by rw [sizeLine_eq]; decide, fun q11 hq11 => ?_⟩
    have f13 := f12.new (o := .lst [.int (v1 - 100), .int (1 + v2)]) hq11
    have y12 := y11.trans y12
    have y13 := y12.trans (Ex2.upd (o := .lst [.int (v1 - 100), .int (1 + v2)]) hq11 (Ex2.refl (p := p) (g := g)))
    have eq13 : Fg.up M11 q11 (.lst [.int (v1 - 100), .int (1 + v2)]) q11 = some (.lst [.int (v1 - 100), .int (1 + v2)]) := up_same
    generalize Fg.up M11 q11 (.lst [.int (v1 - 100), .int (1 + v2)]) = M12 at f13 y13 eq13 ⊢
    refine ⟨_, lstOf_ref eq13, fun q14 hq14 => ?_⟩
    have ec2 : cutL [.int (v1 - 100), .int (1 + v2)] none (some (i : Int)) = ([v1 - 100, 1 + v2].take i).map D.int := by
      rw [cutL_to, List.map_take]
      show List.take (min i 2) _ = _
      rw [Nat.min_eq_left t3]
      rfl
    rw [ec2]
    have f14 := f13.new (o := .lst (([v1 - 100, 1 + v2].take i).map D.int)) hq14
    have y14 := y13.trans (Ex2.upd (o := .lst (([v1 - 100, 1 + v2].take i).map D.int)) hq14 (Ex2.refl (p := p) (g := g)))
    refine fin _ q10 q14 (x0 :: nl2) ([v1 - 100, 1 + v2].take i) _ _ _ _ (by rw [List.length_cons, el9]; omega) (by rw [List.length_take]; show min i 2 = i; omega) (fun x hx => ?_) (fun x hx => ?_) (f14.less (by omega)) (y10.trans y14) (y14.at hq10p.1 hq10p.2.1 eq10) up_same
    · rcases List.mem_cons.mp hx with rfl | hx
      · exact hx0
      · exact hnl2 x hx
    · have := List.mem_of_mem_take hx
      simp only [List.mem_cons, List.not_mem_nil, or_false] at this
      rcases this with rfl | rfl <;> omega
end FgL
/-! Z15: texts spoilt. -/
namespace FgL
open PySem PySem.Spec L2 Fg
open PyProof.Rows hiding St
open TL (tl len_tl ext_tl tl_ofString tl_num numL numL_lt numL_step numL_digits numL_ne numL_free numL_val numL_len split_join join_eq)
theorem cutL_map (ws : List Str) (lo hi : Option Int) : ∃ xs : List Str, cutL (ws.map D.str) lo hi = xs.map D.str ∧ xs.length ≤ ws.length ∧ ∀ w ∈ xs, w ∈ ws := by
  unfold cutL
  refine ⟨(ws.drop (HT.sIx (ws.map D.str).length 0 lo)).take (HT.sIx (ws.map D.str).length (ws.map D.str).length hi - HT.sIx (ws.map D.str).length 0 lo), by rw [List.map_take, List.map_drop], ?_, fun w hw => List.mem_of_mem_drop (List.mem_of_mem_take hw)⟩
  rw [List.length_take, List.length_drop]
  omega
theorem cutS_le (z : Str) (lo hi : Option Int) : (cutS z lo hi).length ≤ z.length := by
  have e : cutS z lo hi = S ((z.cps.toList.drop (HT.sIx z.length 0 lo)).take (HT.sIx z.length z.length hi - HT.sIx z.length 0 lo)) := rfl
  rw [e, S_len, List.length_take, List.length_drop, wlen]
  omega
theorem lenZ {M : MM} {z : Str} (h : z.length ≤ sizeLine) : lenD M (.str z) = some z.length := by
  show (if z.length ≤ sizeLine then some z.length else none) = _
  rw [if_pos h]
theorem addI {M : MM} {i j : Int} {Q : QD} (k : Q (.int (i + j)) M) : dAdd (.int i) (.int j) M Q := k
/-- words that are short and few -/
structure Wd (ws : List Str) (n : Nat) : Prop where
  n : ws.length ≤ n
  w : ∀ w ∈ ws, w.length ≤ 13
theorem Wd.join {ws : List Str} {n : Nat} (h : Wd ws n) (hn : n ≤ 7000) : Tx (Txt.join blank ws) ∧ (ws.map (·.length)).sum + ws.length * blank.length ≤ 16777216 := by
  have e : blank.length = 1 := by decide +kernel
  have h1 := join_len blank 13 ws h.w
  have h2 := sum_le 13 ws h.w
  have h3 := h.n
  rw [e] at h1 ⊢
  exact ⟨⟨by rw [join_eq]; omega⟩, by omega⟩
theorem Wd.app {a b : List Str} {n m : Nat} (h : Wd a n) (k : Wd b m) : Wd (a ++ b) (n + m) := ⟨by rw [List.length_append]; have := h.n; have := k.n; omega, fun w hw => (List.mem_append.mp hw).elim (h.w w) (k.w w)⟩
theorem Wd.sub {a b : List Str} {n : Nat} (h : Wd a n) (k1 : b.length ≤ a.length) (k2 : ∀ w ∈ b, w ∈ a) : Wd b n := ⟨Nat.le_trans k1 h.n, fun w hw => h.w w (k2 w hw)⟩
/-- a slice of a row of words -/
theorem slW {M : MM} {q : Addr} {ws : List Str} {n : Nat} {lo hi : Option Int} {Q : QD} (e : M q = some (.lst (ws.map D.str))) (h : Wd ws n) (k : ∀ a xs, M a = none → Wd xs n → Q (.ref a) (Fg.up M a (.lst (xs.map D.str)))) : dSl (.ref q) lo hi M Q := by
  obtain ⟨xs, e1, e2, e3⟩ := cutL_map ws lo hi
  refine ⟨_, lstOf_ref e, fun a ha => ?_⟩
  rw [e1]
  exact k a xs ha (h.sub e2 e3)
/-- two rows of words, one behind the other -/
theorem addW {M : MM} {a b : Addr} {xs ys : List Str} {n m : Nat} {Q : QD} (ea : M a = some (.lst (xs.map D.str))) (eb : M b = some (.lst (ys.map D.str))) (ha : Wd xs n) (hb : Wd ys m) (hn : n + m ≤ 100000) (k : ∀ s, M s = none → Wd (xs ++ ys) (n + m) → Q (.ref s) (Fg.up M s (.lst ((xs ++ ys).map D.str)))) : dAdd (.ref a) (.ref b) M Q := by
  have h1 := ha.n
  have h2 := hb.n
  refine ⟨_, _, ea, eb, by rw [List.length_map, List.length_map, sizeLine_eq]; omega, fun s hs => ?_⟩
  rw [← List.map_append]
  exact k s hs (ha.app hb)
theorem joinW {M : MM} {a : Addr} {xs : List Str} {n : Nat} {Q : QD} (e : M a = some (.lst (xs.map D.str))) (h : Wd xs n) (hn : n ≤ 7000) (k : ∀ z, Tx z → Q (.str z) M) : mJoin (.str blank) [.ref a] M Q :=
  ⟨blank, .ref a, xs, rfl, rfl, items_ref e, (h.join hn).2, k _ (h.join hn).1⟩
abbrev odd1 : List Str := ["", "A", "abcde", "a1", "0", "-0", "01", "1234567890", "-1234567890", "+1", "1.0", "a-b", "free", "same"]
abbrev odd2 : List Str := ["-", "--1", "a_b", "on_line", "part", "-5", "000", "abcd", "123456789", "-123456789"]
theorem odd_ok : Wd odd1 14 ∧ Wd odd2 10 := ⟨⟨by decide, by decide +kernel⟩, ⟨by decide, by decide +kernel⟩⟩
theorem p_spoilt {M : MM} {p g c : Addr} {z : Str} {B : Nat} {Q : QD} {E : QX} (h : BG M p g c (B + 5)) (hz : z.length ≤ 3000) (hw : Wd (Txt.split z blank) 300) 
    (k : ∀ z' M', Tx z' → BG M' p g c B → Ex2 p g M M' → Q (.str z') M') : sp_spoilt_l [.ref p, .str z] M Q E := by
  refine ⟨rfl, ?_⟩
  show w_spoilt_l [some (.ref p), some (.str z), none, none, none, none, none] M _ _
  have sl : sizeLine = 16777216 := sizeLine_eq
  have hp := (PyProof.Rows.fact_split z blank).1
  (unfold w_spoilt_l; obtain ⟨Tl, hTl⟩ : ∃ x, x = w_spoilt_l_1 := ⟨_, rfl⟩; rw [← hTl]; simp only [wSeq, wAsg, wDrop, wRet, wRetN, wNext, wIfS, wBl, Fg.wTru, wOp, wUn, wCl, wCons, wNil, wVar, wCst, wTup, wLst, gNm, wCall, List.set_cons_zero, List.set_cons_succ, List.getElem?_cons_zero, List.getElem?_cons_succ, wBm, tyR, mSplit]; subst hTl)
  refine ⟨trivial, z, blank, rfl, rfl, by decide +kernel, by omega, fun q hq => ?_⟩
  generalize Txt.split z blank = ws at hw hp ⊢
  have hqp := h.ne hq
  have f1 := h.new (o := .lst (ws.map D.str)) hq
  have y1 := Ex2.upd (o := .lst (ws.map D.str)) hq (Ex2.refl (p := p) (g := g))
  have e1 : Fg.up M q (.lst (ws.map D.str)) q = some (.lst (ws.map D.str)) := up_same
  generalize Fg.up M q (.lst (ws.map D.str)) = M1 at f1 y1 e1 ⊢
  have wn := hw.n
  (unfold w_spoilt_l_1; obtain ⟨Tl, hTl⟩ : ∃ x, x = w_spoilt_l_2 := ⟨_, rfl⟩; rw [← hTl]; simp only [wSeq, wAsg, wDrop, wRet, wRetN, wNext, wIfS, wBl, Fg.wTru, wOp, wUn, wCl, wCons, wNil, wVar, wCst, wTup, wLst, gNm, wCall, List.set_cons_zero, List.set_cons_succ, List.getElem?_cons_zero, List.getElem?_cons_succ, cLen]; subst hTl)
  refine ⟨_, ws.length, rfl, by unfold lenD; simp only [e1, List.length_map], ?_⟩
  refine p_draw (B := B + 4) f1 (by omega) (small_log (by omega)) fun at_ M2 a0 a1 f2 y2 => ?_
  have e2 := y2.at hqp.1 hqp.2.1 e1
  have y2 := y1.trans y2
  (unfold w_spoilt_l_2; obtain ⟨Tl, hTl⟩ : ∃ x, x = w_spoilt_l_3 := ⟨_, rfl⟩; rw [← hTl]; simp only [wSeq, wAsg, wDrop, wRet, wRetN, wNext, wIfS, wBl, Fg.wTru, wOp, wUn, wCl, wCons, wNil, wVar, wCst, wTup, wLst, gNm, wCall, List.set_cons_zero, List.set_cons_succ, List.getElem?_cons_zero, List.getElem?_cons_succ, cLen, dAdd]; subst hTl)
  refine ⟨_, z.length, rfl, lenZ (by omega), ?_⟩
  refine p_draw (B := B + 3) f2 (by omega) (small_log (by omega)) fun pl M3 l0 l1 f3 y3 => ?_
  have e3 := y3.at hqp.1 hqp.2.1 e2
  have y3 := y2.trans y3
  (unfold w_spoilt_l_3; obtain ⟨Tl, hTl⟩ : ∃ x, x = w_spoilt_l_4 := ⟨_, rfl⟩; rw [← hTl]; simp only [wSeq, wAsg, wDrop, wRet, wRetN, wNext, wIfS, wBl, Fg.wTru, wOp, wUn, wCl, wCons, wNil, wVar, wCst, wTup, wLst, gNm, wCall, List.set_cons_zero, List.set_cons_succ, List.getElem?_cons_zero, List.getElem?_cons_succ, wLst]; subst hTl)
  refine ⟨show 14 ≤ sizeLine by omega, fun s hs => ?_⟩
  have hsp := f3.ne hs
  have f4 := f3.new (o := .lst (odd1.map D.str)) hs
  have y4 := y3.trans (Ex2.upd (o := .lst (odd1.map D.str)) hs (Ex2.refl (p := p) (g := g)))
  have e4 : Fg.up M3 s (.lst (odd1.map D.str)) s = some (.lst (odd1.map D.str)) := up_same
  have eq4 : Fg.up M3 s (.lst (odd1.map D.str)) q = some (.lst (ws.map D.str)) := by rw [up_ne fun w => by rw [w, hs] at e3; cases e3]; exact e3
  change w_spoilt_l_4 _ (Fg.up M3 s (.lst (odd1.map D.str))) _ _
  generalize Fg.up M3 s (.lst (odd1.map D.str)) = M4 at f4 y4 e4 eq4 ⊢
  (unfold w_spoilt_l_4; obtain ⟨Tl, hTl⟩ : ∃ x, x = w_spoilt_l_5 := ⟨_, rfl⟩; rw [← hTl]; simp only [wSeq, wAsg, wDrop, wRet, wRetN, wNext, wIfS, wBl, Fg.wTru, wOp, wUn, wCl, wCons, wNil, wVar, wCst, wTup, wLst, gNm, wCall, List.set_cons_zero, List.set_cons_succ, List.getElem?_cons_zero, List.getElem?_cons_succ, wLst]; subst hTl)
  refine ⟨show 10 ≤ sizeLine by omega, fun t ht => ?_⟩
  have htp := f4.ne ht
  have x5 : Ext M4 (Fg.up M4 t (.lst (odd2.map D.str))) := .new ht
  change dAdd (.ref s) (.ref t) (Fg.up M4 t (.lst (odd2.map D.str))) _
  refine addW (x5 _ _ e4) (ys := odd2) up_same odd_ok.1 odd_ok.2 (by decide) fun u hu hU => ?_
  have x6 := x5.trans (Ext.new (o := .lst ((odd1 ++ odd2).map D.str)) hu)
  have f6 := f4.ext x6
  have y6 := y4.ext x6
  have eq6 := x6 _ _ eq4
  have e6 : Fg.up (Fg.up M4 t (.lst (odd2.map D.str))) u (.lst ((odd1 ++ odd2).map D.str)) u = some (.lst ((odd1 ++ odd2).map D.str)) := up_same
  have hup := f4.ext x5 |>.ne hu
  generalize Fg.up (Fg.up M4 t (.lst (odd2.map D.str))) u (.lst ((odd1 ++ odd2).map D.str)) = M5 at f6 y6 eq6 e6 ⊢
  (unfold w_spoilt_l_5; obtain ⟨Tl, hTl⟩ : ∃ x, x = w_spoilt_l_6 := ⟨_, rfl⟩; rw [← hTl]; simp only [wSeq, wAsg, wDrop, wRet, wRetN, wNext, wIfS, wBl, Fg.wTru, wOp, wUn, wCl, wCons, wNil, wVar, wCst, wTup, wLst, gNm, wCall, List.set_cons_zero, List.set_cons_succ, List.getElem?_cons_zero, List.getElem?_cons_succ]; subst hTl)
  refine p_draw (B := B + 2) f6 (by decide) (by decide) fun way M6 w0 w1 f7 y7 => ?_
  have eq7 := y7.at hqp.1 hqp.2.1 eq6
  have e7 := y7.at hup.1 hup.2.1 e6
  have y7 := y6.trans y7
  clear f1 f2 f3 f4 f6 y1 y2 y3 y4 y6 e1 e2 e3 e4 eq4 eq6 e6 x5 x6
  have done : ∀ z' M', Tx z' → BG M' p g c (B + 1) → Ex2 p g M6 M' → Q (.str z') M' := fun z' M' h1 h2 h3 => k z' M' h1 (h2.less (by omega)) (y7.trans h3)
  -- an odd word
  have pick : ∀ (M7 : MM) (K1 : QD), BG M7 p g c (B + 2) → Ex2 p g M6 M7 → (∀ o M8, o.length ≤ 13 → BG M8 p g c (B + 1) → Ex2 p g M7 M8 → K1 (.str o) M8) → ∃ x n, [D.ref u] = [x] ∧ lenD M7 x = some n ∧ sp_draw_l [.ref p, .int (n : Int)] M7 (fun y M2 => dIx (.ref u) y M2 K1) (fun x M1 => E x M1) := fun M7 K1 fa ya k1 => by
    have ea := ya.at hup.1 hup.2.1 e7
    refine ⟨_, 24, rfl, by unfold lenD; simp only [ea, List.length_map]; rfl, ?_⟩
    refine p_draw (B := B + 1) fa (by decide) (by decide) fun x M8 x0 x1 fb yb => ?_
    refine ixAny (yb.at hup.1 hup.2.1 ea) x0 (by rw [List.length_map]; exact x1) fun d hd => ?_
    obtain ⟨o, ho, rfl⟩ := List.mem_map.mp hd
    exact k1 o M8 (hU.w o ho) fb yb
  (unfold w_spoilt_l_6; obtain ⟨Tl, hTl⟩ : ∃ x, x = w_spoilt_l_7 := ⟨_, rfl⟩; rw [← hTl]; simp only [wSeq, wAsg, wDrop, wRet, wRetN, wNext, wIfS, wBl, Fg.wTru, wOp, wUn, wCl, wCons, wNil, wVar, wCst, wTup, wLst, gNm, wCall, List.set_cons_zero, List.set_cons_succ, List.getElem?_cons_zero, List.getElem?_cons_succ, wBm, tyR, wSl, wSoP, wNoP, dEq]; subst hTl)
  by_cases c0 : way = 0
  · simp only [c0, decide_true, if_true]
    refine ⟨trivial, at_, rfl, ?_⟩
    refine slW eq7 hw fun a1 xs1 ha1 h1 => ?_
    have x1 : Ext M6 (Fg.up M6 a1 (.lst (xs1.map D.str))) := .new ha1
    refine addI ⟨at_ + 1, rfl, ?_⟩
    refine slW (x1 _ _ eq7) hw fun a2 xs2 ha2 h2 => ?_
    have x2 := x1.trans (Ext.new (o := .lst (xs2.map D.str)) ha2)
    refine addW ((Ext.new ha2) _ _ up_same) up_same h1 h2 (by decide) fun a3 ha3 h3 => ?_
    have x3 := x2.trans (Ext.new (o := .lst ((xs1 ++ xs2).map D.str)) ha3)
    refine joinW up_same h3 (by decide) fun z' hz' => ?_
    exact done z' _ hz' ((f7.ext x3).less (by omega)) (.of x3)
  simp only [c0, decide_false, Bool.false_eq_true, if_false]
  (unfold w_spoilt_l_7; obtain ⟨Tl, hTl⟩ : ∃ x, x = w_spoilt_l_8 := ⟨_, rfl⟩; rw [← hTl]; simp only [wSeq, wAsg, wDrop, wRet, wRetN, wNext, wIfS, wBl, Fg.wTru, wOp, wUn, wCl, wCons, wNil, wVar, wCst, wTup, wLst, gNm, wCall, List.set_cons_zero, List.set_cons_succ, List.getElem?_cons_zero, List.getElem?_cons_succ, wBm, tyR, wSl, wSoP, wNoP, dEq, cLen, wLst]; subst hTl)
  by_cases c1 : way = 1
  · simp only [c1, decide_true, if_true]
    refine ⟨trivial, at_, rfl, ?_⟩
    refine slW eq7 hw fun a1 xs1 ha1 h1 => ?_
    have x1 : Ext M6 (Fg.up M6 a1 (.lst (xs1.map D.str))) := .new ha1
    have g1 := f7.ext x1
    have b1 := f7.ne ha1
    have e1 : Fg.up M6 a1 (.lst (xs1.map D.str)) a1 = some (.lst (xs1.map D.str)) := up_same
    generalize Fg.up M6 a1 (.lst (xs1.map D.str)) = M7 at x1 g1 e1 ⊢
    refine pick M7 _ g1 (.of x1) fun o M8 ho g2 y8 => ?_
    have eq8 := y8.at hqp.1 hqp.2.1 (x1 _ _ eq7)
    have e8 := y8.at b1.1 b1.2.1 e1
    refine ⟨show 1 ≤ sizeLine by omega, fun a2 ha2 => ?_⟩
    have ho1 : Wd [o] 1 := ⟨Nat.le_refl _, fun w hw => by rw [List.mem_singleton.mp hw]; exact ho⟩
    have x2 : Ext M8 (Fg.up M8 a2 (.lst ([o].map D.str))) := .new ha2
    change dAdd (.ref a1) (.ref a2) (Fg.up M8 a2 (.lst ([o].map D.str))) _
    refine addW (x2 _ _ e8) up_same h1 ho1 (by decide) fun a3 ha3 h3 => ?_
    have x3 := x2.trans (Ext.new (o := .lst ((xs1 ++ [o]).map D.str)) ha3)
    refine ⟨at_, rfl, ?_⟩
    refine slW (x3 _ _ eq8) hw fun a4 xs4 ha4 h4 => ?_
    refine addW ((Ext.new ha4) _ _ up_same) up_same h3 h4 (by decide) fun a5 ha5 h5 => ?_
    have x5 := x3.trans ((Ext.new (o := .lst (xs4.map D.str)) ha4).trans (Ext.new (o := .lst ((xs1 ++ [o] ++ xs4).map D.str)) ha5))
    refine joinW up_same h5 (by decide) fun z' hz' => ?_
    exact done z' _ hz' (g2.ext x5) ((Ex2.of x1).trans (y8.ext x5))
  simp only [c1, decide_false, Bool.false_eq_true, if_false]
  (unfold w_spoilt_l_8; obtain ⟨Tl, hTl⟩ : ∃ x, x = w_spoilt_l_9 := ⟨_, rfl⟩; rw [← hTl]; simp only [wSeq, wAsg, wDrop, wRet, wRetN, wNext, wIfS, wBl, Fg.wTru, wOp, wUn, wCl, wCons, wNil, wVar, wCst, wTup, wLst, gNm, wCall, List.set_cons_zero, List.set_cons_succ, List.getElem?_cons_zero, List.getElem?_cons_succ, wBm, tyR, wSl, wSoP, wNoP, dEq, dLt, dOrd, cLen, wLst]; subst hTl)
  by_cases c2 : way < 4
  · simp only [c2, decide_true, if_true]
    refine ⟨trivial, at_, rfl, ?_⟩
    refine slW eq7 hw fun a1 xs1 ha1 h1 => ?_
    have x1 : Ext M6 (Fg.up M6 a1 (.lst (xs1.map D.str))) := .new ha1
    have g1 := f7.ext x1
    have b1 := f7.ne ha1
    have e1 : Fg.up M6 a1 (.lst (xs1.map D.str)) a1 = some (.lst (xs1.map D.str)) := up_same
    generalize Fg.up M6 a1 (.lst (xs1.map D.str)) = M7 at x1 g1 e1 ⊢
    refine pick M7 _ g1 (.of x1) fun o M8 ho g2 y8 => ?_
    have eq8 := y8.at hqp.1 hqp.2.1 (x1 _ _ eq7)
    have e8 := y8.at b1.1 b1.2.1 e1
    refine ⟨show 1 ≤ sizeLine by omega, fun a2 ha2 => ?_⟩
    have ho1 : Wd [o] 1 := ⟨Nat.le_refl _, fun w hw => by rw [List.mem_singleton.mp hw]; exact ho⟩
    have x2 : Ext M8 (Fg.up M8 a2 (.lst ([o].map D.str))) := .new ha2
    change dAdd (.ref a1) (.ref a2) (Fg.up M8 a2 (.lst ([o].map D.str))) _
    refine addW (x2 _ _ e8) up_same h1 ho1 (by decide) fun a3 ha3 h3 => ?_
    have x3 := x2.trans (Ext.new (o := .lst ((xs1 ++ [o]).map D.str)) ha3)
    refine addI ⟨at_ + 1, rfl, ?_⟩
    refine slW (x3 _ _ eq8) hw fun a4 xs4 ha4 h4 => ?_
    refine addW ((Ext.new ha4) _ _ up_same) up_same h3 h4 (by decide) fun a5 ha5 h5 => ?_
    have x5 := x3.trans ((Ext.new (o := .lst (xs4.map D.str)) ha4).trans (Ext.new (o := .lst ((xs1 ++ [o] ++ xs4).map D.str)) ha5))
    refine joinW up_same h5 (by decide) fun z' hz' => ?_
    exact done z' _ hz' (g2.ext x5) ((Ex2.of x1).trans (y8.ext x5))
  simp only [c2, decide_false, Bool.false_eq_true, if_false]
  have cl := cutS_le z
  have slz : ∀ {lo hi : Option Int} {M7 : MM} {Q7 : QD}, Q7 (.str (cutS z lo hi)) M7 → dSl (.str z) lo hi M7 Q7 := fun {lo hi M7 Q7} k => ⟨by omega, k⟩
  have addz : ∀ {a b : Str} {M7 : MM} {Q7 : QD}, a.length ≤ 12000 → b.length ≤ 12000 → ((a ++ b).length ≤ a.length + b.length → Q7 (.str (a ++ b)) M7) → dAdd (.str a) (.str b) M7 Q7 := fun {a b M7 Q7} h1 h2 k => ⟨by omega, k (by rw [PySem.Str.length_append]; omega)⟩
  (unfold w_spoilt_l_9; obtain ⟨Tl, hTl⟩ : ∃ x, x = w_spoilt_l_10 := ⟨_, rfl⟩; rw [← hTl]; simp only [wSeq, wAsg, wDrop, wRet, wRetN, wNext, wIfS, wBl, Fg.wTru, wOp, wUn, wCl, wCons, wNil, wVar, wCst, wTup, wLst, gNm, wCall, List.set_cons_zero, List.set_cons_succ, List.getElem?_cons_zero, List.getElem?_cons_succ, wSl, wSoP, wNoP, dEq, wLst]; subst hTl)
  by_cases c3 : way = 4
  · simp only [c3, decide_true, if_true]
    refine ⟨pl, rfl, ?_⟩
    refine slz ?_
    have l1 := cl none (some pl)
    generalize cutS z none (some pl) = a1 at l1 ⊢
    refine ⟨show 8 ≤ sizeLine by omega, fun b hb => ?_⟩
    have hbp := f7.ne hb
    refine p_draw (B := B + 1) (f7.new hb) (by decide) (by decide) fun x M8 x0 x1 f8 y8 => ?_
    refine ixAny (y8.at hbp.1 hbp.2.1 up_same) x0 x1 fun d hd => ?_
    have hd : ∃ s : Str, d = .str s ∧ s.length ≤ 1 := by
      simp only [List.mem_cons, List.not_mem_nil, or_false] at hd
      rcases hd with rfl | rfl | rfl | rfl | rfl | rfl | rfl | rfl <;> exact ⟨_, rfl, by decide +kernel⟩
    obtain ⟨o, rfl, ho⟩ := hd
    refine addz (by omega) (by omega) fun l2 => ?_
    refine ⟨pl, rfl, ?_⟩
    refine slz ?_
    have l3 := cl (some pl) none
    generalize cutS z (some pl) none = a3 at l3 ⊢
    refine addz (by omega) (by omega) fun l4 => ?_
    exact done _ _ ⟨by omega⟩ f8 ((Ex2.upd hb Ex2.refl).trans y8)
  simp only [c3, decide_false, Bool.false_eq_true, if_false]
  (unfold w_spoilt_l_10; obtain ⟨Tl, hTl⟩ : ∃ x, x = w_spoilt_l_11 := ⟨_, rfl⟩; rw [← hTl]; simp only [wSeq, wAsg, wDrop, wRet, wRetN, wNext, wIfS, wBl, Fg.wTru, wOp, wUn, wCl, wCons, wNil, wVar, wCst, wTup, wLst, gNm, wCall, List.set_cons_zero, List.set_cons_succ, List.getElem?_cons_zero, List.getElem?_cons_succ, wSl, wSoP, wNoP, dEq, wLst]; subst hTl)
  by_cases c4 : way = 5
  · simp only [c4, decide_true, if_true]
    refine ⟨pl, rfl, ?_⟩
    refine slz ?_
    have l1 := cl none (some pl)
    generalize cutS z none (some pl) = a1 at l1 ⊢
    refine addI ⟨pl + 1, rfl, ?_⟩
    refine slz ?_
    have l3 := cl (some (pl + 1)) none
    generalize cutS z (some (pl + 1)) none = a3 at l3 ⊢
    refine addz (by omega) (by omega) fun l4 => ?_
    exact done _ _ ⟨by omega⟩ (f7.less (by omega)) Ex2.refl
  simp only [c4, decide_false, Bool.false_eq_true, if_false]
  have e1 : (Str.ofString " ").length = 1 := by decide +kernel
  have e2 : (Str.ofString "\n").length = 1 := by decide +kernel
  (unfold w_spoilt_l_11; obtain ⟨Tl, hTl⟩ : ∃ x, x = w_spoilt_l_12 := ⟨_, rfl⟩; rw [← hTl]; simp only [wSeq, wAsg, wDrop, wRet, wRetN, wNext, wIfS, wBl, Fg.wTru, wOp, wUn, wCl, wCons, wNil, wVar, wCst, wTup, wLst, gNm, wCall, List.set_cons_zero, List.set_cons_succ, List.getElem?_cons_zero, List.getElem?_cons_succ, dEq, wLst]; subst hTl)
  by_cases c5 : way = 6
  · simp only [c5, decide_true, if_true]
    refine addz (by omega) (by omega) fun l1 => ?_
    refine addz (by omega) (by omega) fun l2 => ?_
    refine addz (by omega) (by omega) fun l3 => ?_
    refine addz (by omega) (by omega) fun l4 => ?_
    refine addz (by omega) (by omega) fun l5 => ?_
    refine ⟨show 6 ≤ sizeLine by omega, fun b hb => ?_⟩
    have hbp := f7.ne hb
    refine p_draw (B := B + 1) (f7.new hb) (by decide) (by decide) fun x M8 x0 x1 f8 y8 => ?_
    refine ixAny (y8.at hbp.1 hbp.2.1 up_same) x0 x1 fun d hd => ?_
    have hd : ∃ s : Str, d = .str s ∧ s.length ≤ 10000 := by
      simp only [List.mem_cons, List.not_mem_nil, or_false] at hd
      rcases hd with rfl | rfl | rfl | rfl | rfl | rfl
      · exact ⟨_, rfl, by omega⟩
      · exact ⟨_, rfl, by omega⟩
      · exact ⟨_, rfl, by omega⟩
      · exact ⟨_, rfl, by decide +kernel⟩
      · exact ⟨_, rfl, by decide +kernel⟩
      · exact ⟨_, rfl, by omega⟩
    obtain ⟨o, rfl, ho⟩ := hd
    exact done _ _ ⟨by omega⟩ f8 ((Ex2.upd hb Ex2.refl).trans y8)
  simp only [c5, decide_false, Bool.false_eq_true, if_false]
  simp only [w_spoilt_l_12, wSeq, wAsg, wDrop, wRet, wRetN, wNext, wIfS, wBl, Fg.wTru, wOp, wUn, wCl, wCons, wNil, wVar, wCst, wTup, wLst, gNm, wCall, List.set_cons_zero, List.set_cons_succ, List.getElem?_cons_zero, List.getElem?_cons_succ, wBm, tyR, wSl, wSoP, wNoP, mUpper]
  refine ⟨pl, rfl, ?_⟩
  refine slz ?_
  have l1 := cl none (some pl)
  generalize cutS z none (some pl) = a1 at l1 ⊢
  have lu := PyProof.Rows.len_upper a1
  refine ⟨rfl, a1, rfl, trivial, by omega, ?_⟩
  refine ⟨pl, rfl, ?_⟩
  refine slz ?_
  have l3 := cl (some pl) none
  generalize cutS z (some pl) none = a3 at l3 ⊢
  refine addz (by omega) (by omega) fun l4 => ?_
  exact done _ _ ⟨by omega⟩ (f7.less (by omega)) Ex2.refl
end FgL
/-! Z16: integers read. -/
namespace FgL
open PySem PySem.Spec L2 Fg
open PyProof.Rows hiding St
open TL (tl len_tl ext_tl tl_ofString tl_num numL numL_lt numL_step numL_digits numL_ne numL_free numL_val numL_len split_join join_eq)
theorem p_due {M : MM} {z : Str} {f : Addr} {o : Obj} {b : Bool} {Q : QD} {E : QX} (h : Tx z) (ef : M f = some (.dct o (shD (shB b)))) (k : ∀ M', Ext M M' → Q (rdD (shB b) (Txt.split z blank)) M') : sp_formed_l [.str z, .ref f] M Q E :=
  p_formed ef h.len h.ws.1 h.ws.2.1 h.ws.2.2 (shB_small b) k
theorem joinX {M : MM} {a : Addr} {xs : List Str} {n : Nat} {Q : QD} (e : M a = some (.lst (xs.map D.str))) (h : Wd xs n) (hn : n ≤ 7000) (k : Q (.str (Txt.join blank xs)) M) : mJoin (.str blank) [.ref a] M Q :=
  ⟨blank, .ref a, xs, rfl, rfl, items_ref e, (h.join hn).2, k⟩
theorem Wd.set {ws : List Str} {n i : Nat} {w : Str} (h : Wd ws n) (hw : w.length ≤ 13) : Wd (ws.set i w) n := ⟨by rw [List.length_set]; exact h.n, fun x hx => by
  rcases List.mem_or_eq_of_mem_set hx with hx | rfl
  · exact h.w x hx
  · exact hw⟩
abbrev row1 : List Str := ["-0", "0", "00", "01", "-01", "+1", "-5", "--5", "-", "1.0", "1234567890", "-1234567890", "123456789"]
abbrev row2 : List Str := ["5", "x", "-123456789"]
theorem row_ok : Wd row1 13 ∧ Wd row2 3 := ⟨⟨by decide, by decide +kernel⟩, ⟨by decide, by decide +kernel⟩⟩
theorem p_integers {M : MM} {p g c a : Addr} {l : List (List Nat)} {B : Nat} {Q : QD} {E : QX} (h : BG M p g c (B + 10)) (ea : M a = some (.lst ((l.map S).map D.str))) (ap : a ≠ p ∧ a ≠ g) (l4 : l.length = 4) (hl : ∀ x ∈ l, NmL x)
    (k : ∀ M', BG M' p g c B → Ex2 p g M M' → Q (.bl true) M') : sp_are_integers_read_l [.ref p, .ref a] M Q E := by
  refine ⟨rfl, ?_⟩
  show w_are_integers_read_l [some (.ref p), some (.ref a), none, none, none, none] M _ _
  have sl : sizeLine = 16777216 := sizeLine_eq
  (unfold w_are_integers_read_l; obtain ⟨Tl, hTl⟩ : ∃ x, x = w_are_integers_read_l_1 := ⟨_, rfl⟩; rw [← hTl]; simp only [wSeq, wAsg, wDrop, wRet, wRetN, wNext, wIfS, wBl, Fg.wTru, wOp, wUn, wCl, wCons, wNil, wVar, wCst, wTup, wLst, gNm, wCall, List.set_cons_zero, List.set_cons_succ, List.getElem?_cons_zero, List.getElem?_cons_succ, wLst]; subst hTl)
  refine ⟨show 13 ≤ sizeLine by omega, fun s hs => ?_⟩
  change w_are_integers_read_l_1 _ (Fg.up M s (.lst (row1.map D.str))) _ _
  have x1 : Ext M (Fg.up M s (.lst (row1.map D.str))) := .new hs
  have e1 : Fg.up M s (.lst (row1.map D.str)) s = some (.lst (row1.map D.str)) := up_same
  generalize Fg.up M s (.lst (row1.map D.str)) = M1 at x1 e1 ⊢
  (unfold w_are_integers_read_l_1; obtain ⟨Tl, hTl⟩ : ∃ x, x = w_are_integers_read_l_2 := ⟨_, rfl⟩; rw [← hTl]; simp only [wSeq, wAsg, wDrop, wRet, wRetN, wNext, wIfS, wBl, Fg.wTru, wOp, wUn, wCl, wCons, wNil, wVar, wCst, wTup, wLst, gNm, wCall, List.set_cons_zero, List.set_cons_succ, List.getElem?_cons_zero, List.getElem?_cons_succ, wLst]; subst hTl)
  refine ⟨show 3 ≤ sizeLine by omega, fun t ht => ?_⟩
  have x2 : Ext M1 (Fg.up M1 t (.lst (row2.map D.str))) := .new ht
  change dAdd (.ref s) (.ref t) (Fg.up M1 t (.lst (row2.map D.str))) _
  refine addW (x2 _ _ e1) (ys := row2) up_same row_ok.1 row_ok.2 (by decide) fun u hu hU => ?_
  have x3 := x1.trans (x2.trans (Ext.new (o := .lst ((row1 ++ row2).map D.str)) hu))
  have f3 := h.ext x3
  have hup := (h.ext (x1.trans x2)).ne hu
  have e3 : Fg.up (Fg.up M1 t (.lst (row2.map D.str))) u (.lst ((row1 ++ row2).map D.str)) u = some (.lst ((row1 ++ row2).map D.str)) := up_same
  generalize Fg.up (Fg.up M1 t (.lst (row2.map D.str))) u (.lst ((row1 ++ row2).map D.str)) = M3 at x3 f3 e3 ⊢
  (unfold w_are_integers_read_l_2; obtain ⟨Tl, hTl⟩ : ∃ x, x = w_are_integers_read_l_3 := ⟨_, rfl⟩; rw [← hTl]; simp only [wSeq, wAsg, wDrop, wRet, wRetN, wNext, wIfS, wBl, Fg.wTru, wOp, wUn, wCl, wCons, wNil, wVar, wCst, wTup, wLst, gNm, wCall, List.set_cons_zero, List.set_cons_succ, List.getElem?_cons_zero, List.getElem?_cons_succ, wFor, wWk, wLst, cLen]; subst hTl)
  refine ⟨_, 16, rfl, by unfold lenD; simp only [e3, List.length_map]; rfl, ?_⟩
  refine p_draw (B := B + 9) f3 (by decide) (by decide) fun r1 M4 a1 b1 f4 y4 => ?_
  have e4 := y4.at hup.1 hup.2.1 e3
  refine ixAny e4 a1 (by rw [List.length_map]; exact b1) fun d1 hd1 => ?_
  refine ⟨_, 16, rfl, by unfold lenD; simp only [e4, List.length_map]; rfl, ?_⟩
  refine p_draw (B := B + 8) f4 (by decide) (by decide) fun r2 M5 a2 b2 f5 y5 => ?_
  have e5 := y5.at hup.1 hup.2.1 e4
  refine ixAny e5 a2 (by rw [List.length_map]; exact b2) fun d2 hd2 => ?_
  have hW : ∀ d ∈ [D.str (Str.ofString "-0"), d1, d2], ∃ w, w.length ≤ 13 ∧ d = .str w := fun d hd => by
    simp only [List.mem_cons, List.not_mem_nil, or_false] at hd
    rcases hd with rfl | rfl | rfl
    · exact ⟨_, by decide +kernel, rfl⟩
    · obtain ⟨w, hw, rfl⟩ := List.mem_map.mp hd1; exact ⟨w, hU.w w hw, rfl⟩
    · obtain ⟨w, hw, rfl⟩ := List.mem_map.mp hd2; exact ⟨w, hU.w w hw, rfl⟩
  refine ⟨show 3 ≤ sizeLine by omega, fun q hq => ?_⟩
  have hqp := f5.ne hq
  have f6 := f5.new (o := .lst [D.str (Str.ofString "-0"), d1, d2]) hq
  have y6 := ((Ex2.of x3).trans (y4.trans y5)).trans (Ex2.upd (o := .lst [D.str (Str.ofString "-0"), d1, d2]) hq (Ex2.refl (p := p) (g := g)))
  have e6 : Fg.up M5 q (.lst [D.str (Str.ofString "-0"), d1, d2]) q = some (.lst [D.str (Str.ofString "-0"), d1, d2]) := up_same
  generalize Fg.up M5 q (.lst [D.str (Str.ofString "-0"), d1, d2]) = M6 at f6 y6 e6 ⊢
  refine ⟨[D.str (Str.ofString "-0"), d1, d2], fun M' => M' q = some (.lst [D.str (Str.ofString "-0"), d1, d2]), by unfold walkD; simp only [e6], ?_⟩
  refine for_rule (I := fun i ρ M' => ∃ v3 v4 v5, ρ = [some (.ref p), some (.ref a), some (.ref u), v3, v4, v5] ∧ BG M' p g c (B + (8 - i)) ∧ Ex2 p g M M' ∧ M' q = some (.lst [D.str (Str.ofString "-0"), d1, d2])) ⟨_, _, _, rfl, f6, y6, e6⟩ (fun i x hx ρ M1 ⟨v3, v4, v5, e1, f7, y7, e7⟩ K hK => ⟨e7, ?_⟩) fun ρ M1 ⟨v3, v4, v5, e1, f7, y7, e7⟩ => ⟨e7, ?_⟩
  · obtain ⟨w, hw, rfl⟩ := hW x (List.mem_of_getElem? hx)
    have hi : i < 3 := (List.getElem?_eq_some_iff.mp hx).1
    subst e1
    have ea7 := y7.at ap.1 ap.2 ea
    simp only [wSeq, wAsg, wDrop, wRet, wRetN, wNext, wIfS, wBl, Fg.wTru, wOp, wUn, wCl, wCons, wNil, wVar, wCst, wTup, wLst, gNm, wCall, List.set_cons_zero, List.set_cons_succ, List.getElem?_cons_zero, List.getElem?_cons_succ, wBm, tyR, wSl, wSoP, wNoP, gSubD, wNotB]
    refine ⟨show 1 ≤ sizeLine by omega, fun a1 ha1 => ?_⟩
    have x1 : Ext M1 (Fg.up M1 a1 (.lst ([Str.ofString "part"].map D.str))) := .new ha1
    refine ⟨3, rfl, _, lstOf_ref (x1 _ _ ea7), fun a2 ha2 => ?_⟩
    have ec : cutL ((l.map S).map D.str) none (some 3) = ((l.map S).take 3).map D.str := by
      have := cutL_to ((l.map S).map D.str) 3
      refine this.trans ?_
      rw [List.length_map, List.length_map, l4, List.map_take]
      rfl
    rw [ec]
    have hL : Wd (l.map S) 4 := ⟨by rw [List.length_map]; omega, fun w hw => by
      obtain ⟨y, hy, rfl⟩ := List.mem_map.mp hw
      have := (hl y hy).l4
      rw [S_len]; omega⟩
    have hT : Wd ((l.map S).take 3) 3 := ⟨by rw [List.length_take]; omega, fun w hw => hL.w w (List.mem_of_mem_take hw)⟩
    have lT : ((l.map S).take 3).length = 3 := by rw [List.length_take, List.length_map, l4]; rfl
    have x2 := x1.trans (Ext.new (o := .lst (((l.map S).take 3).map D.str)) ha2)
    have hP : Wd [Str.ofString "part"] 1 := ⟨Nat.le_refl _, by decide +kernel⟩
    refine addW (xs := [Str.ofString "part"]) ((Ext.new ha2) _ _ up_same) up_same hP hT (by decide) fun a3 ha3 h3 => ?_
    have x3 := x2.trans (Ext.new (o := .lst (([Str.ofString "part"] ++ (l.map S).take 3).map D.str)) ha3)
    refine ⟨show 2 ≤ sizeLine by omega, fun a4 ha4 => ?_⟩
    have h12 : Wd [Str.ofString "1", Str.ofString "2"] 2 := ⟨Nat.le_refl _, by decide +kernel⟩
    refine addW (ys := [Str.ofString "1", Str.ofString "2"]) ((Ext.new ha4) _ _ up_same) up_same h3 h12 (by decide) fun a5 ha5 h5 => ?_
    have lP : ([Str.ofString "part"] ++ (l.map S).take 3 ++ [Str.ofString "1", Str.ofString "2"]).length = 6 := by rw [List.length_append, List.length_append, lT]; rfl
    generalize [Str.ofString "part"] ++ (l.map S).take 3 ++ [Str.ofString "1", Str.ofString "2"] = ws at h5 lP ⊢
    have x5 := x3.trans ((Ext.new (o := .lst ([Str.ofString "1", Str.ofString "2"].map D.str)) ha4).trans (Ext.new (o := .lst (ws.map D.str)) ha5))
    have f5 := f7.ext x5
    have y8 := y7.ext x5
    have x4 := x3.trans (Ext.new (o := .lst ([Str.ofString "1", Str.ofString "2"].map D.str)) ha4)
    have h5p := (f7.ext x4).ne ha5
    have n5 : M a5 = none := (y7.ext x4).none ha5 h5p.1 h5p.2.1
    have qa : q ≠ a5 := fun z => by
      have e := x4 _ _ e7
      rw [z] at e
      exact absurd (ha5.symm.trans e) (by simp)
    have e8 := x5 _ _ e7
    have f5 : BG (Fg.up (Fg.up (Fg.up (Fg.up (Fg.up M1 a1 (.lst ([Str.ofString "part"].map D.str))) a2 (.lst (((l.map S).take 3).map D.str))) a3 (.lst (([Str.ofString "part"] ++ (l.map S).take 3).map D.str))) a4 (.lst ([Str.ofString "1", Str.ofString "2"].map D.str))) a5 (.lst (ws.map D.str))) p g c (B + (8 - i)) := f5
    have y8 : Ex2 p g M (Fg.up (Fg.up (Fg.up (Fg.up (Fg.up M1 a1 (.lst ([Str.ofString "part"].map D.str))) a2 (.lst (((l.map S).take 3).map D.str))) a3 (.lst (([Str.ofString "part"] ++ (l.map S).take 3).map D.str))) a4 (.lst ([Str.ofString "1", Str.ofString "2"].map D.str))) a5 (.lst (ws.map D.str))) := y8
    have e8 : (Fg.up (Fg.up (Fg.up (Fg.up (Fg.up M1 a1 (.lst ([Str.ofString "part"].map D.str))) a2 (.lst (((l.map S).take 3).map D.str))) a3 (.lst (([Str.ofString "part"] ++ (l.map S).take 3).map D.str))) a4 (.lst ([Str.ofString "1", Str.ofString "2"].map D.str))) a5 (.lst (ws.map D.str))) q = _ := e8
    change sp_draw_l [.ref p, .int 2] (Fg.up (Fg.up (Fg.up (Fg.up (Fg.up M1 a1 (.lst ([Str.ofString "part"].map D.str))) a2 (.lst (((l.map S).take 3).map D.str))) a3 (.lst (([Str.ofString "part"] ++ (l.map S).take 3).map D.str))) a4 (.lst ([Str.ofString "1", Str.ofString "2"].map D.str))) a5 (.lst (ws.map D.str))) _ _
    have e9 : (Fg.up (Fg.up (Fg.up (Fg.up (Fg.up M1 a1 (.lst ([Str.ofString "part"].map D.str))) a2 (.lst (((l.map S).take 3).map D.str))) a3 (.lst (([Str.ofString "part"] ++ (l.map S).take 3).map D.str))) a4 (.lst ([Str.ofString "1", Str.ofString "2"].map D.str))) a5 (.lst (ws.map D.str))) a5 = some (.lst (ws.map D.str)) := up_same
    generalize (Fg.up (Fg.up (Fg.up (Fg.up (Fg.up M1 a1 (.lst ([Str.ofString "part"].map D.str))) a2 (.lst (((l.map S).take 3).map D.str))) a3 (.lst (([Str.ofString "part"] ++ (l.map S).take 3).map D.str))) a4 (.lst ([Str.ofString "1", Str.ofString "2"].map D.str))) a5 (.lst (ws.map D.str))) = M9 at f5 y8 e8 e9 ⊢
    refine p_draw (B := B + (8 - (i + 1))) (f5.less (by omega)) (by decide) (by decide) fun x M10 x0 x1' f10 y10 => ?_
    have e10 := y10.at h5p.1 h5p.2.1 e9
    have q10 := y10.at hqp.1 hqp.2.1 e8
    have y10 := y8.trans y10
    refine addI ?_
    rw [show (4 : Int) + x = ((4 + x.toNat : Nat) : Int) by omega]
    refine stL e10 (by rw [List.length_map, lP]; omega) ?_
    rw [← List.map_set]
    have hS : Wd (ws.set (4 + x.toNat) w) 6 := h5.set hw
    generalize ws.set (4 + x.toNat) w = vs at hS ⊢
    have f11 := f10.upd (o := .lst (vs.map D.str)) h5p
    have y11 := Ex2.upd (o := .lst (vs.map D.str)) n5 y10
    have q11 : Fg.up M10 a5 (.lst (vs.map D.str)) q = _ := (up_ne qa).trans q10
    have e11 : Fg.up M10 a5 (.lst (vs.map D.str)) a5 = some (.lst (vs.map D.str)) := up_same
    generalize Fg.up M10 a5 (.lst (vs.map D.str)) = M11 at f11 y11 q11 e11 ⊢
    refine ⟨trivial, joinX e11 hS (by decide) ?_⟩
    have hz := (hS.join (by decide)).1
    refine p_shS fun f o M12 hf x12 ef => ?_
    refine p_due (b := true) hz ef fun M13 x13 => ?_
    have x14 := x12.trans x13
    have tell : ∀ M14, Ext M13 M14 → True ∧ mJoin (.str blank) [.ref a5] M14 (fun x M1 => sp_told_l [x, .bl true] M1 (fun x M1 => sp_meets_l 6 [x, tdD true (Txt.join blank vs)] M1 (fun d_3 M1 => ∃ b, truD M1 d_3 = some b ∧ if (!b) = true then Q (D.bl false) M1 else K [some (D.ref p), some (D.ref a), some (D.ref u), some (D.str w), some (.ref a5), some (tdD true (Txt.join blank vs))] M1) fun x M1 => E x M1) fun x M1 => E x M1) := fun M14 x15 =>
      ⟨trivial, joinX ((x14.trans x15) _ _ e11) hS (by decide) (p_told hz fun M15 x16 => p_meets (td_ok2 hz) ⟨true, rfl, by
        have xx := (x14.trans x15).trans x16
        exact hK _ _ ⟨_, _, _, rfl, f11.ext xx, y11.ext xx, xx _ _ q11⟩⟩)⟩
    have tell := tell M13 (Ext.refl _)
    simp only [dIs]
    unfold tdD at tell
    by_cases cn : Fg.isNon (rdD (shB true) (Txt.split (Txt.join blank vs) blank)) = true
    · rw [if_pos cn] at tell
      rw [cn]
      exact tell
    · rw [if_neg cn] at tell
      rw [if_neg (by exact cn)]
      exact tell
  · subst e1
    simp only [w_are_integers_read_l_3, wSeq, wAsg, wDrop, wRet, wRetN, wNext, wIfS, wBl, Fg.wTru, wOp, wUn, wCl, wCons, wNil, wVar, wCst, wTup, wLst, gNm, wCall, List.set_cons_zero, List.set_cons_succ, List.getElem?_cons_zero, List.getElem?_cons_succ]
    exact k M1 (f7.less (by omega)) y7
end FgL
/-! Z17: the parts of the law's loop. -/
namespace FgL
open PySem PySem.Spec L2 Fg
open PyProof.Rows hiding St
def lw_kinds : WS := (wFor (wWk (wLst (wCons (wCst (.bl true)) (wCons (wCst (.bl false)) wNil)))) (gNm 11) (wSeq (wAsg (wCall sp_formed_l (wCons (wVar 10) (wCons (wOp dIx (wLst (wCons (wCall sp_claim_shapes_l wNil) (wCons (wCall sp_step_shapes_l wNil) wNil))) (wCl cInt (wCons (wVar 11) wNil))) wNil))) (gNm 12))
  (wSeq (wIfS (wBl (wOp dIs (wVar 12) (wCst .non))) (wSeq (wAsg (wCst (.str "bad")) (gNm 12))
  wNext) wNext)
  (wSeq (wIfS (wNotB (wTru (wCall (sp_meets_l 6) (wCons (wCall sp_told_l (wCons (wVar 10) (wCons (wVar 11) wNil))) (wCons (wVar 12) wNil))))) (wSeq (wRet (wCst (.bl false)))
  wNext) wNext)
  wNext))))
def lw_spoils : WS := (wFor (wRng1 (wCons (wCst (.int 3)) wNil)) (gNm 8) (wSeq (wAsg (wCall sp_spoilt_l (wCons (wVar 1) (wCons (wVar 7) wNil))) (gNm 10))
  (wSeq lw_kinds
  wNext)))
def lw_odds : WS := (wSeq (wAsg (wOp dIx (wLst (wCons (wCst .non) (wCons (wCst (.int 7)) (wCons (wVar 6) (wCons (wTup (wCons (wVar 7) wNil)) (wCons (wCst (.bl true)) (wCons (wLst (wCons (wVar 7) wNil)) wNil))))))) (wCall sp_draw_l (wCons (wVar 1) (wCons (wCst (.int 6)) wNil)))) (gNm 9))
  (wSeq (wIfS (wNotB (wTru (wCall (sp_meets_l 6) (wCons (wCall sp_told_l (wCons (wVar 9) (wCons (wOp dEq (wCall sp_draw_l (wCons (wVar 1) (wCons (wCst (.int 2)) wNil))) (wCst (.int 0))) wNil))) (wCons (wCst (.str "bad")) wNil))))) (wSeq (wRet (wCst (.bl false)))
  wNext) wNext)
  wNext))
theorem p_shapes {M : MM} {b : Bool} {K1 : QD} {E1 E2 : QX} (k : ∀ f o M', M f = none → Ext M M' → M' f = some (.dct o (shD (shB b))) → K1 (.ref f) M') : sp_claim_shapes_l [] M (fun x M1 => sp_step_shapes_l [] M1 (fun y M2 => [x, y].length ≤ sizeLine ∧ ∀ p, M2 p = none → cInt [.bl b] (Fg.up M2 p (.lst [x, y])) fun i M3 => dIx (.ref p) i M3 K1) E1) E2 := by
  refine p_shC fun fc oc M1 hc xc ec => ?_
  refine p_shS fun fs os M2 hs xs es => ?_
  refine ⟨show 2 ≤ sizeLine by rw [sizeLine_eq]; decide, fun q hq => ?_⟩
  have xq : Ext M2 (Fg.up M2 q (.lst [.ref fc, .ref fs])) := .new hq
  cases b with
  | true =>
    simp only [cInt, if_true]
    refine ixL up_same (d := .ref fs) (at_lt (by decide) rfl) ?_
    refine k fs os _ ?_ ((xc.trans xs).trans xq) (xq _ _ es)
    cases w : M fs with
    | none => rfl
    | some o => rw [xc _ _ w] at hs; cases hs
  | false =>
    simp only [cInt, Bool.false_eq_true, if_false]
    refine ixL up_same (d := .ref fc) (at_lt (by decide) rfl) ?_
    exact k fc oc _ hc ((xc.trans xs).trans xq) (xq _ _ (xs _ _ ec))
theorem p_kinds {M : MM} {z : Str} {w0 w1 w2 w3 w4 w5 w6 w7 w8 w9 w11 w12 : Option D} {N : EndsD} {E : QS} (hz : Tx z) (k : ∀ u11 u12 M', Ext M M' → N.nx [w0, w1, w2, w3, w4, w5, w6, w7, w8, w9, some (.str z), u11, u12] M') :
    lw_kinds [w0, w1, w2, w3, w4, w5, w6, w7, w8, w9, some (.str z), w11, w12] M N E := by
  simp only [lw_kinds, wFor, wWk, wLst, wSeq, wAsg, wDrop, wRet, wRetN, wNext, wIfS, wBl, Fg.wTru, wOp, wUn, wCl, wCons, wNil, wVar, wCst, wTup, wLst, gNm, wCall, List.set_cons_zero, List.set_cons_succ, List.getElem?_cons_zero, List.getElem?_cons_succ]
  refine ⟨show 2 ≤ sizeLine by rw [sizeLine_eq]; decide, fun q hq => ?_⟩
  have x0 : Ext M (Fg.up M q (.lst [.bl true, .bl false])) := .new hq
  have e0 : Fg.up M q (.lst [.bl true, .bl false]) q = some (.lst [.bl true, .bl false]) := up_same
  generalize Fg.up M q (.lst [.bl true, .bl false]) = M1 at x0 e0 ⊢
  refine ⟨[.bl true, .bl false], fun M' => M' q = some (.lst [.bl true, .bl false]), by unfold walkD; simp only [e0], ?_⟩
  refine for_rule (I := fun i ρ M' => ∃ u11 u12, ρ = [w0, w1, w2, w3, w4, w5, w6, w7, w8, w9, some (.str z), u11, u12] ∧ Ext M1 M') ⟨_, _, rfl, Ext.refl _⟩ (fun i d hx ρ M2 ⟨u11, u12, e, x2⟩ K hK => ⟨x2 _ _ e0, ?_⟩) fun ρ M2 ⟨u11, u12, e, x2⟩ => ⟨x2 _ _ e0, ?_⟩
  · subst e
    have hb : ∃ b, d = .bl b := by
      have := List.mem_of_getElem? hx
      simp only [List.mem_cons, List.not_mem_nil, or_false] at this
      rcases this with rfl | rfl <;> exact ⟨_, rfl⟩
    obtain ⟨b, rfl⟩ := hb
    simp only [wSeq, wAsg, wDrop, wRet, wRetN, wNext, wIfS, wBl, Fg.wTru, wOp, wUn, wCl, wCons, wNil, wVar, wCst, wTup, wLst, gNm, wCall, List.set_cons_zero, List.set_cons_succ, List.getElem?_cons_zero, List.getElem?_cons_succ, wNotB]
    refine p_shapes fun f o M3 hf x3 ef => ?_
    refine p_due (b := b) hz ef fun M4 x4 => ?_
    have tell : sp_told_l [.str z, .bl b] M4 (fun x M1 => sp_meets_l 6 [x, tdD b z] M1 (fun d_3 M1 => ∃ b', truD M1 d_3 = some b' ∧ if (!b') = true then N.rt (D.bl false) M1 else K [w0, w1, w2, w3, w4, w5, w6, w7, w8, w9, some (.str z), some (.bl b), some (tdD b z)] M1) (fun x M1 => E x [w0, w1, w2, w3, w4, w5, w6, w7, w8, w9, some (.str z), some (.bl b), some (tdD b z)] M1)) (fun x M1 => E x [w0, w1, w2, w3, w4, w5, w6, w7, w8, w9, some (.str z), some (.bl b), some (tdD b z)] M1) :=
      p_told hz fun M5 x5 => p_meets (td_ok2 hz) ⟨true, rfl, hK _ _ ⟨_, _, rfl, (x2.trans x3).trans (x4.trans x5)⟩⟩
    simp only [dIs]
    unfold tdD at tell
    by_cases cn : Fg.isNon (rdD (shB b) (Txt.split z blank)) = true
    · rw [if_pos cn] at tell
      rw [cn]
      exact tell
    · rw [if_neg cn] at tell
      rw [if_neg (by exact cn)]
      exact tell
  · subst e
    exact k _ _ _ (x0.trans x2)
theorem p_spoils {M : MM} {p g c : Addr} {z : Str} {B : Nat} {w0 w2 w3 w4 w5 w6 w8 w9 w10 w11 w12 : Option D} {N : EndsD} {E : QS} (h : BG M p g c (B + 20)) (hz : z.length ≤ 3000) (hw : Wd (Txt.split z blank) 300)
    (k : ∀ u8 u10 u11 u12 M', BG M' p g c B → Ex2 p g M M' → N.nx [w0, some (.ref p), w2, w3, w4, w5, w6, some (.str z), u8, w9, u10, u11, u12] M') :
    lw_spoils [w0, some (.ref p), w2, w3, w4, w5, w6, some (.str z), w8, w9, w10, w11, w12] M N E := by
  simp only [lw_spoils, wFor, wRng1, wSeq, wAsg, wDrop, wRet, wRetN, wNext, wIfS, wBl, Fg.wTru, wOp, wUn, wCl, wCons, wNil, wVar, wCst, wTup, wLst, gNm, wCall, List.set_cons_zero, List.set_cons_succ, List.getElem?_cons_zero, List.getElem?_cons_succ]
  refine ⟨_, rfl, by decide, by decide, ?_⟩
  rw [show (3 : Int).toNat = 3 from rfl]
  refine for_rule (I := fun i ρ M' => ∃ u8 u10 u11 u12, ρ = [w0, some (.ref p), w2, w3, w4, w5, w6, some (.str z), u8, w9, u10, u11, u12] ∧ BG M' p g c (B + (20 - 5 * i)) ∧ Ex2 p g M M') ⟨_, _, _, _, rfl, h, Ex2.refl⟩ (fun i d hx ρ M2 ⟨u8, u10, u11, u12, e, f2, y2⟩ K hK => ⟨trivial, ?_⟩) fun ρ M2 ⟨u8, u10, u11, u12, e, f2, y2⟩ => ⟨trivial, ?_⟩
  · subst e
    obtain ⟨hi, rfl⟩ := upTo_at hx
    simp only [wSeq, wAsg, wDrop, wRet, wRetN, wNext, wIfS, wBl, Fg.wTru, wOp, wUn, wCl, wCons, wNil, wVar, wCst, wTup, wLst, gNm, wCall, List.set_cons_zero, List.set_cons_succ, List.getElem?_cons_zero, List.getElem?_cons_succ]
    refine p_spoilt (B := B + (20 - 5 * (i + 1))) (f2.less (by omega)) hz hw fun z' M3 hz' f3 y3 => ?_
    refine p_kinds hz' fun v11 v12 M4 x4 => ?_
    exact hK _ _ ⟨_, _, _, _, rfl, f3.ext x4, y2.trans (y3.ext x4)⟩
  · subst e
    exact k _ _ _ _ _ (f2.less (by omega)) y2
theorem p_odds {M : MM} {p g c : Addr} {z : Str} {ds : List D} {B : Nat} {w0 w2 w3 w4 w5 w8 w9 w10 w11 w12 : Option D} {N : EndsD} {E : QS} (h : BG M p g c (B + 2))
    (k : ∀ u9 M', BG M' p g c B → Ex2 p g M M' → N.nx [w0, some (.ref p), w2, w3, w4, w5, some (.tup ds), some (.str z), w8, u9, w10, w11, w12] M') :
    lw_odds [w0, some (.ref p), w2, w3, w4, w5, some (.tup ds), some (.str z), w8, w9, w10, w11, w12] M N E := by
  have sl : sizeLine = 16777216 := sizeLine_eq
  simp only [lw_odds, wLst, wTup, wNotB, wSeq, wAsg, wDrop, wRet, wRetN, wNext, wIfS, wBl, Fg.wTru, wOp, wUn, wCl, wCons, wNil, wVar, wCst, wTup, wLst, gNm, wCall, List.set_cons_zero, List.set_cons_succ, List.getElem?_cons_zero, List.getElem?_cons_succ]
  refine ⟨show 1 ≤ sizeLine by omega, show 1 ≤ sizeLine by omega, fun q hq => ?_⟩
  have hqp := h.ne hq
  have f1 := h.new (o := .lst [.str z]) hq
  have y1 := Ex2.upd (o := .lst [.str z]) hq (Ex2.refl (p := p) (g := g))
  have e1 : Fg.up M q (.lst [.str z]) q = some (.lst [.str z]) := up_same
  generalize Fg.up M q (.lst [.str z]) = M1 at f1 y1 e1 ⊢
  refine ⟨show 6 ≤ sizeLine by omega, fun s hs => ?_⟩
  have hsp := f1.ne hs
  have e2 : Fg.up M1 s (.lst [.non, .int 7, .tup ds, .tup [.str z], .bl true, .ref q]) q = some (.lst [.str z]) := (Ext.new hs) _ _ e1
  have y2 := y1.trans (Ex2.upd (o := .lst [.non, .int 7, .tup ds, .tup [.str z], .bl true, .ref q]) hs (Ex2.refl (p := p) (g := g)))
  refine p_draw (B := B + 1) (f1.new hs) (by decide) (by decide) fun x M3 x0 x1 f3 y3 => ?_
  have e3 := y3.at hqp.1 hqp.2.1 e2
  refine ixAny (y3.at hsp.1 hsp.2.1 up_same) x0 x1 fun d hd => ?_
  refine p_draw (B := B) f3 (by decide) (by decide) fun r M4 r0 r1 f4 y4 => ?_
  have e4 := y4.at hqp.1 hqp.2.1 e3
  have hn4 : NoT M4 d := by
    simp only [List.mem_cons, List.not_mem_nil, or_false] at hd
    rcases hd with rfl | rfl | rfl | rfl | rfl | rfl
    · exact .non
    · exact .int _
    · exact .tup _
    · exact .tup _
    · exact .bl _
    · exact .lst e4
  simp only [dEq]
  refine no_told hn4 fun M5 x5 => ?_
  refine p_meets (d := bad) rfl ⟨true, rfl, ?_⟩
  simp only [Bool.not_true, Bool.false_eq_true, if_false]
  exact k _ M5 (f4.ext x5) ((y2.trans (y3.trans y4)).ext x5)
end FgL
/-! Z18: the law. -/
namespace FgL
open PySem PySem.Spec L2 Fg
open PyProof.Rows hiding St
open TL (join_eq)
def lw_b_5 : WS := wSeq lw_spoils lw_odds
def lw_b_4 : WS := (wSeq (wIfS (wOrB (wNotB (wTru (wCall (sp_meets_l 6) (wCons (wCall sp_told_l (wCons (wVar 7) (wCons (wVar 4) wNil))) (wCons (wVar 6) wNil))))) (wNotB (wTru (wCall (sp_meets_l 6) (wCons (wCall sp_told_l (wCons (wVar 7) (wCons (wNotV (wVar 4)) wNil))) (wCons (wCst (.str "bad")) wNil)))))) (wSeq (wRet (wCst (.bl false)))
  wNext) wNext)
  lw_b_5)
def lw_b_3 : WS := (wSeq (wIfS (wBl (wOp dEq (wCall sp_draw_l (wCons (wVar 1) (wCons (wCst (.int 2)) wNil))) (wCst (.int 0)))) (wSeq (wAsg (wCall sp_thing_l (wCons (wVar 1) (wCons (wVar 2) (wCons (wVar 5) (wCons (wCst (.bl false)) wNil))))) (gNm 6))
  (wSeq (wAsg (wCall sp_line_l (wCons (wVar 6) wNil)) (gNm 7))
  wNext)) wNext)
  lw_b_4)
def lw_b_2 : WS := (wSeq (wIfS (wAndB (wNotB (wTru (wVar 4))) (wNotB (wTru (wCall (sp_meets_l 6) (wCons (wCallK sp_claim_text 0 1 [0] wNil (wCons (wVar 6) wNil)) (wCons (wVar 7) wNil)))))) (wSeq (wRet (wCst (.bl false)))
  wNext) wNext)
  lw_b_3)
def lw_b_1 : WS := (wSeq (wIfS (wAndB (wTru (wVar 4)) (wNotB (wTru (wCall (sp_meets_l 6) (wCons (wCallK sp_step_text 0 1 [0] wNil (wCons (wVar 6) wNil)) (wCons (wVar 7) wNil)))))) (wSeq (wRet (wCst (.bl false)))
  wNext) wNext)
  lw_b_2)
def lw_b : WS := (wSeq (wAsg (wOp dEq (wCall sp_draw_l (wCons (wVar 1) (wCons (wCst (.int 2)) wNil))) (wCst (.int 0))) (gNm 4))
  (wSeq (wAsg (wOp dIx (wLst (wCons (wCall sp_claim_shapes_l wNil) (wCons (wCall sp_step_shapes_l wNil) wNil))) (wCl cInt (wCons (wVar 4) wNil))) (gNm 5))
  (wSeq (wAsg (wCall sp_thing_l (wCons (wVar 1) (wCons (wVar 2) (wCons (wVar 5) (wCons (wCst (.bl true)) wNil))))) (gNm 6))
  (wSeq (wAsg (wCall sp_line_l (wCons (wVar 6) wNil)) (gNm 7))
  lw_b_1))))
theorem w3_eq : w_law_3 = wSeq (wFor (wRng1 (wCons (wCst (.int 6)) wNil)) (gNm 3) lw_b) w_law_4 := rfl
section
variable {b : Bool} {r : Str × Nat × Nat} {nl : List (List Nat)} {is : List Int} (h : Th b r nl is)
include h
theorem Th.short : (thT r.1 nl is).length ≤ 3000 ∧ Wd (Txt.split (thT r.1 nl is) blank) 300 := by
  have h1 := join_len blank 13 (thW r.1 nl is) fun w hw => (h.words w hw).2
  have h2 := h.len
  have e : blank.length = 1 := by decide +kernel
  refine ⟨?_, ?_⟩
  · unfold thT
    rw [join_eq]
    rw [e] at h1
    omega
  · rw [h.split]
    exact ⟨by omega, fun w hw => (h.words w hw).2⟩
theorem Th.line {M : MM} {w : WS} {Q : QD} {E : QX} (hw : w = w_line_l) (k : ∀ M', Ext M M' → Q (.str (thT r.1 nl is)) M') : w [some (.tup (thD r.1 nl is)), none] M { nx := fun _ M' => Q .non M', rt := Q } (fun x _ M' => E x M') := by
  have e := th_tw r.1 nl is
  have el := congrArg List.length e
  rw [List.length_map] at el
  have h2 := h.len
  refine p_line_ hw (by omega) (fun d hd => ?_) (fun d hd => ?_) fun M' x => ?_
  · rcases List.mem_cons.mp hd with rfl | hd
    · exact .inl ⟨_, rfl⟩
    · rcases List.mem_append.mp hd with hd | hd
      · obtain ⟨l, hl, rfl⟩ := List.mem_map.mp hd
        exact .inl ⟨_, rfl⟩
      · obtain ⟨i, hi, rfl⟩ := List.mem_map.mp hd
        exact .inr ⟨i, rfl, h.ib i hi⟩
  · have := (h.words (tw d) (by rw [← e]; exact List.mem_map_of_mem hd)).2
    omega
  · rw [e]
    exact k M' x
theorem Th.lineL {M : MM} {Q : QD} {E : QX} (k : ∀ M', Ext M M' → Q (.str (thT r.1 nl is)) M') : sp_line_l [.tup (thD r.1 nl is)] M Q E := ⟨rfl, h.line rfl k⟩
theorem Th.joined {M : MM} {Q : QD} {E : QX} (k : ∀ M', Ext M M' → Q (.str (thT r.1 nl is)) M') : sp_joined [.tup (thD r.1 nl is)] M Q E := ⟨rfl, h.line (w := w_joined) rfl k⟩
theorem Th.stepT {M : MM} {Q : QD} {E : QX} (k : ∀ M', Ext M M' → Q (.str (thT r.1 nl is)) M') : sp_step_text [.tup (thD r.1 nl is)] M Q E := by
  refine ⟨rfl, ?_⟩
  show w_step_text [some (.tup (thD r.1 nl is))] M _ _
  simp only [w_step_text, wSeq, wAsg, wDrop, wRet, wRetN, wNext, wIfS, wBl, Fg.wTru, wOp, wUn, wCl, wCons, wNil, wVar, wCst, wTup, wLst, gNm, wCall, List.set_cons_zero, List.set_cons_succ, List.getElem?_cons_zero, List.getElem?_cons_succ]
  exact h.joined k
theorem Th.claimT {M : MM} {Q : QD} {E : QX} (k : ∀ M', Ext M M' → Q (.str (thT r.1 nl is)) M') : sp_claim_text [.tup (thD r.1 nl is)] M Q E := by
  refine ⟨rfl, ?_⟩
  show w_claim_text [some (.tup (thD r.1 nl is))] M _ _
  simp only [w_claim_text, wSeq, wAsg, wDrop, wRet, wRetN, wNext, wIfS, wBl, Fg.wTru, wOp, wUn, wCl, wCons, wNil, wVar, wCst, wTup, wLst, gNm, wCall, List.set_cons_zero, List.set_cons_succ, List.getElem?_cons_zero, List.getElem?_cons_succ]
  exact h.joined k
end
theorem p_rest {M : MM} {p g c : Addr} {b : Bool} {r : Str × Nat × Nat} {nl : List (List Nat)} {is : List Int} {B : Nat} {w0 w2 w3 w5 w8 w9 w10 w11 w12 : Option D} {N : EndsD} {E : QS} (h : BG M p g c (B + 30)) (hT : Th b r nl is)
    (k : ∀ u8 u9 u10 u11 u12 M', BG M' p g c B → Ex2 p g M M' → N.nx [w0, some (.ref p), w2, w3, some (.bl b), w5, some (.tup (thD r.1 nl is)), some (.str (thT r.1 nl is)), u8, u9, u10, u11, u12] M') :
    lw_b_4 [w0, some (.ref p), w2, w3, some (.bl b), w5, some (.tup (thD r.1 nl is)), some (.str (thT r.1 nl is)), w8, w9, w10, w11, w12] M N E := by
  (unfold lw_b_4; obtain ⟨Tl, hTl⟩ : ∃ x, x = lw_b_5 := ⟨_, rfl⟩; rw [← hTl]; simp only [wSeq, wAsg, wDrop, wRet, wRetN, wNext, wIfS, wBl, Fg.wTru, wOp, wUn, wCl, wCons, wNil, wVar, wCst, wTup, wLst, gNm, wCall, List.set_cons_zero, List.set_cons_succ, List.getElem?_cons_zero, List.getElem?_cons_succ, wOrB, wNotB, wNotV]; subst hTl)
  have hx := hT.tx
  obtain ⟨t1, t2⟩ := hT.td
  refine p_told hx fun M1 x1 => ?_
  rw [t1]
  refine p_meets hT.ok2 ⟨true, rfl, ?_⟩
  simp only [Bool.not_true, Bool.false_eq_true, if_false]
  refine ⟨b, rfl, ?_⟩
  refine p_told hx fun M2 x2 => ?_
  rw [t2]
  refine p_meets (d := bad) rfl ⟨true, rfl, ?_⟩
  simp only [Bool.not_true, Bool.false_eq_true, if_false]
  have x := x1.trans x2
  obtain ⟨s1, s2⟩ := hT.short
  generalize thT r.1 nl is = z at s1 s2 k ⊢
  unfold lw_b_5 wSeq
  refine p_spoils (B := B + 10) ((h.ext x).less (by omega)) s1 s2 fun u8 u10 u11 u12 M3 f3 y3 => ?_
  refine p_odds (B := B) (f3.less (by omega)) fun u9 M4 f4 y4 => ?_
  exact k _ _ _ _ _ M4 f4 ((Ex2.of x).trans (y3.trans y4))
theorem p_turn {M : MM} {p g c a : Addr} {l : List (List Nat)} {B : Nat} {w0 w3 w4 w5 w6 w7 w8 w9 w10 w11 w12 : Option D} {N : EndsD} {E : QS} (h : BG M p g c (B + 200)) (ea : M a = some (.lst ((l.map S).map D.str))) (ap : a ≠ p ∧ a ≠ g) (l4 : l.length = 4) (hl : ∀ x ∈ l, NmL x)
    (k : ∀ u4 u5 u6 u7 u8 u9 u10 u11 u12 M', BG M' p g c B → Ex2 p g M M' → N.nx [w0, some (.ref p), some (.ref a), w3, u4, u5, u6, u7, u8, u9, u10, u11, u12] M') :
    lw_b [w0, some (.ref p), some (.ref a), w3, w4, w5, w6, w7, w8, w9, w10, w11, w12] M N E := by
  (unfold lw_b; obtain ⟨Tl, hTl⟩ : ∃ x, x = lw_b_1 := ⟨_, rfl⟩; rw [← hTl]; simp only [wSeq, wAsg, wDrop, wRet, wRetN, wNext, wIfS, wBl, Fg.wTru, wOp, wUn, wCl, wCons, wNil, wVar, wCst, wTup, wLst, gNm, wCall, List.set_cons_zero, List.set_cons_succ, List.getElem?_cons_zero, List.getElem?_cons_succ, wLst]; subst hTl)
  refine p_draw (B := B + 199) h (by decide) (by decide) fun r0 M1 r1 r2 f1 y1 => ?_
  simp only [dEq]
  generalize decide (r0 = 0) = b
  refine p_shapes fun f o M2 hf x2 ef => ?_
  have fp := f1.ne hf
  have f2 := f1.ext x2
  have y2 := y1.ext x2
  refine p_thing (B := B + 150) (f2.less (by omega)) (y2.at ap.1 ap.2 ea) ap l4 hl ef ⟨fp.1, fp.2.1⟩ fun r nl is M3 hT f3 y3 => ?_
  have ef3 := y3.at fp.1 fp.2.1 ef
  have y3 := y2.trans y3
  refine hT.lineL fun M4 x4 => ?_
  have f4 := f3.ext x4
  have y4 := y3.ext x4
  have ef4 := x4 _ _ ef3
  have two : ∀ M5, Ext M4 M5 → lw_b_3 [w0, some (.ref p), some (.ref a), w3, some (.bl b), some (.ref f), some (.tup (thD r.1 nl is)), some (.str (thT r.1 nl is)), w8, w9, w10, w11, w12] M5 N E := fun M5 x5 => by
    have f5 := f4.ext x5
    have y5 := y4.ext x5
    have ef5 := x5 _ _ ef4
    (unfold lw_b_3; obtain ⟨Tl, hTl⟩ : ∃ x, x = lw_b_4 := ⟨_, rfl⟩; rw [← hTl]; simp only [wSeq, wAsg, wDrop, wRet, wRetN, wNext, wIfS, wBl, Fg.wTru, wOp, wUn, wCl, wCons, wNil, wVar, wCst, wTup, wLst, gNm, wCall, List.set_cons_zero, List.set_cons_succ, List.getElem?_cons_zero, List.getElem?_cons_succ]; subst hTl)
    refine p_draw (B := B + 149) f5 (by decide) (by decide) fun q0 M6 q1 q2 f6 y6 => ?_
    simp only [dEq]
    have ef6 := y6.at fp.1 fp.2.1 ef5
    have y6 := y5.trans y6
    by_cases c : q0 = 0
    · simp only [c, decide_true, if_true]
      refine p_thing (B := B + 100) (f6.less (by omega)) (y6.at ap.1 ap.2 ea) ap l4 hl ef6 ⟨fp.1, fp.2.1⟩ fun r' nl' is' M7 hT' f7 y7 => ?_
      refine hT'.lineL fun M8 x8 => ?_
      refine p_rest (B := B) ((f7.ext x8).less (by omega)) hT' fun u8 u9 u10 u11 u12 M9 f9 y9 => ?_
      exact k _ _ _ _ _ _ _ _ _ M9 f9 ((y6.trans (y7.ext x8)).trans y9)
    · simp only [c, decide_false, Bool.false_eq_true, if_false]
      refine p_rest (B := B) (f6.less (by omega)) hT fun u8 u9 u10 u11 u12 M9 f9 y9 => ?_
      exact k _ _ _ _ _ _ _ _ _ M9 f9 (y6.trans y9)
  cases b with
  | true =>
    (unfold lw_b_1; obtain ⟨Tl, hTl⟩ : ∃ x, x = lw_b_2 := ⟨_, rfl⟩; rw [← hTl]; simp only [wSeq, wAsg, wDrop, wRet, wRetN, wNext, wIfS, wBl, Fg.wTru, wOp, wUn, wCl, wCons, wNil, wVar, wCst, wTup, wLst, gNm, wCall, List.set_cons_zero, List.set_cons_succ, List.getElem?_cons_zero, List.getElem?_cons_succ, wAndB, wNotB, wCallK]; subst hTl)
    refine ⟨true, rfl, ?_⟩
    simp only [if_true]
    refine ⟨rfl, rfl, hT.stepT fun M5 x5 => ?_⟩
    refine p_meets (d := .str _) rfl ⟨true, rfl, ?_⟩
    simp only [Bool.not_true, Bool.false_eq_true, if_false]
    (unfold lw_b_2; obtain ⟨Tl, hTl⟩ : ∃ x, x = lw_b_3 := ⟨_, rfl⟩; rw [← hTl]; simp only [wSeq, wAsg, wDrop, wRet, wRetN, wNext, wIfS, wBl, Fg.wTru, wOp, wUn, wCl, wCons, wNil, wVar, wCst, wTup, wLst, gNm, wCall, List.set_cons_zero, List.set_cons_succ, List.getElem?_cons_zero, List.getElem?_cons_succ, wAndB, wNotB, wCallK]; subst hTl)
    refine ⟨true, rfl, ?_⟩
    simp only [Bool.not_true, Bool.false_eq_true, if_false]
    exact two M5 x5
  | false =>
    (unfold lw_b_1; obtain ⟨Tl, hTl⟩ : ∃ x, x = lw_b_2 := ⟨_, rfl⟩; rw [← hTl]; simp only [wSeq, wAsg, wDrop, wRet, wRetN, wNext, wIfS, wBl, Fg.wTru, wOp, wUn, wCl, wCons, wNil, wVar, wCst, wTup, wLst, gNm, wCall, List.set_cons_zero, List.set_cons_succ, List.getElem?_cons_zero, List.getElem?_cons_succ, wAndB, wNotB, wCallK]; subst hTl)
    refine ⟨false, rfl, ?_⟩
    simp only [Bool.false_eq_true, if_false]
    (unfold lw_b_2; obtain ⟨Tl, hTl⟩ : ∃ x, x = lw_b_3 := ⟨_, rfl⟩; rw [← hTl]; simp only [wSeq, wAsg, wDrop, wRet, wRetN, wNext, wIfS, wBl, Fg.wTru, wOp, wUn, wCl, wCons, wNil, wVar, wCst, wTup, wLst, gNm, wCall, List.set_cons_zero, List.set_cons_succ, List.getElem?_cons_zero, List.getElem?_cons_succ, wAndB, wNotB, wCallK]; subst hTl)
    refine ⟨false, rfl, ?_⟩
    simp only [Bool.not_false, if_true]
    refine ⟨rfl, rfl, hT.claimT fun M5 x5 => ?_⟩
    refine p_meets (d := .str _) rfl ⟨true, rfl, ?_⟩
    simp only [Bool.not_true, Bool.false_eq_true, if_false]
    exact two M5 x5
theorem p_law {M : MM} {ns : List Int} {Q : QD} {E : QX} (hl : ns.length ≤ 63) (k : ∀ M', Q (.bl true) M') : sp_law [script ns] M Q E := by
  refine ⟨rfl, ?_⟩
  show w_law [some (script ns), none, none, none, none, none, none, none, none, none, none, none, none] M _ _
  have sl : sizeLine = 16777216 := sizeLine_eq
  (unfold w_law; obtain ⟨Tl, hTl⟩ : ∃ x, x = w_law_1 := ⟨_, rfl⟩; rw [← hTl]; simp only [wSeq, wAsg, wDrop, wRet, wRetN, wNext, wIfS, wBl, Fg.wTru, wOp, wUn, wCl, wCons, wNil, wVar, wCst, wTup, wLst, gNm, wCall, List.set_cons_zero, List.set_cons_succ, List.getElem?_cons_zero, List.getElem?_cons_succ]; subst hTl)
  refine p_bag hl fun p g c M1 hp hg f1 x1 => ?_
  have f1 := f1.less (B' := 10100) (by decide)
  (unfold w_law_1; obtain ⟨Tl, hTl⟩ : ∃ x, x = w_law_2 := ⟨_, rfl⟩; rw [← hTl]; simp only [wSeq, wAsg, wDrop, wRet, wRetN, wNext, wIfS, wBl, Fg.wTru, wOp, wUn, wCl, wCons, wNil, wVar, wCst, wTup, wLst, gNm, wCall, List.set_cons_zero, List.set_cons_succ, List.getElem?_cons_zero, List.getElem?_cons_succ]; subst hTl)
  refine p_names (B := 10000) f1 fun a l M2 ha a1 a2 a3 ea l4 hN f2 y2 => ?_
  (unfold w_law_2; obtain ⟨Tl, hTl⟩ : ∃ x, x = w_law_3 := ⟨_, rfl⟩; rw [← hTl]; simp only [wSeq, wAsg, wDrop, wRet, wRetN, wNext, wIfS, wBl, Fg.wTru, wOp, wUn, wCl, wCons, wNil, wVar, wCst, wTup, wLst, gNm, wCall, List.set_cons_zero, List.set_cons_succ, List.getElem?_cons_zero, List.getElem?_cons_succ, wNotB]; subst hTl)
  refine p_integers (B := 9000) (f2.less (by decide)) ea ⟨a1, a2⟩ l4 hN fun M3 f3 y3 => ?_
  refine ⟨true, rfl, ?_⟩
  simp only [Bool.not_true, Bool.false_eq_true, if_false]
  have ea3 := y3.at a1 a2 ea
  rw [w3_eq]
  unfold wSeq wFor wRng1
  simp only [wSeq, wAsg, wDrop, wRet, wRetN, wNext, wIfS, wBl, Fg.wTru, wOp, wUn, wCl, wCons, wNil, wVar, wCst, wTup, wLst, gNm, wCall, List.set_cons_zero, List.set_cons_succ, List.getElem?_cons_zero, List.getElem?_cons_succ]
  refine ⟨_, rfl, by decide, by decide, ?_⟩
  rw [show (6 : Int).toNat = 6 from rfl]
  refine for_rule (I := fun i ρ M' => ∃ v3 v4 v5 v6 v7 v8 v9 v10 v11 v12, ρ = [some (script ns), some (.ref p), some (.ref a), v3, v4, v5, v6, v7, v8, v9, v10, v11, v12] ∧ BG M' p g c (9000 - 500 * i) ∧ M' a = some (.lst ((l.map S).map D.str)))
    ⟨_, _, _, _, _, _, _, _, _, _, rfl, f3, ea3⟩ (fun i d hx ρ M4 ⟨v3, v4, v5, v6, v7, v8, v9, v10, v11, v12, e, f4, e4⟩ K hK => ⟨trivial, ?_⟩) fun ρ M4 ⟨v3, v4, v5, v6, v7, v8, v9, v10, v11, v12, e, f4, e4⟩ => ⟨trivial, ?_⟩
  · subst e
    obtain ⟨hi, rfl⟩ := upTo_at hx
    simp only [gNm, List.set_cons_zero, List.set_cons_succ]
    refine p_turn (B := 9000 - 500 * (i + 1)) (f4.less (by omega)) e4 ⟨a1, a2⟩ l4 hN fun u4 u5 u6 u7 u8 u9 u10 u11 u12 M5 f5 y5 => ?_
    exact hK _ _ ⟨_, _, _, _, _, _, _, _, _, _, rfl, f5, y5.at a1 a2 e4⟩
  · subst e
    simp only [w_law_4, wSeq, wAsg, wDrop, wRet, wRetN, wNext, wIfS, wBl, Fg.wTru, wOp, wUn, wCl, wCons, wNil, wVar, wCst, wTup, wLst, gNm, wCall, List.set_cons_zero, List.set_cons_succ, List.getElem?_cons_zero, List.getElem?_cons_succ]
    exact k M4
end FgL
namespace FgL
open PySem PySem.Spec L2 Fg
open PyProof.Rows hiding St
theorem law_ok (ns : List Int) (hn : ns.length ≤ 63) : spW ["_law_script", "_law_bag_here", "_law_names_here", "_law_turn", "_law_is_step", "_law_shapes", "_law_thing_here", "_law_text", "_law_way", "_law_odd", "_law_other", "_law_kind", "_law_due"] 1 w_law [script ns] (fun _ => none) (fun d _ => d = .bl true) noX := p_law hn fun _ => rfl
def loose0 : List Str := ["FigureError", "BadValue", "BadClaim", "LETTERS", "FIGURES", "MOST_LETTERS", "MOST_FIGURES", "NAME", "INTEGER", "STEPS", "CLAIMS", "joined", "step_text", "claim_text", "is_name_word", "is_number_word", "is_integer_word", "member_of", "members_of", "read_step", "read_claim", "_law_bag", "_law_draw", "_law_meets", "_law_names", "_law_step_shapes", "_law_claim_shapes", "_law_is_name", "_law_integer", "_law_formed"]
def loose1 : List Str := ["_law_line", "_law_number", "_law_thing", "_law_told", "_law_spoilt", "_law_are_integers_read"]
def loose : List Str := loose0 ++ loose1
abbrev R : PySem.W.OpenRow := PySem.W.OpenLaw.row PySem.Challenge.rw_figurehold_k41_texts_of_steps_and_claims
def ob (s : PySem.W.SharedT) : AlF := hd.obs (HandSHeadRun.getT s)
def fixW (w : World) (b : Bool) : World := { w with params := { w.params with followText := fun r => if r == "special-get-raises" then b else w.params.followText r } }
theorem fixW_eq {w : World} {b : Bool} (h : w.params.followText "special-get-raises" = b) : fixW w b = w := by
  obtain ⟨dr, pr⟩ := w
  have e : (fun r => if r == "special-get-raises" then b else pr.followText r) = pr.followText := funext fun r => by
    by_cases c : r = "special-get-raises"
    · rw [c, ← h]; rfl
    · have : (r == "special-get-raises") = false := by simpa using c
      rw [this]; rfl
  unfold fixW
  simp only [e]
theorem run1 (w : World) : HandSHeadRun.RunEq R (PySem.W.view R.prog [39]) hd.hook ob 20000 loose (fixW w true) := by
  intro os
  kernel_rfl
theorem run2 (w : World) : HandSHeadRun.RunEq R (PySem.W.view R.prog [39]) hd.hook ob 20000 loose (fixW w false) := by
  intro os
  kernel_rfl
theorem run (w : World) : HandSHeadRun.RunEq R (PySem.W.view R.prog [39]) hd.hook ob 20000 loose w := by
  cases h : w.params.followText "special-get-raises" with
  | true => exact (fixW_eq h) ▸ run1 w
  | false => exact (fixW_eq h) ▸ run2 w
end FgL
open PySem PySem.W PySem.Calls PyProof.Rows in
theorem PySem.Challenge.cw_figurehold_k41_texts_of_steps_and_claims_holds : PySem.Challenge.rw_figurehold_k41_texts_of_steps_and_claims.Holds := by
  w_on; o_law
  refine HandSHeadRun.head_any (r := FgL.R) (q := view FgL.R.prog [39]) (H := FgL.hd.hook) (ob := FgL.ob) (M := 20000) (loose := FgL.loose) (d := HandSHeadRun.topDef FgL.R.prog 39) (kwd := []) FgL.hd.obs_eq
    (by kernel_rfl) (fun s => by kernel_rfl) FgL.run (by kernel_rfl) (by kernel_rfl) (by kernel_rfl) (by rfl) (by first | assumption | decide +kernel) (by decide +kernel) ⟨rfl, rfl, rfl, rfl, rfl, by decide +kernel⟩ ?hw ?hc
  case hw => w_witness2
  case hc =>
    exact Fg.walk_law (l := PySem.Challenge.rw_figurehold_k41_texts_of_steps_and_claims) (hd := FgL.hd) (k := 8) (i := 25) (j := 50) (x := "_law_script") (N := ["_law_script", "_law_bag_here", "_law_names_here", "_law_turn", "_law_is_step", "_law_shapes", "_law_thing_here", "_law_text", "_law_way", "_law_odd", "_law_other", "_law_kind", "_law_due"]) (wl := FgL.w_law) (d := FgL.d_law) rfl rfl ⟨rfl, by decide, by decide⟩ (by kernel_rfl) rfl rfl ⟨rfl, rfl⟩ rfl ⟨rfl, rfl, rfl, by decide +kernel, rfl, by decide +kernel, by decide +kernel⟩
      (fun _ _ _ _ _ _ us hl => match us, hl with | [_], _ => rfl) rfl (by decide +kernel) (fun U F => FgL.k_law F) FgL.law_ok
