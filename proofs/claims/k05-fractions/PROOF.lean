import PyProof.Rows.All
import Wide.All
import OpenK.AllK
import Wide.FinOn
import HandS.ForMost
import HandS.ForExc
import HandS.CallSlots
import HandS.TryMany
import HandS.ExcSuper
import HandS.Hot
import HandS.HeadHook2
import HandS.HeadEnd
import HandS.TupAny
import HandS.Flow
import HandS.WideMore
import KE.KDictKeyed
import KE.LtData
import KE.DataEq
import KE.DataCmp
import HandS.IsInst
import HandS.Text
import HandS.RaiseMore
import HandS.More
import HandS.TupLen
import HandS.Comp
import HandS.Defaults
import HandS.Iter
import HandS.TryOnly
import HandS.ExcCtx
import HandS.HotCalls
import HandS.ExcInit
import KE.KExcSuper
import HandS.ExcField
import HandS.ExcIs
import HandS.Head2
import HandS.Conv
import KE.SortData
import KE.SortKeyed
import KE.KDictPairs
import HandS.DictComp
import PyProof.Rows.TupDisplay
import KE.SortCalls
import KE.LtSeq
import HandS.SortKw
import KE.DataMinMax
import KE.BitLaws
import PySem.Challenge.RW_figurehold_k05_numbers_by_fractions
set_option Elab.async false
set_option linter.all false
set_option maxRecDepth 100000
set_option maxHeartbeats 0
/-! Fg1: values by content, a heap of what changes, and how they stand for the layer's values and heaps. -/
namespace Fg
open PySem PySem.Spec L2
open PyProof.Rows hiding St

/-- a value by its content; ref: an object that may change (or a class, a def) -/
inductive D where
  | non | bl (b : Bool) | int (i : Int) | str (x : Str) | ty (n : String)
  | tup (ds : List D) | rol (ds : List D) | ref (a : Addr)

/-- an object that may change -/
inductive MO where
  | lst (ds : List D)
  /-- a dict, its object just this one -/
  | dct (o : Obj) (kvs : List (D × D))
  | ins (c : Str) (fs : List (Str × D))
  /-- what a caught exception holds -/
  | xd (f : Str) (d : D)

abbrev MM := Addr → Option MO
def up (M : MM) (a : Addr) (o : MO) : MM := fun b => if b = a then some o else M b
theorem up_same {M : MM} {a : Addr} {o : MO} : up M a o a = some o := by unfold up; rw [if_pos rfl]
theorem up_ne {M : MM} {a b : Addr} {o : MO} (h : b ≠ a) : up M a o b = M b := by unfold up; rw [if_neg h]
theorem up_up {M : MM} {a : Addr} {o u : MO} : up (up M a o) a u = up M a u := by
  funext b; unfold up; split <;> rfl
abbrev En := List (Option D)
/-- an exception of a class of the text, with its one attribute -/
structure Xn where
  c : Str
  f : Str
  v : D

/-! ### keys -/
mutual
/-- the key that a value is -/
def dkey : D → Option NestedKey
  | .non => some .none
  | .int i => some (.num i)
  | .str x => some (.text x)
  | .tup ds => (dkeys ds).map .tup
  | .bl _ => none
  | .ty _ => none
  | .rol _ => none
  | .ref _ => none
def dkeys : List D → Option (List NestedKey)
  | [] => some []
  | d :: ds => match dkey d, dkeys ds with
    | some k, some ks => some (k :: ks)
    | _, _ => none
end

def isAt : D → Bool
  | .int _ => true
  | .str _ => true
  | _ => false
def isTu : D → Bool
  | .tup _ => true
  | _ => false
/-- the keys are of one kind: numbers and texts, or tuples -/
def uni (kvs : List (D × D)) : Prop := (∀ p ∈ kvs, isAt p.1 = true) ∨ ∀ p ∈ kvs, isTu p.1 = true
/-! ### how data stand in the layer's heap -/
section
variable (K : PySem.W.Frag) (H : Hp)
/-- a list that stands as it is -/
def Fz (a : Addr) (vs : List V) : Prop := (∃ o, H a = some (.frz o (.lst vs))) ∨
  ∃ (o : Obj) (its : Array Value) (n : Nat), K.lookup a = some o ∧ o.cls = .type "list" ∧ o.dict = none ∧ o.data = .seq its n ∧ its.size ≤ sizeLine ∧ Vals vs its.toList
/-- a tuple without a dict of its own -/
def SqN (a : Addr) (vs : List V) : Prop := (∃ o, H a = some (.frz o (.tup vs)) ∧ o.dict = none) ∨
  ∃ (o : Obj) (its : Array Value) (n : Nat), K.lookup a = some o ∧ o.cls = .type "tuple" ∧ o.dict = none ∧ o.data = .seq its n ∧ its.size ≤ sizeLine ∧ Vals vs its.toList
mutual
inductive RD : D → V → Prop
  | non : RD .non .non
  | bl (b : Bool) : RD (.bl b) (.bl b)
  | int (i : Int) : RD (.int i) (.int i)
  | str (x : Str) : RD (.str x) (.str x)
  | ty (n : String) : RD (.ty n) (.ty n)
  | tup {a : Addr} {vs : List V} {ds : List D} : SqN K H a vs → RDs ds vs → RD (.tup ds) (.ref a)
  | rol {a : Addr} {vs : List V} {ds : List D} : Fz K H a vs → RDs ds vs → RD (.rol ds) (.ref a)
  | ref (a : Addr) : RD (.ref a) (.ref a)
inductive RDs : List D → List V → Prop
  | nil : RDs [] []
  | cons {d : D} {v : V} {ds : List D} {vs : List V} : RD d v → RDs ds vs → RDs (d :: ds) (v :: vs)
end
end
/-- what never goes: tuples, what stands as it is -/
structure Stb (H H' : Hp) : Prop where
  tup : ∀ a xs, H a = some (.tup xs) → H' a = some (.tup xs)
  frz : ∀ a o u, H a = some (.frz o u) → H' a = some (.frz o u)
theorem Stb.refl (H : Hp) : Stb H H := ⟨fun _ _ h => h, fun _ _ _ h => h⟩
theorem Stb.trans {H H1 H2 : Hp} (a : Stb H H1) (b : Stb H1 H2) : Stb H H2 := ⟨fun c xs h => b.tup c xs (a.tup c xs h), fun c o u h => b.frz c o u (a.frz c o u h)⟩
theorem Stb.new {H : Hp} {p : Addr} {o : HO} (h : H p = none) : Stb H (upd H p o) :=
  ⟨fun c xs e => by rw [upd_ne (ne_of_none e h)]; exact e, fun c ob u e => by rw [upd_ne (ne_of_none e h)]; exact e⟩
theorem Stb.mut {H : Hp} {p : Addr} {o : HO} (h : Mut (H p)) : Stb H (upd H p o) :=
  ⟨fun c xs e => by
    rw [upd_ne (fun z => by subst z; rw [e] at h; exact h)]
    exact e, fun c ob u e => by
    rw [upd_ne (fun z => by subst z; rw [e] at h; exact h)]
    exact e⟩
section
variable {K : PySem.W.Frag} {H H' : Hp}
theorem _root_.L2.Rd.stbT {a : Addr} {xs : List V} (s : Stb H H') (h : Rd H a (.tup xs)) : Rd H' a (.tup xs) := by
  rcases h with h | ⟨o, h⟩
  · exact .inl (s.tup _ _ h)
  · exact .inr ⟨o, s.frz _ _ _ h⟩
theorem _root_.L2.SqT.stb {a : Addr} {xs : List V} (s : Stb H H') (h : SqT K H a xs) : SqT K H' a xs := by
  rcases h with h | h
  · exact .inl (Rd.stbT s h)
  · exact .inr h
theorem SqN.t {a : Addr} {xs : List V} (h : SqN K H a xs) : SqT K H a xs := by
  rcases h with ⟨o, h, _⟩ | ⟨o, its, n, h1, h2, _, h3⟩
  · exact .inl (.inr ⟨o, h⟩)
  · exact .inr ⟨o, its, n, h1, h2, h3⟩
instance {a : Addr} {xs : List V} : Coe (SqN K H a xs) (SqT K H a xs) := ⟨SqN.t⟩
theorem SqN.stb {a : Addr} {xs : List V} (s : Stb H H') (h : SqN K H a xs) : SqN K H' a xs := by
  rcases h with ⟨o, h, e⟩ | h
  · exact .inl ⟨o, s.frz _ _ _ h, e⟩
  · exact .inr h
theorem Fz.stb {a : Addr} {xs : List V} (s : Stb H H') (h : Fz K H a xs) : Fz K H' a xs := by
  rcases h with ⟨o, h⟩ | h
  · exact .inl ⟨o, s.frz _ _ _ h⟩
  · exact .inr h
theorem Fz.sq {a : Addr} {xs : List V} (h : Fz K H a xs) : SqL K H a xs := by
  rcases h with ⟨o, h⟩ | h
  · exact .inl (.inr ⟨o, h⟩)
  · exact .inr h
mutual
theorem RD.stb (s : Stb H H') : ∀ {d : D} {v : V}, RD K H d v → RD K H' d v
  | _, _, .non => .non
  | _, _, .bl b => .bl b
  | _, _, .int i => .int i
  | _, _, .str x => .str x
  | _, _, .ty n => .ty n
  | _, _, .tup h r => .tup (SqN.stb s h) (RDs.stb s r)
  | _, _, .rol h r => .rol (Fz.stb s h) (RDs.stb s r)
  | _, _, .ref a => .ref a
theorem RDs.stb (s : Stb H H') : ∀ {ds : List D} {vs : List V}, RDs K H ds vs → RDs K H' ds vs
  | _, _, .nil => .nil
  | _, _, .cons h r => .cons (RD.stb s h) (RDs.stb s r)
end
theorem RDs.length : ∀ {ds : List D} {vs : List V}, RDs K H ds vs → ds.length = vs.length
  | _, _, .nil => rfl
  | _, _, .cons _ r => by rw [List.length_cons, List.length_cons, RDs.length r]
theorem RDs.get : ∀ {ds : List D} {vs : List V} {i : Nat} {d : D}, RDs K H ds vs → ds[i]? = some d → ∃ v, vs[i]? = some v ∧ RD K H d v
  | _, _, _, _, .nil, e => by simp at e
  | _, _, 0, _, .cons h _, e => by simp at e; subst e; exact ⟨_, rfl, h⟩
  | _, _, i + 1, _, .cons _ r, e => by
    obtain ⟨v, h1, h2⟩ := RDs.get (i := i) r (by simpa using e)
    exact ⟨v, by simpa using h1, h2⟩
theorem RDs.getV : ∀ {ds : List D} {vs : List V} {i : Nat} {v : V}, RDs K H ds vs → vs[i]? = some v → ∃ d, ds[i]? = some d ∧ RD K H d v
  | _, _, _, _, .nil, e => by simp at e
  | _, _, 0, _, .cons h _, e => by simp at e; subst e; exact ⟨_, rfl, h⟩
  | _, _, i + 1, _, .cons _ r, e => by
    obtain ⟨v, h1, h2⟩ := RDs.getV (i := i) r (by simpa using e)
    exact ⟨v, by simpa using h1, h2⟩
theorem RDs.append : ∀ {ds es : List D} {vs us : List V}, RDs K H ds vs → RDs K H es us → RDs K H (ds ++ es) (vs ++ us)
  | _, _, _, _, .nil, s => s
  | _, _, _, _, .cons h r, s => .cons h (RDs.append r s)
theorem RDs.set {d : D} {v : V} (h : RD K H d v) : ∀ {ds : List D} {vs : List V} (i : Nat), RDs K H ds vs → RDs K H (ds.set i d) (vs.set i v)
  | _, _, _, .nil => .nil
  | _, _, 0, .cons _ r => .cons h r
  | _, _, i + 1, .cons q r => .cons q (RDs.set h i r)
theorem RDs.take : ∀ {ds : List D} {vs : List V} (n : Nat), RDs K H ds vs → RDs K H (ds.take n) (vs.take n)
  | _, _, 0, _ => .nil
  | _, _, _ + 1, .nil => .nil
  | _, _, n + 1, .cons h r => .cons h (RDs.take n r)
theorem RDs.drop : ∀ {ds : List D} {vs : List V} (n : Nat), RDs K H ds vs → RDs K H (ds.drop n) (vs.drop n)
  | _, _, 0, r => r
  | _, _, _ + 1, .nil => .nil
  | _, _, n + 1, .cons _ r => RDs.drop n r
theorem RDs.ints : ∀ {ns : List Int}, RDs K H (ns.map D.int) (ns.map V.int)
  | [] => .nil
  | n :: _ => .cons (.int n) RDs.ints
theorem RDs.bls : ∀ {bs : List Bool} {vs : List V}, RDs K H (bs.map D.bl) vs → vs = bs.map V.bl
  | [], _, h => by cases h; rfl
  | b :: bs, _, h => by
    cases h with
    | cons h r =>
      cases h
      rw [RDs.bls r]; rfl
theorem RDs.strs : ∀ {xs : List Str} {vs : List V}, RDs K H (xs.map D.str) vs → vs = xs.map V.str
  | [], _, h => by cases h; rfl
  | b :: bs, _, h => by
    cases h with
    | cons h r =>
      cases h
      rw [RDs.strs r]; rfl
theorem RDs.intsV : ∀ {xs : List Int} {vs : List V}, RDs K H (xs.map D.int) vs → vs = xs.map V.int
  | [], _, h => by cases h; rfl
  | b :: bs, _, h => by
    cases h with
    | cons h r =>
      cases h
      rw [RDs.intsV r]; rfl
end

/-- a new tuple -/
def tupO (us : List Value) : Obj := { cls := .type "tuple", data := .seq us.toArray }
theorem tup_ok {P : Program} {w : World} {H : Hp} {h : Heap} {a : Addr} {us : List Value} {vs : List V} (e : h.get? a = some (tupO us)) (r : Vals vs us) (z : vs.length ≤ sizeLine) : ObjOk P w H h a (.frz (tupO us) (.tup vs)) :=
  ⟨e, z, us, r, ⟨_, e, rfl, _, rfl⟩⟩
theorem sqN_new {K : PySem.W.Frag} {H : Hp} {a : Addr} {us : List Value} {vs : List V} : SqN K (upd H a (.frz (tupO us) (.tup vs))) a vs := .inl ⟨_, upd_same, rfl⟩
/-! ### the heap of what changes -/
/-- the object at a is just this one -/
def rawO (a : Addr) (o : Obj) : HO := .ext fun h => h.get? a = some o
section
variable (K : PySem.W.Frag) (w : World) (H : Hp)
/-- an entry of a dict -/
def REn (p : D × D) (e : DictEntry) : Prop := (∃ k y, dkey p.1 = some k ∧ k.depth ≤ 8 ∧ e.hash = k.hash w ∧ RelV y e.key ∧ RD K H p.1 y) ∧ ∃ y, RelV y e.val ∧ RD K H p.2 y
def RFl : List (Str × D) → List (Str × V) → Prop := Paired fun (p : Str × D) (q : Str × V) => p.1 = q.1 ∧ RD K H p.2 q.2
def RO (a : Addr) : MO → Prop
  | .lst ds => ∃ vs, H a = some (.lst vs) ∧ RDs K H ds vs
  | .dct o kvs => ∃ (es : List DictEntry) (ep : Nat), H a = some (rawO a o) ∧ o.ExactDict ∧ o.data = .dict es.toArray ep ∧ (a == sysModules) = false ∧ kvs.length ≤ sizeLine ∧ uni kvs ∧ (kvs.map fun p => dkey p.1).Nodup ∧ Paired (REn K w H) kvs es
  | .ins c fs => ∃ dx vs, H a = some (.ins (He.ga K c) dx vs) ∧ RFl K H fs vs
  | .xd f d => ∃ y, H a = some (.xd [(f, y)]) ∧ RD K H d y
def RM (M : MM) : Prop := ∀ a o, M a = some o → RO K w H a o
/-- an exception as it lies -/
def RX (M : MM) (x : Xn) (cls : Value) (d : Option Addr) : Prop := cls = .ref (He.ga K x.c) ∧ ∃ dd y, d = some dd ∧ M dd = none ∧ H dd = some (.xd [(x.f, y)]) ∧ RD K H x.v y
/-- the slots -/
def RE (ρ : En) (σ : St) : Prop := ρ.length = σ.length ∧ ∀ (i : Nat) (d : D), ρ[i]? = some (some d) → ∃ y, σ[i]? = some (some y) ∧ RD K H d y
end
section
variable {K : PySem.W.Frag} {w : World} {H H' : Hp} {M M' : MM} {ρ : En} {σ : St}
theorem RE.stb (s : Stb H H') (h : RE K H ρ σ) : RE K H' ρ σ := ⟨h.1, fun i d e => let ⟨y, h1, h2⟩ := h.2 i d e; ⟨y, h1, h2.stb s⟩⟩
theorem RE.set {i : Nat} {d : D} {y : V} (h : RE K H ρ σ) (r : RD K H d y) : RE K H (ρ.set i (some d)) (σ.set i (some y)) := by
  refine ⟨by rw [List.length_set, List.length_set]; exact h.1, fun j e q => ?_⟩
  by_cases hj : i = j
  · subst hj
    by_cases hl : i < ρ.length
    · rw [List.getElem?_set_self hl] at q
      have e1 : d = e := Option.some.inj (Option.some.inj q)
      subst e1
      exact ⟨y, by rw [List.getElem?_set_self (by rw [← h.1]; exact hl)], r⟩
    · rw [List.set_eq_of_length_le (by omega)] at q
      rw [List.getElem?_eq_none (by omega)] at q
      cases q
  · rw [List.getElem?_set_ne hj] at q
    obtain ⟨z, h1, h2⟩ := h.2 j e q
    exact ⟨z, by rw [List.getElem?_set_ne hj]; exact h1, h2⟩
theorem REn.stb (s : Stb H H') {p : D × D} {e : DictEntry} (h : REn K w H p e) : REn K w H' p e :=
  let ⟨⟨k, y, a, f, b, c, d⟩, z, c2, d2⟩ := h; ⟨⟨k, y, a, f, b, c, d.stb s⟩, z, c2, d2.stb s⟩
theorem RFl.stb (s : Stb H H') {fs : List (Str × D)} {vs : List (Str × V)} (h : RFl K H fs vs) : RFl K H' fs vs := Paired.mapP h fun _ _ q => ⟨q.1, q.2.stb s⟩
/-- an object stands while its own place does -/
theorem RO.stb (s : Stb H H') {a : Addr} {o : MO} (e : H' a = H a) (h : RO K w H a o) : RO K w H' a o := by
  cases o with
  | lst ds => obtain ⟨vs, h1, h2⟩ := h; exact ⟨vs, e.trans h1, h2.stb s⟩
  | dct o kvs => obtain ⟨es, ep, h1, g1, g2, h2, h3, hu, h4, h5⟩ := h; exact ⟨es, ep, e.trans h1, g1, g2, h2, h3, hu, h4, Paired.mapP h5 fun _ _ q => q.stb s⟩
  | ins c fs => obtain ⟨dx, vs, h1, h2⟩ := h; exact ⟨dx, vs, e.trans h1, h2.stb s⟩
  | xd f d => obtain ⟨y, h1, h2⟩ := h; exact ⟨y, e.trans h1, h2.stb s⟩
theorem RO.there {a : Addr} {o : MO} (h : RO K w H a o) : ∃ u, H a = some u := by
  cases o with
  | lst ds => obtain ⟨vs, h1, h2⟩ := h; exact ⟨_, h1⟩
  | dct o kvs => obtain ⟨es, ep, h1, _⟩ := h; exact ⟨_, h1⟩
  | ins c fs => obtain ⟨dx, vs, h1, h2⟩ := h; exact ⟨_, h1⟩
  | xd f d => obtain ⟨y, h1, h2⟩ := h; exact ⟨_, h1⟩
theorem RM.fresh (h : RM K w H M) {p : Addr} (hp : H p = none) : M p = none := by
  cases e : M p with
  | none => rfl
  | some o =>
    obtain ⟨u, h1⟩ := (h p o e).there
    rw [hp] at h1; cases h1
/-- a thing that is not of the heap of what changes is laid -/
theorem RM.laid (h : RM K w H M) {p : Addr} {u : HO} (hp : H p = none) : RM K w (upd H p u) M := fun a o e => by
  have hn : a ≠ p := fun z => by
    subst z
    rw [h.fresh hp] at e; cases e
  exact (h a o e).stb (Stb.new hp) (upd_ne hn)
theorem RM.new (h : RM K w H M) {p : Addr} {u : HO} {o : MO} (hp : H p = none) (ho : RO K w (upd H p u) p o) : RM K w (upd H p u) (up M p o) := fun a q e => by
  by_cases hn : a = p
  · subst hn
    rw [up_same] at e; cases e; exact ho
  · rw [up_ne hn] at e
    exact (h a q e).stb (Stb.new hp) (upd_ne hn)
theorem RM.mut (h : RM K w H M) {p : Addr} {u : HO} {o : MO} (hp : Mut (H p)) (ho : RO K w (upd H p u) p o) : RM K w (upd H p u) (up M p o) := fun a q e => by
  by_cases hn : a = p
  · subst hn
    rw [up_same] at e; cases e; exact ho
  · rw [up_ne hn] at e
    exact (h a q e).stb (Stb.mut hp) (upd_ne hn)
end

/-! ### readings from wishes -/
/-- what is wanted: of a value and the heap; of an exception and the heap -/
abbrev QD := D → MM → Prop
abbrev QX := Xn → MM → Prop
abbrev WE := En → MM → QD → QX → Prop
abbrev WB := En → MM → (Bool → MM → Prop) → QX → Prop
abbrev WA := En → MM → (List D → MM → Prop) → QX → Prop
abbrev RMx (X : Cx) (H : Hp) (M : MM) : Prop := RM X.K X.w H M
/-- exceptions go on -/
def XGo (X : Cx) (W : WX) (σ : St) (H : Hp) (E0 : QX) : Prop := ∀ x M', E0 x M' → ∀ cls d H', Stb H H' → RX X.K H' M' x cls d → RMx X H' M' → W cls d σ H'
def upE (X : Cx) (W : WX) (t : WE) : TE := fun σ H Q => ∃ ρ M Q0 E0, RE X.K H ρ σ ∧ RMx X H M ∧ t ρ M Q0 E0 ∧
  (∀ d M', Q0 d M' → ∀ y H', Stb H H' → RD X.K H' d y → RMx X H' M' → Q y H') ∧ XGo X W σ H E0
def upB (X : Cx) (W : WX) (t : WB) : TT := fun σ H Q => ∃ ρ M Q0 E0, RE X.K H ρ σ ∧ RMx X H M ∧ t ρ M Q0 E0 ∧
  (∀ b M', Q0 b M' → ∀ H', Stb H H' → RMx X H' M' → Q b H') ∧ XGo X W σ H E0
def upA (X : Cx) (W : WX) (t : WA) : TA := fun σ H Q => ∃ ρ M Q0 E0, RE X.K H ρ σ ∧ RMx X H M ∧ t ρ M Q0 E0 ∧
  (∀ ds M', Q0 ds M' → ∀ ys H', Stb H H' → RDs X.K H' ds ys → RMx X H' M' → Q ys H') ∧ XGo X W σ H E0
theorem XGo.stb {X : Cx} {W : WX} {σ : St} {H H1 : Hp} {E0 : QX} (h : XGo X W σ H E0) (s : Stb H H1) : XGo X W σ H1 E0 :=
  fun x M' q cls d H' s' r m => h x M' q cls d H' (s.trans s') r m
section
variable {X : Cx} {e a b : Expr} {W : WX}
theorem _root_.L2.PE.imp {t t' : TE} (h : PE X e t) (q : ∀ σ H Q, t' σ H Q → t σ H Q) : PE X e t' := ⟨fun pins s σ H Q I z => h.run pins s σ H Q I (q σ H Q z)⟩
theorem _root_.L2.PT.imp {t t' : TT} (h : PT X e t) (q : ∀ σ H Q, t' σ H Q → t σ H Q) : PT X e t' := ⟨fun pins s σ H Q I z => h.run pins s σ H Q I (q σ H Q z)⟩
theorem _root_.L2.PW.imp {t t' : TT} (h : PW X e t) (q : ∀ σ H Q, t' σ H Q → t σ H Q) : PW X e t' := ⟨fun wh pins s σ H Q I z => h.run wh pins s σ H Q I (q σ H Q z)⟩
theorem _root_.L2.PA.imp {es : List Expr} {t t' : TA} (h : PA X es t) (q : ∀ σ H Q, t' σ H Q → t σ H Q) : PA X es t' := ⟨fun pos pins s σ H Q I z => h.run pos pins s σ H Q I (q σ H Q z)⟩
theorem _root_.L2.PS.imp {st : Stmt} {t t' : TS} (h : PS X st t) (q : ∀ D σ H, t' D σ H → t D σ H) : PS X st t' := ⟨fun pins s σ H D I z => h.run pins s σ H D I (q D σ H z)⟩
theorem _root_.L2.PSs.imp {st : List Stmt} {t t' : TS} (h : PSs X st t) (q : ∀ D σ H, t' D σ H → t D σ H) : PSs X st t' := ⟨fun pins s σ H D I z => h.run pins s σ H D I (q D σ H z)⟩

/-! ### the smallest readings -/
def wVar (i : Nat) : WE := fun ρ M Q _ => match ρ[i]? with
  | some (some d) => Q d M
  | _ => False
def wCst (d : D) : WE := fun _ M Q _ => Q d M
theorem ue_var {i : Nat} (h : PE X e (tVar i)) : PE X e (upE X W (wVar i)) := h.imp fun σ H Q ⟨ρ, M, Q0, E0, r, m, t, q, _⟩ => by
  unfold wVar at t
  cases z : ρ[i]? with
  | none => rw [z] at t; exact t.elim
  | some od =>
    cases od with
    | none => rw [z] at t; exact t.elim
    | some d =>
      rw [z] at t
      obtain ⟨y, h1, h2⟩ := r.2 i d z
      exact ⟨y, h1, q d M t y H (Stb.refl H) h2 m⟩
theorem ue_cst {d : D} {v : V} (h : PE X e (tC v)) (hd : ∀ H, RD X.K H d v) : PE X e (upE X W (wCst d)) := h.imp fun σ H Q ⟨ρ, M, Q0, E0, r, m, t, q, _⟩ =>
  q d M t v H (Stb.refl H) (hd H) m
/-- two expressions, an operation -/
abbrev OD := D → D → MM → QD → Prop
def wOp (o : OD) (wa wb : WE) : WE := fun ρ M Q E => wa ρ M (fun x M1 => wb ρ M1 (fun y M2 => o x y M2 Q) E) E
/-- an operation on values, from one on data -/
def upO (X : Cx) (o : OD) : R2 := fun x y H Q => ∃ d f M Q0, RD X.K H d x ∧ RD X.K H f y ∧ RMx X H M ∧ o d f M Q0 ∧ ∀ z M', Q0 z M' → ∀ v H', Stb H H' → RD X.K H' z v → RMx X H' M' → Q v H'
theorem ue_op {o : OD} {wa wb : WE} {r : R2} (hr : ∀ x y H Q, upO X o x y H Q → r x y H Q) (h : PE X e (tOp r (upE X W wa) (upE X W wb))) : PE X e (upE X W (wOp o wa wb)) := h.imp fun σ H Q ⟨ρ, M, Q0, E0, r1, m, t, q, xg⟩ =>
  ⟨ρ, M, _, E0, r1, m, t, fun d M1 t1 y H1 s1 rd m1 => ⟨ρ, M1, _, E0, r1.stb s1, m1, t1, fun d2 M2 t2 y2 H2 s2 rd2 m2 =>
    hr _ _ _ _ ⟨d, d2, M2, Q0, rd.stb s2, rd2, m2, t2, fun z M' qz v H' s3 rz mz => q z M' qz v H' ((s1.trans s2).trans s3) rz mz⟩, xg.stb s1⟩, xg⟩
def wUn (o : D → MM → QD → Prop) (wa : WE) : WE := fun ρ M Q E => wa ρ M (fun x M1 => o x M1 Q) E
def upU (X : Cx) (o : D → MM → QD → Prop) : V → Hp → VK → Prop := fun x H Q => ∃ d M Q0, RD X.K H d x ∧ RMx X H M ∧ o d M Q0 ∧ ∀ z M', Q0 z M' → ∀ v H', Stb H H' → RD X.K H' z v → RMx X H' M' → Q v H'
theorem ue_un {o : D → MM → QD → Prop} {wa : WE} (h : PE X e (tUn (upU X o) (upE X W wa))) : PE X e (upE X W (wUn o wa)) := h.imp fun σ H Q ⟨ρ, M, Q0, E0, r1, m, t, q, xg⟩ =>
  ⟨ρ, M, _, E0, r1, m, t, fun d M1 t1 y H1 s1 rd m1 => ⟨d, M1, Q0, rd, m1, t1, fun z M' qz v H' s3 rz mz => q z M' qz v H' (s1.trans s3) rz mz⟩, xg⟩
/-! ### argument lists -/
def wNil : WA := fun _ M Q _ => Q [] M
def wCons (wa : WE) (wr : WA) : WA := fun ρ M Q E => wa ρ M (fun x M1 => wr ρ M1 (fun xs M2 => Q (x :: xs) M2) E) E
theorem ua_nil : PA X [] (upA X W wNil) := pa_nil.imp fun σ H Q ⟨ρ, M, Q0, E0, r1, m, t, q, xg⟩ => q [] M t [] H (Stb.refl H) .nil m
theorem ua_cons {wa : WE} {wr : WA} {es : List Expr} (ha : PE X e (upE X W wa)) (hr : PA X es (upA X W wr)) (hs : starEach (e :: es) X.env = (false, eval e X.env) :: starEach es X.env) : PA X (e :: es) (upA X W (wCons wa wr)) :=
  (pa_cons ha hr hs).imp fun σ H Q ⟨ρ, M, Q0, E0, r1, m, t, q, xg⟩ =>
  ⟨ρ, M, _, E0, r1, m, t, fun d M1 t1 y H1 s1 rd m1 => ⟨ρ, M1, _, E0, r1.stb s1, m1, t1, fun ds M2 t2 ys H2 s2 rds m2 => q (d :: ds) M2 t2 (y :: ys) H2 (s1.trans s2) (.cons (rd.stb s2) rds) m2, xg.stb s1⟩, xg⟩
/-- a call by values -/
abbrev CD := List D → MM → QD → Prop
def wCl (o : CD) (wa : WA) : WE := fun ρ M Q E => wa ρ M (fun xs M1 => o xs M1 Q) E
def upC (X : Cx) (o : CD) : List V → Hp → VK → Prop := fun xs H Q => ∃ ds M Q0, RDs X.K H ds xs ∧ RMx X H M ∧ o ds M Q0 ∧ ∀ z M', Q0 z M' → ∀ v H', Stb H H' → RD X.K H' z v → RMx X H' M' → Q v H'
theorem ue_cl {o : CD} {wa : WA} {r : List V → Hp → VK → Prop} (hr : ∀ xs H Q, upC X o xs H Q → r xs H Q) (h : PE X e (tCB r (upA X W wa))) : PE X e (upE X W (wCl o wa)) := h.imp fun σ H Q ⟨ρ, M, Q0, E0, r1, m, t, q, xg⟩ =>
  ⟨ρ, M, _, E0, r1, m, t, fun ds M1 t1 ys H1 s1 rd m1 => hr _ _ _ ⟨ds, M1, Q0, rd, m1, t1, fun z M' qz v H' s3 rz mz => q z M' qz v H' (s1.trans s3) rz mz⟩, xg⟩
end
end Fg
/-! Fg2: what operators do with data. -/
namespace Fg
open PySem PySem.Spec L2
open PyProof.Rows hiding St
/-! ### data as the library reads it -/
mutual
def toP : D → PyData
  | .non => .none
  | .bl b => .bool b
  | .int i => .int i
  | .str x => .str x
  | .tup ds => .tuple (toPs ds)
  | .rol ds => .list (toPs ds)
  | .ty _ => .none
  | .ref _ => .none
def toPs : List D → List PyData
  | [] => []
  | d :: ds => toP d :: toPs ds
end
mutual
/-- numbers, texts, tuples of such -/
def dat : D → Bool
  | .non => true
  | .bl _ => true
  | .int _ => true
  | .str _ => true
  | .tup ds => dats ds
  | .rol ds => dats ds
  | .ty _ => false
  | .ref _ => false
def dats : List D → Bool
  | [] => true
  | d :: ds => dat d && dats ds
end
mutual
def dep : D → Nat
  | .tup ds => deps ds + 1
  | .rol ds => deps ds + 1
  | .non => 0
  | .bl _ => 0
  | .int _ => 0
  | .str _ => 0
  | .ty _ => 0
  | .ref _ => 0
def deps : List D → Nat
  | [] => 0
  | d :: ds => max (dep d) (deps ds)
end
theorem toPs_length : ∀ ds : List D, (toPs ds).length = ds.length
  | [] => rfl
  | d :: ds => by rw [toPs, List.length_cons, List.length_cons, toPs_length ds]
theorem toPs_map : ∀ ds : List D, toPs ds = ds.map toP
  | [] => rfl
  | d :: ds => by rw [toPs, List.map_cons, toPs_map ds]
mutual
theorem plain_toP : ∀ d : D, (toP d).plain = true
  | .non => rfl
  | .bl _ => rfl
  | .int _ => rfl
  | .str _ => rfl
  | .ty _ => rfl
  | .ref _ => rfl
  | .tup ds => by rw [toP, PyData.plain]; exact plain_toPs ds
  | .rol ds => by rw [toP, PyData.plain]; exact plain_toPs ds
theorem plain_toPs : ∀ ds : List D, PyData.plainAll (toPs ds) = true
  | [] => rfl
  | d :: ds => by rw [toPs, PyData.plainAll, plain_toP d, plain_toPs ds]; rfl
end
mutual
theorem dep_toP : ∀ d : D, (toP d).depth = dep d
  | .non => rfl
  | .bl _ => rfl
  | .int _ => rfl
  | .str _ => rfl
  | .ty _ => rfl
  | .ref _ => rfl
  | .tup ds => by rw [toP, PyData.depth, dep, dep_toPs ds]
  | .rol ds => by rw [toP, PyData.depth, dep, dep_toPs ds]
theorem dep_toPs : ∀ ds : List D, PyData.depthAll (toPs ds) = deps ds
  | [] => rfl
  | d :: ds => by rw [toPs, PyData.depthAll, deps, dep_toP d, dep_toPs ds]
end
section
variable {K : PySem.W.Frag} {H : Hp}
mutual
theorem RD.dp : ∀ {d : D} {v : V}, RD K H d v → dat d = true → Dp K H v (toP d)
  | _, _, .non, _ => .non
  | _, _, .bl b, _ => .bl b
  | _, _, .int i, _ => .int i
  | _, _, .str x, _ => .str x
  | _, _, .ty n, h => by cases h
  | _, _, .tup h r, e => .tup h (RDs.dp r e)
  | _, _, .rol h r, e => .lst h.sq (RDs.dp r e)
  | _, _, .ref a, h => by cases h
theorem RDs.dp : ∀ {ds : List D} {vs : List V}, RDs K H ds vs → dats ds = true → DpAll K H vs (toPs ds)
  | _, _, .nil, _ => .nil
  | _, _, .cons h r, e => by
    rw [dats, Bool.and_eq_true] at e
    exact .cons (RD.dp h e.1) (RDs.dp r e.2)
end
end
section
variable {X : Cx} {pins : List (Addr × Obj)} {σ : St} {H : Hp} {s : Shared} {M : MM}
theorem reads_of (I : Inv X pins σ H s) {d : D} {v : V} {u : Value} (r : RD X.K H d v) (e : dat d = true) (ru : RelV v u) : ∃ as, PySem.Reads s.heap u (toP d) as := Dp.reads I _ _ _ (r.dp e) ru
/-- a list's contents: one that may change, one that stands -/
def lstOf (M : MM) : D → Option (List D)
  | .ref a => match M a with
    | some (.lst ds) => some ds
    | _ => none
  | .rol ds => some ds
  | _ => none
theorem lstOf_ref {a : Addr} {ds : List D} (h : M a = some (.lst ds)) : lstOf M (.ref a) = some ds := by simp only [lstOf, h]
theorem lstOf_sq (m : RMx X H M) {d : D} {v : V} {ds : List D} (r : RD X.K H d v) (e : lstOf M d = some ds) : ∃ a vs, v = .ref a ∧ SqL X.K H a vs ∧ RDs X.K H ds vs := by
  cases r with
  | @ref a =>
    cases q : M a with
    | none => simp [lstOf, q] at e
    | some o =>
      simp only [lstOf, q] at e
      cases o with
      | lst es =>
        cases e
        obtain ⟨vs, h1, h2⟩ := m a _ q
        exact ⟨a, vs, rfl, SqL.of h1, h2⟩
      | dct _ _ => cases e
      | ins _ _ => cases e
      | xd _ _ => cases e
  | @rol a vs es h q =>
    cases e
    exact ⟨a, vs, rfl, h.sq, q⟩
  | _ => cases e
/-- a value as data, a list with its contents -/
def asD (M : MM) (d : D) : Option D := match lstOf M d with
  | some ds => if dats ds = true then some (.rol ds) else none
  | none => if dat d = true then some d else none
theorem asD_reads (I : Inv X pins σ H s) (m : RMx X H M) {d e : D} {v : V} {u : Value} (r : RD X.K H d v) (h : asD M d = some e) (ru : RelV v u) : ∃ as, PySem.Reads s.heap u (toP e) as := by
  unfold asD at h
  cases q : lstOf M d with
  | none =>
    simp only [q] at h
    by_cases hd : dat d = true
    · rw [if_pos hd] at h
      cases h
      exact reads_of I r hd ru
    · rw [if_neg hd] at h; cases h
  | some ds =>
    simp only [q] at h
    by_cases hd : dats ds = true
    · rw [if_pos hd] at h
      cases h
      obtain ⟨a, vs, rfl, hs, hr⟩ := lstOf_sq m r q
      exact Dp.reads I _ _ _ (Dp.lst hs (hr.dp hd)) ru
    · rw [if_neg hd] at h; cases h
end

/-! ### equality and order -/
/-- x == y -/
def eqD (x y : D) : Bool := PyData.eqv (toP x) (toP y)
def dEq : OD := fun x y M Q => match x, y with
  | .int i, .int j => Q (.bl (decide (i = j))) M
  | .str i, .str j => Q (.bl (decide (i = j))) M
  | .bl i, .bl j => Q (.bl (i == j)) M
  | x, y => ∃ x' y', asD M x = some x' ∧ asD M y = some y' ∧ min (dep x') (dep y') ≤ 60 ∧ Q (.bl (eqD x' y')) M
def dNe : OD := fun x y M Q => dEq x y M fun z M' => match z with
  | .bl b => Q (.bl (!b)) M'
  | _ => False
theorem dEq_out {x y : D} {M : MM} {Q : QD} (h : dEq x y M Q) : ∃ x' y', asD M x = some x' ∧ asD M y = some y' ∧ min (dep x') (dep y') ≤ 60 ∧ Q (.bl (eqD x' y')) M := by
  unfold dEq at h
  split at h
  · rename_i i j
    exact ⟨.int i, .int j, rfl, rfl, by simp [dep], by rw [show eqD (.int i) (.int j) = decide (i = j) from by rw [eqD, toP, toP, PyData.eqv, Bool.beq_eq_decide_eq]]; exact h⟩
  · rename_i i j
    exact ⟨.str i, .str j, rfl, rfl, by simp [dep], by rw [show eqD (.str i) (.str j) = decide (i = j) from by rw [eqD, toP, toP, PyData.eqv, Bool.beq_eq_decide_eq]]; exact h⟩
  · rename_i i j
    exact ⟨.bl i, .bl j, rfl, rfl, by simp [dep], by rw [show eqD (.bl i) (.bl j) = (i == j) from by rw [eqD, toP, toP, PyData.eqv]]; exact h⟩
  · exact h
section
variable {X : Cx}
theorem room_min {A : Around} {x y : D} (hu : A.units + 64 < cLine) (h : min (dep x) (dep y) ≤ 60) : A.units + min (toP x).depth (toP y).depth < cLine := by
  rw [dep_toP, dep_toP]; omega
theorem op_dEq (hu : X.A.units + 64 < cLine) : OpR X (compareOp .Eq) (upO X dEq) := by
  intro pins s σ H x y v u Q I rx ry h
  obtain ⟨d, f, M, Q0, r1, r2, m, t, q⟩ := h
  obtain ⟨x', y', h1, h2, h3, h4⟩ := dEq_out t
  obtain ⟨as, q1⟩ := asD_reads I m r1 h1 rx
  obtain ⟨bs, q2⟩ := asD_reads I m r2 h2 ry
  exact PySem.SeqAt.eq_plain q1 q2 (plain_toP _) (plain_toP _) (room_min hu h3) ⟨.bl _, H, I, rfl, q _ M h4 _ H (Stb.refl H) (.bl _) m⟩
theorem op_dNe (hu : X.A.units + 64 < cLine) : OpR X (compareOp .NotEq) (upO X dNe) := by
  intro pins s σ H x y v u Q I rx ry h
  obtain ⟨d, f, M, Q0, r1, r2, m, t, q⟩ := h
  obtain ⟨x', y', h1, h2, h3, h4⟩ := dEq_out t
  obtain ⟨as, q1⟩ := asD_reads I m r1 h1 rx
  obtain ⟨bs, q2⟩ := asD_reads I m r2 h2 ry
  exact PySem.SeqAt.ne_plain q1 q2 (plain_toP _) (plain_toP _) (room_min hu h3) ⟨.bl _, H, I, rfl, q _ M h4 _ H (Stb.refl H) (.bl _) m⟩
end
/-- x < y -/
def ltD (x y : D) : Bool := PySem.W.dataLt (toP x) (toP y)
/-- they can be ordered -/
def okLt (x y : D) : Prop := PySem.W.alike (toP x) (toP y) = true ∧ toP x ≠ .none ∧ min (dep x) (dep y) ≤ 60
/-- an order's answer, by p on ints; by r from «less», «less, turned about» -/
def dOrd (p : Int → Int → Bool) (r : D → D → Bool) : OD := fun x y M Q => match x, y with
  | .int i, .int j => Q (.bl (p i j)) M
  | x, y => dat x = true ∧ dat y = true ∧ okLt x y ∧ Q (.bl (r x y)) M
def dLt : OD := dOrd (fun i j => decide (i < j)) ltD
def dGt : OD := dOrd (fun i j => decide (j < i)) fun x y => ltD y x
def dLe : OD := dOrd (fun i j => decide (i ≤ j)) fun x y => !ltD y x
def dGe : OD := dOrd (fun i j => decide (j ≤ i)) fun x y => !ltD x y
section
variable {X : Cx}
theorem op_dOrd {op : CmpOp} {p : Int → Int → Bool} {r : D → D → Bool} (hi : ∀ (i j : Int) (t u : Tok) (Q : Value → Shared → Prop) (s : Shared), Q (.bool (p i j)) s → wpAny (model X.prog X.w) X.A (compareOp op (.int i t) (.int j u)) Q X.xe s)
    (hd : ∀ (x y : D) (v u : Value) (as bs : List Addr) (Q : Value → Shared → Prop) (s : Shared), PySem.Reads s.heap v (toP x) as → PySem.Reads s.heap u (toP y) bs → okLt x y → Q (.bool (r x y)) s → wpAny (model X.prog X.w) X.A (compareOp op v u) Q X.xe s) :
    OpR X (compareOp op) (upO X (dOrd p r)) := by
  intro pins s σ H x y v u Q I rx ry h
  obtain ⟨d, f, M, Q0, r1, r2, m, t, q⟩ := h
  unfold dOrd at t
  split at t
  · cases r1
    cases r2
    obtain ⟨t1, rfl⟩ := rx
    obtain ⟨t2, rfl⟩ := ry
    exact hi _ _ _ _ _ _ ⟨.bl _, H, I, rfl, q _ M t _ H (Stb.refl H) (.bl _) m⟩
  · obtain ⟨e1, e2, e3, e4⟩ := t
    obtain ⟨as, q1⟩ := reads_of I r1 e1 rx
    obtain ⟨bs, q2⟩ := reads_of I r2 e2 ry
    exact hd _ _ _ _ _ _ _ _ q1 q2 e3 ⟨.bl _, H, I, rfl, q _ M e4 _ H (Stb.refl H) (.bl _) m⟩
theorem op_dLt (hu : X.A.units + 64 < cLine) : OpR X (compareOp .Lt) (upO X dLt) := op_dOrd (fun _ _ _ _ _ _ h => lt_int h) fun _ _ _ _ _ _ _ _ a b c h => PySem.W.lt_data a b c.1 c.2.1 (room_min hu c.2.2) h
theorem op_dLe (hu : X.A.units + 64 < cLine) : OpR X (compareOp .LtE) (upO X dLe) := op_dOrd (fun _ _ _ _ _ _ h => le_int h) fun _ _ _ _ _ _ _ _ a b c h => PySem.W.le_data a b c.1 c.2.1 (room_min hu c.2.2) h
theorem op_dGt (hu : X.A.units + 64 < cLine) : OpR X (compareOp .Gt) (upO X dGt) := op_dOrd (fun _ _ _ _ _ _ h => gt_int h) fun _ _ _ _ _ _ _ _ a b c h => PySem.W.gt_data a b c.1 c.2.1 (room_min hu c.2.2) h
theorem op_dGe (hu : X.A.units + 64 < cLine) : OpR X (compareOp .GtE) (upO X dGe) := op_dOrd (fun _ _ _ _ _ _ h => ge_int h) fun _ _ _ _ _ _ _ _ a b c h => PySem.W.ge_data a b c.1 c.2.1 (room_min hu c.2.2) h
end
/-! ### is -/
def isNon : D → Bool
  | .non => true
  | _ => false
theorem isNon_rel {K : PySem.W.Frag} {H : Hp} {d : D} {v : V} (r : RD K H d v) : decide (v = .non) = isNon d := by cases r <;> rfl
def dIs : OD := fun x y M Q => match y with
  | .non => Q (.bl (isNon x)) M
  | _ => False
def dIsNot : OD := fun x y M Q => match y with
  | .non => Q (.bl (!isNon x)) M
  | _ => False
section
variable {X : Cx}
theorem op_dIs : OpR X (compareOp .Is) (upO X dIs) := by
  intro pins s σ H x y v u Q I rx ry h
  obtain ⟨d, f, M, Q0, r1, r2, m, t, q⟩ := h
  cases r2 with
  | non =>
    have t' : Q0 (.bl (isNon d)) M := t
    refine op_isN pins s σ H x .non v u Q I rx ry ⟨rfl, ?_⟩
    rw [isNon_rel r1]
    exact q _ M t' _ H (Stb.refl H) (.bl _) m
  | _ => exact t.elim
theorem op_dIsNot : OpR X (compareOp .IsNot) (upO X dIsNot) := by
  intro pins s σ H x y v u Q I rx ry h
  obtain ⟨d, f, M, Q0, r1, r2, m, t, q⟩ := h
  cases r2 with
  | non =>
    have t' : Q0 (.bl (!isNon d)) M := t
    refine op_notN pins s σ H x .non v u Q I rx ry ⟨rfl, ?_⟩
    rw [isNon_rel r1]
    exact q _ M t' _ H (Stb.refl H) (.bl _) m
  | _ => exact t.elim
end
/-! ### arithmetic -/
def dAdd : OD := fun x y M Q => match x, y with
  | .int i, .int j => Q (.int (i + j)) M
  | .str a, .str b => a.length + b.length ≤ sizeLine ∧ Q (.str (a ++ b)) M
  | .tup a, .tup b => a.length + b.length ≤ sizeLine ∧ Q (.tup (a ++ b)) M
  | .ref a, .ref b => ∃ xs ys, M a = some (.lst xs) ∧ M b = some (.lst ys) ∧ xs.length + ys.length ≤ sizeLine ∧ ∀ p, M p = none → Q (.ref p) (up M p (.lst (xs ++ ys)))
  | _, _ => False
def dSub : OD := fun x y M Q => match x, y with
  | .int i, .int j => Q (.int (i - j)) M
  | _, _ => False
def dMul : OD := fun x y M Q => match x, y with
  | .int i, .int j => CMulW i j ∧ Q (.int (i * j)) M
  | .ref a, .int k => ∃ xs, M a = some (.lst xs) ∧ -(2 ^ 63) ≤ k ∧ k < 2 ^ 63 ∧ xs.length * k.toNat ≤ sizeLine ∧ ∀ p, M p = none → Q (.ref p) (up M p (.lst (List.replicate k.toNat xs).flatten))
  | _, _ => False
def dDiv : OD := fun x y M Q => match x, y with
  | .int i, .int j => CDivW i j ∧ Q (.int (i / j)) M
  | _, _ => False
def dMod : OD := fun x y M Q => match x, y with
  | .int i, .int j => 0 < j ∧ Q (.int (i % j)) M
  | _, _ => False
def dPow : OD := fun x y M Q => match x, y with
  | .int i, .int j => CPow i j ∧ Q (.int (i ^ j.toNat)) M
  | _, _ => False
def dAnd : OD := fun x y M Q => match x, y with
  | .int i, .int j => Q (.int (Builtin.bitAnd i j)) M
  | _, _ => False
theorem replicate_RDs {K : PySem.W.Frag} {H : Hp} {ds : List D} {vs : List V} (r : RDs K H ds vs) : ∀ n : Nat, RDs K H (List.replicate n ds).flatten (List.replicate n vs).flatten
  | 0 => .nil
  | n + 1 => by
    rw [List.replicate_succ, List.flatten_cons, List.replicate_succ, List.flatten_cons]
    exact r.append (replicate_RDs r n)
section
variable {X : Cx}
theorem op_int2 {f : Value → Value → Sem Value} {C : Int → Int → Prop} {g : Int → Int → Int} (h0 : OpR X f (rI C fun i j => .int (g i j))) {o : OD} (ho : ∀ x y M Q, o x y M Q → ∃ i j, x = .int i ∧ y = .int j ∧ C i j ∧ Q (.int (g i j)) M) : OpR X f (upO X o) := by
  intro pins s σ H x y v u Q I rx ry h
  obtain ⟨d, e, M, Q0, r1, r2, m, t, q⟩ := h
  obtain ⟨i, j, rfl, rfl, c, t⟩ := ho _ _ _ _ t
  cases r1
  cases r2
  exact h0 pins s σ H _ _ v u Q I rx ry ⟨i, j, rfl, rfl, c, q _ M t _ H (Stb.refl H) (.int _) m⟩
theorem op_dSub : OpR X (binaryOp .Sub) (upO X dSub) := op_int2 (C := fun _ _ => True) (g := fun i j => i - j) (fun pins s σ H x y v u Q I rx ry ⟨i, j, e1, e2, _, q⟩ => op_sub pins s σ H x y v u Q I rx ry ⟨i, j, e1, e2, q⟩) fun x y M Q h => by
  unfold dSub at h; split at h
  · exact ⟨_, _, rfl, rfl, trivial, h⟩
  · exact h.elim
theorem op_dDiv : OpR X (binaryOp .FloorDiv) (upO X dDiv) := op_int2 op_fdivW fun x y M Q h => by
  unfold dDiv at h; split at h
  · exact ⟨_, _, rfl, rfl, h.1, h.2⟩
  · exact h.elim
theorem op_dMod : OpR X (binaryOp .Mod) (upO X dMod) := op_int2 op_mod fun x y M Q h => by
  unfold dMod at h; split at h
  · exact ⟨_, _, rfl, rfl, h.1, h.2⟩
  · exact h.elim
theorem op_dPow : OpR X (binaryOp .Pow) (upO X dPow) := op_int2 op_pow fun x y M Q h => by
  unfold dPow at h; split at h
  · exact ⟨_, _, rfl, rfl, h.1, h.2⟩
  · exact h.elim
theorem op_dAnd : OpR X (binaryOp .BitAnd) (upO X dAnd) := op_int2 (C := fun _ _ => True) (g := fun i j => Builtin.bitAnd i j) (fun pins s σ H x y v u Q I rx ry ⟨i, j, e1, e2, _, q⟩ => op_and pins s σ H x y v u Q I rx ry ⟨i, j, e1, e2, q⟩) fun x y M Q h => by
  unfold dAnd at h; split at h
  · exact ⟨_, _, rfl, rfl, trivial, h⟩
  · exact h.elim
theorem op_dMul : OpR X (binaryOp .Mult) (upO X dMul) := by
  intro pins s σ H x y v u Q I rx ry h
  obtain ⟨d, e, M, Q0, r1, r2, m, t, q⟩ := h
  unfold dMul at t
  split at t
  · cases r1
    cases r2
    exact op_mulW pins s σ H _ _ v u Q I rx ry ⟨_, _, rfl, rfl, t.1, q _ M t.2 _ H (Stb.refl H) (.int _) m⟩
  · cases r1
    cases r2
    obtain ⟨xs, h1, h2, h3, h4, t⟩ := t
    obtain ⟨vs, hv, rv⟩ := m _ _ h1
    refine op_rep pins s σ H _ _ v u Q I rx ry ⟨_, _, vs, rfl, rfl, hv, h2, h3, by rw [← rv.length]; exact h4, fun p hp => ?_⟩
    refine q _ _ (t p (m.fresh hp)) _ _ (Stb.new hp) (.ref p) (m.new hp ⟨_, upd_same, ?_⟩)
    exact RDs.stb (Stb.new hp) (replicate_RDs rv _)
  · exact t.elim
theorem op_dAdd : OpR X (binaryOp .Add) (upO X dAdd) := by
  intro pins s σ H x y v u Q I rx ry h
  obtain ⟨d, e, M, Q0, r1, r2, m, t, q⟩ := h
  unfold dAdd at t
  split at t
  · cases r1
    cases r2
    exact op_add pins s σ H _ _ v u Q I rx ry ⟨_, _, rfl, rfl, q _ M t _ H (Stb.refl H) (.int _) m⟩
  · cases r1
    cases r2
    exact op_add_str pins s σ H _ _ v u Q I rx ry ⟨_, _, rfl, rfl, t.1, q _ M t.2 _ H (Stb.refl H) (.str _) m⟩
  · cases r1 with
    | @tup a vs _ h1 s1 =>
      cases r2 with
      | @tup b us _ h2 s2 =>
        have l1 := s1.length
        have l2 := s2.length
        obtain ⟨t1, t2⟩ := t
        cases rx
        cases ry
        obtain ⟨its, r1, p1, z1⟩ := I.tuple h1.t
        obtain ⟨its2, r2, p2, z2⟩ := I.tuple h2.t
        by_cases e : vs = []
        · subst e
          cases s1
          cases r1
          exact cat_tup0 p1 p2 ⟨.ref b, H, I, rfl, q _ M t2 _ H (Stb.refl H) (.tup h2 s2) m⟩
        · have hs : (vs ++ us).length ≤ sizeLine := by rw [List.length_append, ← l1, ← l2]; exact t1
          refine HT.cat_tup p1 p2 (fun z => e (r1.nil_iff.mp z)) (fun z => ?_) (fun z => ?_) (by rw [← r1.length, ← r2.length, ← l1, ← l2]; exact t1)
          · have eu : us = [] := r2.nil_iff.mp z
            subst eu
            cases s2
            rw [List.append_nil] at t2
            exact ⟨.ref a, H, I, rfl, q _ M t2 _ H (Stb.refl H) (.tup h1 s1) m⟩
          · have hp := I.hok.fresh (Nat.le_refl s.heap.objs.size)
            refine ⟨.ref s.heap.objs.size, _, I.laid (t' := s.toks) (o := .frz (tupO (its ++ its2)) (.tup (vs ++ us))) (fun c oc w => Heap.get?_push_of_some _ w) (Nat.le_refl _) (tup_ok (Heap.get?_push_size _ rfl) (r1.append r2) hs), rfl, ?_⟩
            exact q _ M t2 _ _ (Stb.new hp) (.tup sqN_new (RDs.stb (Stb.new hp) (s1.append s2))) (m.laid hp)
  · cases r1
    cases r2
    obtain ⟨xs, ys, h1, h2, h3, t⟩ := t
    obtain ⟨vs, hv, rv⟩ := m _ _ h1
    obtain ⟨us, hu, ru⟩ := m _ _ h2
    refine op_cat pins s σ H _ _ v u Q I rx ry ⟨_, _, vs, us, rfl, rfl, hv, hu, by rw [← rv.length, ← ru.length]; exact h3, fun p hp => ?_⟩
    exact q _ _ (t p (m.fresh hp)) _ _ (Stb.new hp) (.ref p) (m.new hp ⟨_, upd_same, RDs.stb (Stb.new hp) (rv.append ru)⟩)
  · exact t.elim
def dNeg : D → MM → QD → Prop := fun x M Q => match x with
  | .int i => Q (.int (-i)) M
  | _ => False
theorem un_dNeg : UnR X (unaryOp .USub) (upU X dNeg) := by
  intro pins s σ H x v Q I rx h
  obtain ⟨d, M, Q0, r, m, t, q⟩ := h
  unfold dNeg at t
  split at t
  · cases r
    exact un_neg pins s σ H _ v Q I rx ⟨_, rfl, q _ M t _ H (Stb.refl H) (.int _) m⟩
  · exact t.elim
end
end Fg
/-! Fg3: dicts of data. -/
namespace Fg
open PySem PySem.Spec L2
open PyProof.Rows hiding St
/-! ### tables -/
def lookK (kvs : List (D × D)) (k : NestedKey) : Option D := (kvs.find? fun p => decide (dkey p.1 = some k)).map (·.2)
def hasK (kvs : List (D × D)) (k : NestedKey) : Bool := kvs.any fun p => decide (dkey p.1 = some k)
def putKD (kvs : List (D × D)) (kd : D) (k : NestedKey) (v : D) : List (D × D) :=
  if hasK kvs k = true then kvs.map (fun p => if dkey p.1 = some k then (p.1, v) else p) else kvs ++ [(kd, v)]
structure KOk (kvs : List (D × D)) (kd : D) (k : NestedKey) : Prop where
  key : dkey kd = some k
  dp : k.depth ≤ 8
  kd : (isAt kd = true ∧ ∀ p ∈ kvs, isAt p.1 = true) ∨ (isTu kd = true ∧ ∀ p ∈ kvs, isTu p.1 = true)
theorem hasK_isSome (k : NestedKey) : ∀ kvs : List (D × D), hasK kvs k = (lookK kvs k).isSome
  | [] => rfl
  | p :: r => by
    have ih := hasK_isSome k r
    unfold hasK lookK at ih ⊢
    rw [List.any_cons, List.find?_cons]
    by_cases e : dkey p.1 = some k
    · simp [e]
    · simp only [e, decide_false, Bool.false_or]; exact ih
theorem putKD_length (kvs : List (D × D)) (kd : D) (k : NestedKey) (v : D) : (putKD kvs kd k v).length ≤ kvs.length + 1 := by
  unfold putKD
  split
  · rw [List.length_map]; omega
  · rw [List.length_append]; simp
/-! ### keys in the heap -/
section
variable {X : Cx} {pins : List (Addr × Obj)} {σ : St} {H : Hp} {s : Shared}
mutual
theorem nested_of (I : Inv X pins σ H s) : ∀ {d : D} {v : V} {u : Value} {k : NestedKey}, RD X.K H d v → dkey d = some k → RelV v u → NestedIs s.heap k u
  | _, _, _, _, .non, e, r => by cases e; cases r; exact .none
  | _, _, _, _, .bl b, e, r => by cases e
  | _, _, _, _, .int i, e, r => by cases e; obtain ⟨t, rfl⟩ := r; exact .int _ _
  | _, _, _, _, .str x, e, r => by cases e; obtain ⟨t, rfl⟩ := r; exact .text _ _
  | _, _, _, _, .ty n, e, r => by cases e
  | _, _, _, _, .rol h q, e, r => by cases e
  | _, _, _, _, .ref a, e, r => by cases e
  | _, _, _, _, .tup h q, e, r => by
    rename_i ds
    rw [dkey] at e
    obtain ⟨ks, e1, e2⟩ := Option.map_eq_some_iff.mp e
    subst e2
    cases r
    obtain ⟨its, rv, ⟨o, h1, h2, n, h3⟩, _⟩ := I.tuple (SqN.t h)
    refine .tup h1 h2 h3 ?_
    exact nesteds_of I q e1 rv
theorem nesteds_of (I : Inv X pins σ H s) : ∀ {ds : List D} {vs : List V} {us : List Value} {ks : List NestedKey}, RDs X.K H ds vs → dkeys ds = some ks → Vals vs us → NestedAll s.heap ks us
  | _, _, _, _, .nil, e, r => by cases e; cases r; exact .nil
  | _, _, _, _, .cons h q, e, r => by
    rename_i d v ds vs
    cases r with
    | cons r1 r2 =>
      unfold dkeys at e
      cases e1 : dkey d with
      | none => simp [e1] at e
      | some k =>
        cases e2 : dkeys ds with
        | none => simp [e1, e2] at e
        | some ks =>
          simp only [e1, e2, Option.some.injEq] at e
          subst e
          exact .cons (nested_of I h e1 r1) (nesteds_of I q e2 r2)
end
/-! ### the two forms of the library -/
def akey : D → Option Key
  | .int i => some (.inl i)
  | .str x => some (.inr x)
  | _ => none
def nkey : Key → NestedKey
  | .inl i => .num i
  | .inr x => .text x
theorem nkey_inj {a b : Key} (h : nkey a = nkey b) : a = b := by
  cases a <;> cases b <;> simp [nkey] at h <;> rw [h]
theorem akey_of {d : D} (h : isAt d = true) : ∃ k, akey d = some k ∧ dkey d = some (nkey k) := by
  cases d <;> first | exact ⟨_, rfl, rfl⟩ | cases h
theorem akey_dkey {d : D} {k : Key} (h : akey d = some k) : dkey d = some (nkey k) := by
  cases d <;> first | (cases h; rfl) | cases h
theorem akey_rel {K : PySem.W.Frag} {d : D} {v : V} {u : Value} {k : Key} (r : RD K H d v) (h : akey d = some k) (ru : RelV v u) : keyIs k u = true := by
  cases r <;> first
    | (cases h; obtain ⟨t, rfl⟩ := ru; exact keyIs_int _ _)
    | (cases h; obtain ⟨t, rfl⟩ := ru; exact keyIs_str _ _)
    | cases h
theorem rel_akey {K : PySem.W.Frag} {d : D} {u : Value} {k : Key} (h : akey d = some k) (e : keyIs k u = true) : ∃ y, RelV y u ∧ RD K H d y := by
  rcases keyIs_shape e with ⟨i, t, rfl, rfl⟩ | ⟨x, t, rfl, rfl⟩
  · cases d <;> first | (cases h; exact ⟨.int _, ⟨_, rfl⟩, .int _⟩) | cases h
  · cases d <;> first | (cases h; exact ⟨.str _, ⟨_, rfl⟩, .str _⟩) | cases h
theorem nkey_hash (w : World) (k : Key) : (nkey k).hash w = keyH w k := by cases k <;> rfl
theorem nkey_dep (k : Key) : (nkey k).depth = 0 := by cases k <;> rfl
def RA (K : PySem.W.Frag) (H : Hp) (p : D × D) (q : Key × Value) : Prop := akey p.1 = some q.1 ∧ ∃ y, RelV y q.2 ∧ RD K H p.2 y
def RT (w : World) (K : PySem.W.Frag) (H : Hp) (p : D × D) (x : NestedKey × Addr × Value) : Prop := dkey p.1 = some x.1 ∧ x.1.depth ≤ 8 ∧ RD K H p.1 (.ref x.2.1) ∧ ∃ y, RelV y x.2.2 ∧ RD K H p.2 y
theorem toA {P : Program} {w : World} {K : PySem.W.Frag} : ∀ {kvs : List (D × D)} {es : List DictEntry}, Paired (REn K w H) kvs es → (∀ p ∈ kvs, isAt p.1 = true) →
    ∃ vs : List (Key × Value), Pairs (mixKind P w) es vs ∧ Paired (RA K H) kvs vs ∧ ∀ e ∈ es, ∃ k, (mixKind P w).is k e.key = true ∧ e.hash = (mixKind P w).hash k
  | _, _, .nil, _ => ⟨[], .nil, .nil, fun _ h => nomatch h⟩
  | _, _, .cons h t, a => by
    rename_i p e ps es
    obtain ⟨vs, q1, q2, q3⟩ := toA (P := P) t fun p hp => a p (List.mem_cons_of_mem _ hp)
    obtain ⟨⟨k, y, hk, _, hh, ry, rd⟩, z, rz, dz⟩ := h
    obtain ⟨k', e1, e2⟩ := akey_of (a p List.mem_cons_self)
    rw [hk] at e2
    cases e2
    have ki := akey_rel rd e1 ry
    refine ⟨(k', e.val) :: vs, .cons ki rfl q1, .cons ⟨e1, z, rz, dz⟩ q2, fun e' he => ?_⟩
    rcases List.mem_cons.mp he with rfl | he
    · exact ⟨k', ki, by rw [hh, nkey_hash]; rfl⟩
    · exact q3 e' he
theorem fromA {P : Program} {w : World} {K : PySem.W.Frag} : ∀ {kvs : List (D × D)} {es : List DictEntry} {vs : List (Key × Value)}, Pairs (mixKind P w) es vs → (∀ e ∈ es, ∃ k, (mixKind P w).is k e.key = true ∧ e.hash = (mixKind P w).hash k) →
    Paired (RA K H) kvs vs → Paired (REn K w H) kvs es
  | _, _, _, .nil, _, h => by cases h; exact .nil
  | _, _, _, .cons k1 k2 t, a, h => by
    rename_i e kv es vs
    cases h with
    | @cons p _ ps _ h1 h2 =>
      obtain ⟨e1, y, ry, dy⟩ := h1
      refine .cons ⟨?_, y, by rw [k2]; exact ry, dy⟩ (fromA t (fun e he => a e (List.mem_cons_of_mem _ he)) h2)
      obtain ⟨k', j1, j2⟩ := a e List.mem_cons_self
      have ee : k' = kv.1 := (mixKind P w).inj _ _ _ j1 k1
      subst ee
      obtain ⟨z, rz, dz⟩ := rel_akey (K := K) (H := H) e1 k1
      exact ⟨_, z, akey_dkey e1, by rw [nkey_dep]; omega, by rw [j2, nkey_hash]; rfl, rz, dz⟩
theorem toT (I : Inv X pins σ H s) : ∀ {kvs : List (D × D)} {es : List DictEntry}, Paired (REn X.K X.w H) kvs es → (∀ p ∈ kvs, isTu p.1 = true) →
    ∃ xs : List (NestedKey × Addr × Value), es = xs.map (entryOfKey (nestedKind X.prog X.w)) ∧ (∀ x ∈ xs, (nestedKind X.prog X.w).is s.heap x.1 x.2.1) ∧ Paired (RT X.w X.K H) kvs xs
  | _, _, .nil, _ => ⟨[], rfl, (fun _ h => nomatch h), .nil⟩
  | _, _, .cons h t, a => by
    rename_i p e ps es
    obtain ⟨xs, q1, q2, q3⟩ := toT I t fun p hp => a p (List.mem_cons_of_mem _ hp)
    obtain ⟨⟨k, y, hk, hd, hh, ry, rd⟩, z, rz, dz⟩ := h
    obtain ⟨p1, p2⟩ := p
    have ht := a _ List.mem_cons_self
    cases rd with
    | @tup b vs ds h1 h2 =>
      have hn := nested_of I (RD.tup h1 h2) hk ry
      cases ry' : e.key with
      | ref b' =>
        rw [ry'] at ry
        have eb : b' = b := by cases ry; rfl
        subst eb
        refine ⟨(k, b', e.val) :: xs, ?_, fun x hx => ?_, .cons ⟨hk, hd, .tup h1 h2, z, rz, dz⟩ q3⟩
        · rw [List.map_cons, ← q1]
          obtain ⟨e1, e2, e3⟩ := e
          dsimp only at ry' hh
          subst ry' hh
          rfl
        · rcases List.mem_cons.mp hx with rfl | hx
          · rw [ry'] at hn; exact ⟨hn, hd⟩
          · exact q2 x hx
      | _ => rw [ry'] at ry; cases ry
    | _ => cases ht
theorem fromT {P : Program} {w : World} {K : PySem.W.Frag} : ∀ {kvs : List (D × D)} {xs : List (NestedKey × Addr × Value)}, Paired (RT w K H) kvs xs → Paired (REn K w H) kvs (xs.map (entryOfKey (nestedKind P w)))
  | _, _, .nil => .nil
  | _, _, .cons (b := x) h t => by
    obtain ⟨a, b, c, y, ry, dy⟩ := h
    exact .cons ⟨⟨x.1, .ref x.2.1, a, b, rfl, (rfl : RelV (V.ref x.2.1) (Value.ref x.2.1)), c⟩, y, ry, dy⟩ (fromT t)
theorem nodup_A {K : PySem.W.Frag} : ∀ {kvs : List (D × D)} {vs : List (Key × Value)}, Paired (RA K H) kvs vs → (kvs.map fun p => dkey p.1) = vs.map fun q => some (nkey q.1)
  | _, _, .nil => rfl
  | _, _, .cons h t => by rw [List.map_cons, List.map_cons, nodup_A t, akey_dkey h.1]
theorem nodup_T {w : World} {K : PySem.W.Frag} : ∀ {kvs : List (D × D)} {xs : List (NestedKey × Addr × Value)}, Paired (RT w K H) kvs xs → (kvs.map fun p => dkey p.1) = xs.map fun q => some q.1
  | _, _, .nil => rfl
  | _, _, .cons h t => by rw [List.map_cons, List.map_cons, nodup_T t, h.1]
theorem nodup_inj {α β : Type} (f : α → β) (hf : ∀ a b, f a = f b → a = b) : ∀ {l : List α}, (l.map f).Nodup → l.Nodup
  | [], _ => List.nodup_nil
  | a :: l, h => by
    rw [List.map_cons, List.nodup_cons] at h
    refine List.nodup_cons.mpr ⟨fun m => h.1 (List.mem_map.mpr ⟨a, m, rfl⟩), nodup_inj f hf h.2⟩
theorem inj_nodup {α β : Type} (f : α → β) (hf : ∀ a b, f a = f b → a = b) : ∀ {l : List α}, l.Nodup → (l.map f).Nodup
  | [], _ => List.nodup_nil
  | a :: l, h => by
    rw [List.nodup_cons] at h
    rw [List.map_cons, List.nodup_cons]
    refine ⟨fun m => ?_, inj_nodup f hf h.2⟩
    obtain ⟨b, hb, e⟩ := List.mem_map.mp m
    rw [hf _ _ e] at hb
    exact h.1 hb
/-- the dict at a as the library has it -/
def RawAt (s : Shared) (a : Addr) (es : List DictEntry) : Prop := ∃ o ep, s.heap.get? a = some o ∧ o.ExactDict ∧ o.data = .dict es.toArray ep
theorem dct_A (I : Inv X pins σ H s) {a : Addr} {es : List DictEntry} {kvs : List (D × D)} (h : RawAt s a es) (p : Paired (REn X.K X.w H) kvs es) (nd : (kvs.map fun p => dkey p.1).Nodup) (at_ : ∀ p ∈ kvs, isAt p.1 = true) :
    ∃ vs, s.heap.DictOf (mixKind X.prog X.w) a vs ∧ Paired (RA X.K H) kvs vs := by
  obtain ⟨o, ep, h1, h2, h3⟩ := h
  obtain ⟨vs, q1, q2, q3⟩ := toA (P := X.prog) p at_
  refine ⟨vs, ⟨o, _, ep, h1, h2, h3, fun e he => q3 e (by simpa using he), by simpa using q1, ?_⟩, q2⟩
  rw [nodup_A q2] at nd
  have e : (vs.map fun q => some (nkey q.1)) = (vs.map (·.1)).map fun k => some (nkey k) := by rw [List.map_map]; rfl
  rw [e] at nd
  exact nodup_inj _ (fun a b q => nkey_inj (Option.some.inj q)) nd
theorem dct_T (I : Inv X pins σ H s) {a : Addr} {es : List DictEntry} {kvs : List (D × D)} (h : RawAt s a es) (p : Paired (REn X.K X.w H) kvs es) (nd : (kvs.map fun p => dkey p.1).Nodup) (tu : ∀ p ∈ kvs, isTu p.1 = true) :
    ∃ xs, s.heap.DictOfH (nestedKind X.prog X.w) a xs ∧ Paired (RT X.w X.K H) kvs xs := by
  obtain ⟨o, ep, h1, h2, h3⟩ := h
  obtain ⟨xs, q1, q2, q3⟩ := toT I p tu
  refine ⟨xs, ⟨o, _, ep, h1, h2, h3, by rw [← q1], q2, ?_⟩, q3⟩
  rw [nodup_T q3] at nd
  have e : (xs.map fun q => some q.1) = (xs.map (·.1)).map fun k => some k := by rw [List.map_map]; rfl
  rw [e] at nd
  exact nodup_inj _ (fun a b q => Option.some.inj q) nd
/-! ### looking up -/
def ROp (K : PySem.W.Frag) (H : Hp) : Option D → Option Value → Prop
  | some d, some u => ∃ y, RelV y u ∧ RD K H d y
  | none, none => True
  | _, _ => False
theorem look_A {K : PySem.W.Frag} (k : Key) : ∀ {kvs : List (D × D)} {vs : List (Key × Value)}, Paired (RA K H) kvs vs → ROp K H (lookK kvs (nkey k)) (valueAt vs k)
  | _, _, .nil => trivial
  | _, _, .cons h t => by
    rename_i p q ps qs
    have ih := look_A k t
    obtain ⟨e1, y, ry, dy⟩ := h
    have e2 := akey_dkey e1
    unfold lookK valueAt at ih ⊢
    rw [List.find?_cons, List.find?_cons]
    by_cases e : q.1 = k
    · have e3 : decide (dkey p.1 = some (nkey k)) = true := decide_eq_true (by rw [e2, e])
      rw [e3, decide_eq_true e]
      exact ⟨y, ry, dy⟩
    · have e3 : decide (dkey p.1 = some (nkey k)) = false := decide_eq_false fun z => by
        rw [e2] at z; exact e (nkey_inj (Option.some.inj z))
      rw [e3, decide_eq_false e]
      exact ih
theorem look_T {w : World} {K : PySem.W.Frag} (k : NestedKey) : ∀ {kvs : List (D × D)} {xs : List (NestedKey × Addr × Value)}, Paired (RT w K H) kvs xs → ROp K H (lookK kvs k) ((atKey xs k).map (·.2))
  | _, _, .nil => trivial
  | _, _, .cons h t => by
    rename_i p q ps qs
    have ih := look_T k t
    obtain ⟨e1, _, _, y, ry, dy⟩ := h
    unfold lookK atKey at ih ⊢
    rw [List.find?_cons, List.find?_cons]
    by_cases e : q.1 = k
    · have e3 : decide (dkey p.1 = some k) = true := decide_eq_true (by rw [e1, e])
      rw [e3, decide_eq_true e]
      exact ⟨y, ry, dy⟩
    · have e3 : decide (dkey p.1 = some k) = false := decide_eq_false fun z => by
        rw [e1] at z; exact e (Option.some.inj z)
      rw [e3, decide_eq_false e]
      exact ih
theorem ROp.isSome {K : PySem.W.Frag} {o : Option D} {u : Option Value} (h : ROp K H o u) : o.isSome = u.isSome := by
  cases o <;> cases u <;> first | rfl | exact (show False from h).elim
theorem repl_A {K : PySem.W.Frag} {k : Key} {v : D} {y : V} {u : Value} (ry : RelV y u) (dy : RD K H v y) : ∀ {kvs : List (D × D)} {vs : List (Key × Value)}, Paired (RA K H) kvs vs →
    Paired (RA K H) (kvs.map fun p => if dkey p.1 = some (nkey k) then (p.1, v) else p) (vs.map fun kv => if kv.1 = k then (kv.1, u) else kv)
  | _, _, .nil => .nil
  | _, _, .cons h t => by
    rename_i p q ps qs
    rw [List.map_cons, List.map_cons]
    refine .cons ?_ (repl_A ry dy t)
    have e2 := akey_dkey h.1
    by_cases e : q.1 = k
    · rw [if_pos (by rw [e2, e]), if_pos e]; exact ⟨h.1, y, ry, dy⟩
    · rw [if_neg (fun z => by rw [e2] at z; exact e (nkey_inj (Option.some.inj z))), if_neg e]; exact h
theorem put_A {K : PySem.W.Frag} {kd : D} {k : Key} {v : D} {y : V} {u : Value} (hk : akey kd = some k) (ry : RelV y u) (dy : RD K H v y) {kvs : List (D × D)} {vs : List (Key × Value)} (h : Paired (RA K H) kvs vs) :
    Paired (RA K H) (putKD kvs kd (nkey k) v) (stored vs k u) := by
  have e : hasK kvs (nkey k) = vs.any fun kv => decide (kv.1 = k) := by
    rw [hasK_isSome, (look_A k h).isSome]
    unfold valueAt
    rw [Option.isSome_map, List.isSome_find?]
  unfold putKD stored
  rw [e]
  by_cases q : (vs.any fun kv => decide (kv.1 = k)) = true
  · rw [if_pos q, if_pos q]; exact repl_A ry dy h
  · rw [if_neg q, if_neg q]; exact Paired.snoc h ⟨hk, y, ry, dy⟩
theorem repl_T {w : World} {K : PySem.W.Frag} {k : NestedKey} {v : D} {y : V} {u : Value} (ry : RelV y u) (dy : RD K H v y) : ∀ {kvs : List (D × D)} {xs : List (NestedKey × Addr × Value)}, Paired (RT w K H) kvs xs →
    Paired (RT w K H) (kvs.map fun p => if dkey p.1 = some k then (p.1, v) else p) (xs.map (putAt k u))
  | _, _, .nil => .nil
  | _, _, .cons h t => by
    rename_i p q ps qs
    rw [List.map_cons, List.map_cons]
    refine .cons ?_ (repl_T ry dy t)
    unfold putAt
    obtain ⟨h1, h2, h3, h4⟩ := h
    by_cases e : q.1 = k
    · rw [if_pos (by rw [h1, e]), if_pos e]; exact ⟨h1, h2, h3, y, ry, dy⟩
    · rw [if_neg (fun z => by rw [h1] at z; exact e (Option.some.inj z)), if_neg e]; exact ⟨h1, h2, h3, h4⟩
theorem put_T {w : World} {K : PySem.W.Frag} {kd : D} {k : NestedKey} {b : Addr} {v : D} {y : V} {u : Value} (hk : dkey kd = some k) (hd : k.depth ≤ 8) (rk : RD K H kd (.ref b)) (ry : RelV y u) (dy : RD K H v y) {kvs : List (D × D)}
    {xs : List (NestedKey × Addr × Value)} (h : Paired (RT w K H) kvs xs) : Paired (RT w K H) (putKD kvs kd k v) (storedH xs k b u) := by
  have e : hasK kvs k = (atKey xs k).isSome := by rw [hasK_isSome, (look_T k h).isSome, Option.isSome_map]
  unfold putKD storedH
  rw [e]
  by_cases q : (atKey xs k).isSome = true
  · rw [if_pos q, if_pos q]; exact repl_T ry dy h
  · rw [if_neg q, if_neg q]; exact Paired.snoc h ⟨hk, hd, rk, y, ry, dy⟩
/-- a tuple's value is an address -/
theorem tu_ref {K : PySem.W.Frag} {d : D} {v : V} {u : Value} (r : RD K H d v) (h : isTu d = true) (ru : RelV v u) : ∃ b, v = .ref b ∧ u = .ref b := by
  cases r <;> first | (cases ru; exact ⟨_, rfl, rfl⟩) | cases h

/-! ### what is asked of a dict, by values; M a = .dct kvs gives h1 .. -/
structure DAt (X : Cx) (H : Hp) (a : Addr) (kvs : List (D × D)) (es : List DictEntry) : Prop where
  at_ : ∀ {pins : List (Addr × Obj)} {σ : St} {s : Shared}, Inv X pins σ H s → RawAt s a es
  sys : (a == sysModules) = false
  sz : kvs.length ≤ sizeLine
  un : uni kvs
  nd : (kvs.map fun p => dkey p.1).Nodup
  en : Paired (REn X.K X.w H) kvs es
theorem raw_get (I : Inv X pins σ H s) {a : Addr} {o : Obj} (h : H a = some (rawO a o)) : s.heap.get? a = some o := (I.hok a _ h).1
theorem dct_at {M : MM} (m : RMx X H M) {a : Addr} {o : Obj} {kvs : List (D × D)} (h : M a = some (.dct o kvs)) : ∃ es ep, DAt X H a kvs es ∧ H a = some (rawO a o) ∧ o.ExactDict ∧ o.data = .dict es.toArray ep := by
  obtain ⟨es, ep, h1, g1, g2, h2, h3, hu, h4, h5⟩ := m a _ h
  exact ⟨es, ep, ⟨fun I => ⟨o, ep, raw_get I h1, g1, g2⟩, h2, h3, hu, h4, h5⟩, h1, g1, g2⟩
variable {A : Around} {E : Value → Shared → Prop} {a : Addr} {kvs : List (D × D)} {es : List DictEntry} {kd : D} {k : NestedKey} {y : V} {u : Value}
theorem g_item {v : D} {Q : Value → Shared → Prop} (hu : A.units + 64 < cLine) (I : Inv X pins σ H s) (d : DAt X H a kvs es) (ok : KOk kvs kd k) (r : RD X.K H kd y) (ru : RelV y u) (hv : lookK kvs k = some v)
    (h : ∀ z u' s', Inv X pins σ H s' → RelV z u' → RD X.K H v z → Q u' s') : wpAny (model X.prog X.w) A (getItem (.ref a) u) Q E s := by
  rcases ok.kd with ⟨h1, h2⟩ | ⟨h1, h2⟩
  · obtain ⟨vs, dd, rel⟩ := dct_A I (d.at_ I) d.en d.nd h2
    obtain ⟨k', e1, e2⟩ := akey_of h1
    have ek : k = nkey k' := Option.some.inj (ok.key.symm.trans e2)
    subst ek
    have l := look_A k' rel
    rw [hv] at l
    cases q : valueAt vs k' with
    | none => rw [q] at l; exact l.elim
    | some w' =>
      rw [q] at l
      obtain ⟨z, rz, dz⟩ := l
      exact wpAny_getItem_of (akey_rel r e1 ru) dd.mapOf q (h z w' _ (I.tok _) rz dz)
  · obtain ⟨xs, dd, rel⟩ := dct_T I (d.at_ I) d.en d.nd h2
    obtain ⟨b, rfl, rfl⟩ := tu_ref r h1 ru
    have l := look_T k rel
    rw [hv] at l
    cases q : atKey xs k with
    | none => rw [q] at l; exact l.elim
    | some w' =>
      rw [q] at l
      obtain ⟨z, rz, dz⟩ := l
      exact wpAny_getItem_heap (knd := nestedKind X.prog X.w) (by show A.in1.units + 8 < cLine; show A.units + 1 + 8 < cLine; omega) ⟨nested_of I r ok.key ru, ok.dp⟩ dd q (h z _ _ (I.tok _) rz dz)
theorem g_in {Q : Value → Shared → Prop} (hu : A.units + 64 < cLine) (I : Inv X pins σ H s) (d : DAt X H a kvs es) (ok : KOk kvs kd k) (r : RD X.K H kd y) (ru : RelV y u)
    (h : ∀ s', Inv X pins σ H s' → Q (.bool (lookK kvs k).isSome) s') : wpAny (model X.prog X.w) A (compareOp .In u (.ref a)) Q E s := by
  rcases ok.kd with ⟨h1, h2⟩ | ⟨h1, h2⟩
  · obtain ⟨vs, dd, rel⟩ := dct_A I (d.at_ I) d.en d.nd h2
    obtain ⟨k', e1, e2⟩ := akey_of h1
    have ek : k = nkey k' := Option.some.inj (ok.key.symm.trans e2)
    subst ek
    rw [(look_A k' rel).isSome] at h
    exact wpAny_in_of (akey_rel r e1 ru) d.sys dd.mapOf (h _ (I.tok _))
  · obtain ⟨xs, dd, rel⟩ := dct_T I (d.at_ I) d.en d.nd h2
    obtain ⟨b, rfl, rfl⟩ := tu_ref r h1 ru
    rw [(look_T k rel).isSome, Option.isSome_map] at h
    exact wpAny_in_heap (knd := nestedKind X.prog X.w) (by show A.units + 1 + 8 < cLine; omega) ⟨nested_of I r ok.key ru, ok.dp⟩ d.sys dd (h _ (I.tok _))
theorem g_notIn {Q : Value → Shared → Prop} (hu : A.units + 64 < cLine) (I : Inv X pins σ H s) (d : DAt X H a kvs es) (ok : KOk kvs kd k) (r : RD X.K H kd y) (ru : RelV y u)
    (h : ∀ s', Inv X pins σ H s' → Q (.bool (!(lookK kvs k).isSome)) s') : wpAny (model X.prog X.w) A (compareOp .NotIn u (.ref a)) Q E s := by
  rcases ok.kd with ⟨h1, h2⟩ | ⟨h1, h2⟩
  · obtain ⟨vs, dd, rel⟩ := dct_A I (d.at_ I) d.en d.nd h2
    obtain ⟨k', e1, e2⟩ := akey_of h1
    have ek : k = nkey k' := Option.some.inj (ok.key.symm.trans e2)
    subst ek
    rw [(look_A k' rel).isSome] at h
    exact wpAny_notIn_of (akey_rel r e1 ru) d.sys dd.mapOf (h _ (I.tok _))
  · obtain ⟨xs, dd, rel⟩ := dct_T I (d.at_ I) d.en d.nd h2
    obtain ⟨b, rfl, rfl⟩ := tu_ref r h1 ru
    rw [(look_T k rel).isSome, Option.isSome_map] at h
    exact wpAny_notIn_heap (knd := nestedKind X.prog X.w) (by show A.units + 1 + 8 < cLine; omega) ⟨nested_of I r ok.key ru, ok.dp⟩ d.sys dd (h _ (I.tok _))
theorem getD_rel {o : Option D} {ou : Option Value} {e : D} {ue : Value} (l : ROp X.K H o ou) (re : ∃ z, RelV z ue ∧ RD X.K H e z) : ∃ z, RelV z (ou.getD ue) ∧ RD X.K H (o.getD e) z := by
  cases o <;> cases ou <;> first | exact re | exact l | exact (show False from l).elim
theorem g_get {e : D} {z : V} {ue : Value} {Q : Value → Shared → Prop} (hu : A.units + 64 < cLine) (I : Inv X pins σ H s) (d : DAt X H a kvs es) (ok : KOk kvs kd k) (r : RD X.K H kd y) (ru : RelV y u) (re : RD X.K H e z) (rue : RelV z ue)
    (h : ∀ z' u' s', Inv X pins σ H s' → RelV z' u' → RD X.K H ((lookK kvs k).getD e) z' → Q u' s') : wpAny (model X.prog X.w) A (call (.builtin "dict.get") [.ref a, u, ue]) Q E s := by
  rcases ok.kd with ⟨h1, h2⟩ | ⟨h1, h2⟩
  · obtain ⟨vs, dd, rel⟩ := dct_A I (d.at_ I) d.en d.nd h2
    obtain ⟨k', e1, e2⟩ := akey_of h1
    have ek : k = nkey k' := Option.some.inj (ok.key.symm.trans e2)
    subst ek
    obtain ⟨z', rz, dz⟩ := getD_rel (look_A k' rel) ⟨z, rue, re⟩
    exact call_meetsIn F.slot_dict_get dd.typeIs F.entry_dict_get (F.args_dict_get_3 _ _ _) (meets_dict_get_default (mixKind X.prog X.w) a (akey_rel r e1 ru) d.sys ue) ⟨_, dd.mapOf, h z' _ _ (I.tok _) rz dz⟩
  · obtain ⟨xs, dd, rel⟩ := dct_T I (d.at_ I) d.en d.nd h2
    obtain ⟨b, rfl, rfl⟩ := tu_ref r h1 ru
    obtain ⟨z', rz, dz⟩ := getD_rel (look_T k rel) ⟨z, rue, re⟩
    exact call_meetsIn F.slot_dict_get dd.typeIs F.entry_dict_get (F.args_dict_get_3 _ _ _) (meetsH_dict_get_default (nestedKind X.prog X.w) a b d.sys ue)
      ⟨by show A.units + 1 + 8 < cLine; omega, k, xs, ⟨nested_of I r ok.key ru, ok.dp⟩, dd, h z' _ _ (I.tok _) rz dz⟩
theorem g_get1 {Q : Value → Shared → Prop} (hu : A.units + 64 < cLine) (I : Inv X pins σ H s) (d : DAt X H a kvs es) (ok : KOk kvs kd k) (r : RD X.K H kd y) (ru : RelV y u)
    (h : ∀ z' u' s', Inv X pins σ H s' → RelV z' u' → RD X.K H ((lookK kvs k).getD .non) z' → Q u' s') : wpAny (model X.prog X.w) A (call (.builtin "dict.get") [.ref a, u]) Q E s := by
  rcases ok.kd with ⟨h1, h2⟩ | ⟨h1, h2⟩
  · obtain ⟨vs, dd, rel⟩ := dct_A I (d.at_ I) d.en d.nd h2
    obtain ⟨k', e1, e2⟩ := akey_of h1
    have ek : k = nkey k' := Option.some.inj (ok.key.symm.trans e2)
    subst ek
    obtain ⟨z', rz, dz⟩ := getD_rel (look_A k' rel) ⟨.non, (rfl : RelV V.non Value.none), RD.non⟩
    exact call_meetsIn F.slot_dict_get dd.typeIs F.entry_dict_get (F.args_dict_get_2 _ _) (meets_dict_get (mixKind X.prog X.w) a (akey_rel r e1 ru) d.sys) ⟨_, dd.mapOf, h z' _ _ (I.tok _) rz dz⟩
  · obtain ⟨xs, dd, rel⟩ := dct_T I (d.at_ I) d.en d.nd h2
    obtain ⟨b, rfl, rfl⟩ := tu_ref r h1 ru
    obtain ⟨z', rz, dz⟩ := getD_rel (look_T k rel) ⟨.non, (rfl : RelV V.non Value.none), RD.non⟩
    exact call_meetsIn F.slot_dict_get dd.typeIs F.entry_dict_get (F.args_dict_get_2 _ _) (meetsH_dict_get (nestedKind X.prog X.w) a b d.sys)
      ⟨by show A.units + 1 + 8 < cLine; omega, k, xs, ⟨nested_of I r ok.key ru, ok.dp⟩, dd, h z' _ _ (I.tok _) rz dz⟩
/-- a dict's object, new -/
theorem raw_ok {P : Program} {w : World} {H' : Hp} {h' : Heap} {o : Obj} (h1 : h'.get? a = some o) : ObjOk P w H' h' a (rawO a o) :=
  ⟨h1, ⟨o, h1⟩, fun g1 g2 e k => k _ e⟩
theorem g_set {v : D} {z : V} {uv : Value} {Q : Unit → Shared → Prop} {o : Obj} (hu : A.units + 64 < cLine) (I : Inv X pins σ H s) (d : DAt X H a kvs es) (hH : H a = some (rawO a o)) (ok : KOk kvs kd k) (hz : kvs.length < sizeLine) (r : RD X.K H kd y) (ru : RelV y u) (rv : RD X.K H v z) (rvu : RelV z uv)
    (h : ∀ o' es' ep' s', Inv X pins σ (upd H a (rawO a o')) s' → o'.ExactDict → o'.data = .dict es'.toArray ep' → Paired (REn X.K X.w H) (putKD kvs kd k v) es' → Q () s') : wpAny (model X.prog X.w) A (setItem (.ref a) u uv) Q E s := by
  rcases ok.kd with ⟨h1, h2⟩ | ⟨h1, h2⟩
  · obtain ⟨vs, dd, rel⟩ := dct_A I (d.at_ I) d.en d.nd h2
    obtain ⟨k', e1, e2⟩ := akey_of h1
    have ek : k = nkey k' := Option.some.inj (ok.key.symm.trans e2)
    subst ek
    refine wpAny_setItem_pairs (hsz := by rw [← Paired.length rel]; omega) (akey_rel r e1 ru) dd fun h' dd' hs => ?_
    obtain ⟨o, es', ep, g1, g2, g3, g4, g5, g6⟩ := dd'
    exact h o es'.toList ep _ (d_write (t' := _) I (by rw [hH]; trivial) hs ⟨o, g1⟩ (raw_ok g1)) g2 (by rw [g3]) (fromA g5 (fun e he => g4 e (by simpa using he)) (put_A e1 rvu rv rel))
  · obtain ⟨xs, dd, rel⟩ := dct_T I (d.at_ I) d.en d.nd h2
    obtain ⟨b, rfl, rfl⟩ := tu_ref r h1 ru
    refine wpAny_setItem_heap (knd := nestedKind X.prog X.w) (hsz := by rw [← Paired.length rel]; omega) (by show A.units + 1 + 8 < cLine; omega) ⟨nested_of I r ok.key ru, ok.dp⟩ dd fun h' dd' hs => ?_
    obtain ⟨o, es', ep, g1, g2, g3, g4, g5, g6⟩ := dd'
    refine h o es'.toList ep _ (d_write (t' := _) I (by rw [hH]; trivial) hs ⟨o, g1⟩ (raw_ok g1)) g2 (by rw [g3]) ?_
    rw [g4]
    exact fromT (put_T ok.key ok.dp r rvu rv rel)
end
/-- the keys stay unlike -/
theorem put_nodup {kvs : List (D × D)} {kd : D} {k : NestedKey} {v : D} (hk : dkey kd = some k) (nd : (kvs.map fun p => dkey p.1).Nodup) : ((putKD kvs kd k v).map fun p => dkey p.1).Nodup := by
  unfold putKD
  by_cases q : hasK kvs k = true
  · rw [if_pos q, List.map_map]
    have e : ((fun p : D × D => dkey p.1) ∘ fun p => if dkey p.1 = some k then (p.1, v) else p) = fun p => dkey p.1 := by
      funext p
      show dkey (if dkey p.1 = some k then (p.1, v) else p).1 = dkey p.1
      split <;> rfl
    rw [e]; exact nd
  · rw [if_neg q, List.map_append, List.map_cons, List.map_nil]
    refine List.nodup_append.mpr ⟨nd, by simp, fun a ha b hb => ?_⟩
    rw [List.mem_singleton] at hb
    subst hb
    intro e
    obtain ⟨p, hp, e2⟩ := List.mem_map.mp ha
    refine q (List.any_eq_true.mpr ⟨p, hp, decide_eq_true ?_⟩)
    rw [e2, e, hk]
theorem put_mem {kvs : List (D × D)} {kd : D} {k : NestedKey} {v : D} {p : D × D} (h : p ∈ putKD kvs kd k v) : p.1 = kd ∨ ∃ q ∈ kvs, q.1 = p.1 := by
  unfold putKD at h
  by_cases q : hasK kvs k = true
  · rw [if_pos q] at h
    obtain ⟨r, hr, e⟩ := List.mem_map.mp h
    refine .inr ⟨r, hr, ?_⟩
    subst e
    split <;> rfl
  · rw [if_neg q] at h
    rcases List.mem_append.mp h with h | h
    · exact .inr ⟨p, h, rfl⟩
    · rw [List.mem_singleton] at h
      subst h
      exact .inl rfl
theorem put_uni {kvs : List (D × D)} {kd : D} {k : NestedKey} {v : D} (ok : KOk kvs kd k) : uni (putKD kvs kd k v) := by
  rcases ok.kd with ⟨h1, h2⟩ | ⟨h1, h2⟩
  · refine .inl fun p hp => ?_
    rcases put_mem hp with e | ⟨q, hq, e⟩
    · rw [e]; exact h1
    · rw [← e]; exact h2 q hq
  · refine .inr fun p hp => ?_
    rcases put_mem hp with e | ⟨q, hq, e⟩
    · rw [e]; exact h1
    · rw [← e]; exact h2 q hq
end Fg
/-! Fg4: items, slices, membership, built-in calls and methods over data. -/
namespace Fg
open PySem PySem.Spec L2
open PyProof.Rows hiding St
/-! ### items -/
def dIx : OD := fun x y M Q => match x with
  | .tup ds => ∃ i v, y = .int i ∧ atI ds i = some v ∧ Q v M
  | .rol ds => ∃ i v, y = .int i ∧ atI ds i = some v ∧ Q v M
  | .str z => ∃ i c, y = .int i ∧ z.length ≤ sizeLine ∧ atI z.cps.toList i = some c ∧ Q (.str ⟨#[c]⟩) M
  | .ref a => match M a with
    | some (.lst ds) => ∃ i v, y = .int i ∧ atI ds i = some v ∧ Q v M
    | some (.dct _ kvs) => ∃ k v, KOk kvs y k ∧ lookK kvs k = some v ∧ Q v M
    | _ => False
  | _ => False
theorem RDs.at {K : PySem.W.Frag} {H : Hp} {ds : List D} {vs : List V} (r : RDs K H ds vs) {i : Int} {d : D} (h : atI ds i = some d) : ∃ v, atI vs i = some v ∧ RD K H d v := by
  unfold atI at h ⊢
  rw [← r.length]
  cases e : ixN ds.length i with
  | none => rw [e] at h; cases h
  | some j =>
    rw [e] at h
    exact r.get h
section
variable {X : Cx}
theorem ix_dIx (hu : X.A.units + 64 < cLine) : IxR X (upO X dIx) := by
  intro value slice pins s σ H x y v u Q I rx ry h hs
  obtain ⟨d, f, M, Q0, r1, r2, m, t, q⟩ := h
  unfold dIx at t
  cases r1 with
  | @tup a vs ds h1 h2 =>
    obtain ⟨i, w, rfl, e, t⟩ := t
    cases r2
    obtain ⟨z, ez, dz⟩ := h2.at e
    exact ix_tup value slice pins s σ H _ _ v u Q I rx ry ⟨a, vs, i, z, rfl, rfl, h1, ez, q _ M t z H (Stb.refl H) dz m⟩ hs
  | @rol a vs ds h1 h2 =>
    obtain ⟨i, w, rfl, e, t⟩ := t
    cases r2
    obtain ⟨z, ez, dz⟩ := h2.at e
    exact ix_list value slice pins s σ H _ _ v u Q I rx ry ⟨a, vs, i, z, rfl, rfl, h1.sq, ez, q _ M t z H (Stb.refl H) dz m⟩ hs
  | str z =>
    obtain ⟨i, c, rfl, e1, e, t⟩ := t
    cases r2
    exact ix_str value slice pins s σ H _ _ v u Q I rx ry ⟨z, i, c, rfl, rfl, e1, e, q _ M t _ H (Stb.refl H) (.str _) m⟩ hs
  | ref a =>
    cases em : M a with
    | none => simp only [em] at t
    | some o =>
      cases o with
      | lst ds =>
        simp only [em] at t
        obtain ⟨i, w, rfl, e, t⟩ := t
        cases r2
        obtain ⟨vs, h1, h2⟩ := m a _ em
        obtain ⟨z, ez, dz⟩ := h2.at e
        exact ix_list value slice pins s σ H _ _ v u Q I rx ry ⟨a, vs, i, z, rfl, rfl, SqL.of h1, ez, q _ M t z H (Stb.refl H) dz m⟩ hs
      | dct ob kvs =>
        simp only [em] at t
        obtain ⟨k, w, ok, e, t⟩ := t
        obtain ⟨es, ep, da, hH, hx, hdd⟩ := dct_at m em
        have hT : s.TypeIs (.ref a) "dict" := let ⟨o, ep, h1, h2, _⟩ := da.at_ I; ⟨o, h1, h2.1⟩
        obtain rfl : v = Value.ref a := rx
        refine tail_any hT slot_dict_getitem.lookup (g_item hu I da ok r2 ry e fun z u' s' I' rz dz => ?_) hs
        exact ⟨z, H, I', rz, q _ M t z H (Stb.refl H) dz m⟩
      | ins _ _ => simp only [em] at t
      | xd _ _ => simp only [em] at t
  | _ => exact t.elim
end
/-! ### slices -/
def cutL (ds : List D) (lo hi : Option Int) : List D := (ds.drop (HT.sIx ds.length 0 lo)).take (HT.sIx ds.length ds.length hi - HT.sIx ds.length 0 lo)
theorem RDs.cut {K : PySem.W.Frag} {H : Hp} {ds : List D} {vs : List V} (r : RDs K H ds vs) (lo hi : Option Int) : RDs K H (cutL ds lo hi) (cutV vs lo hi) := by
  unfold cutL cutV
  rw [← r.length]
  exact (r.drop _).take _
abbrev SD := D → Option Int → Option Int → MM → QD → Prop
def dSl : SD := fun x lo hi M Q => match x with
  | .tup ds => Q (.tup (cutL ds lo hi)) M
  | .str z => z.length ≤ sizeLine ∧ Q (.str (cutS z lo hi)) M
  | x => ∃ ds, lstOf M x = some ds ∧ ∀ p, M p = none → Q (.ref p) (up M p (.lst (cutL ds lo hi)))
def upSl (X : Cx) (o : SD) : V → Option Int → Option Int → Hp → VK → Prop := fun x lo hi H Q => ∃ d M Q0, RD X.K H d x ∧ RMx X H M ∧ o d lo hi M Q0 ∧ ∀ z M', Q0 z M' → ∀ v H', Stb H H' → RD X.K H' z v → RMx X H' M' → Q v H'
theorem cut_whole {ds : List D} {lo hi : Option Int} (h : HT.sIx ds.length 0 lo = 0 ∧ HT.sIx ds.length ds.length hi = ds.length) : cutL ds lo hi = ds := by
  unfold cutL
  rw [h.1, h.2, List.drop_zero, Nat.sub_zero, List.take_length]
section
variable {X : Cx}
theorem sl_dSl : SlR X (upSl X dSl) := by
  intro pins s σ H x v vl vu lo hi sl Q I rx hs pl pu h
  obtain ⟨d, M, Q0, r, m, t, q⟩ := h
  have lists : ∀ {ds : List D}, lstOf M d = some ds → (∀ p, M p = none → Q0 (.ref p) (up M p (.lst (cutL ds lo hi)))) → ∃ T id, typeLookup (.type T) "__getitem__" = pure (some (.builtin id)) ∧ s.TypeIs v T ∧ wpAny (model X.prog X.w) X.A (getItem v (.ref sl)) (EP X pins σ Q) X.xe s := by
    intro ds e t
    obtain ⟨a, vs, rfl, h1, h2⟩ := lstOf_sq m r e
    refine sl_list pins s σ H _ v vl vu lo hi sl Q I rx hs pl pu ⟨a, vs, rfl, h1, fun p hp => ?_⟩
    exact q _ _ (t p (m.fresh hp)) _ _ (Stb.new hp) (.ref p) (m.new hp ⟨_, upd_same, RDs.stb (Stb.new hp) (h2.cut lo hi)⟩)
  unfold dSl at t
  cases r with
  | @tup a vs ds h1 h2 =>
    have t' : Q0 (.tup (cutL ds lo hi)) M := t
    cases rx
    obtain ⟨its, rv, ht, hz⟩ := I.tuple h1.t
    have hlen : its.toArray.size = vs.length := by rw [List.size_toArray]; exact rv.length.symm
    refine ⟨"tuple", _, PyProof.Rows.slot_tuple_getitem.lookup, ht.typeIs, ?_⟩
    by_cases hw : HT.sIx vs.length 0 lo = 0 ∧ HT.sIx vs.length vs.length hi = vs.length
    · rw [cut_whole (by rw [h2.length]; exact hw)] at t'
      exact getItem_tuple_whole ht hs pl pu (by rw [hlen]; exact hw) ⟨.ref a, H, I, rfl, q _ M t' _ H (Stb.refl H) (.tup h1 h2) m⟩
    · refine HT.getItem_tuple_cut ht hs pl pu (by rw [hlen]; exact hw) ?_ (by rw [hlen]; exact hz)
      rw [hlen]
      have hp := I.hok.fresh (Nat.le_refl s.heap.objs.size)
      have rc : Vals (cutV vs lo hi) ((its.drop (HT.sIx vs.length 0 lo)).take (HT.sIx vs.length vs.length hi - HT.sIx vs.length 0 lo)) := (rv.drop _).take _
      refine ⟨.ref s.heap.objs.size, _, I.laid (t' := s.toks) (fun c oc w => Heap.get?_push_of_some _ w) (Nat.le_refl _) (tup_ok (Heap.get?_push_size _ rfl) rc (Nat.le_trans (cutV_length vs lo hi) hz)), rfl, ?_⟩
      exact q _ M t' _ _ (Stb.new hp) (.tup sqN_new (RDs.stb (Stb.new hp) (h2.cut lo hi))) (m.laid hp)
  | str z =>
    exact sl_str pins s σ H _ v vl vu lo hi sl Q I rx hs pl pu ⟨z, rfl, t.1, q _ M t.2 _ H (Stb.refl H) (.str _) m⟩
  | ref a => obtain ⟨ds, e, t⟩ := t; exact lists e t
  | @rol a vs ds h1 h2 => obtain ⟨ds, e, t⟩ := t; exact lists e t
  | _ => obtain ⟨ds, e, t⟩ := t; cases e
end
/-! ### in -/
/-- one text in another -/
def inStr (i j : Str) : Bool := !(Builtin.Str.occurrences j i 0 j.length 1).isEmpty
theorem inStr_one (c : Nat) (z : Str) : inStr ⟨#[c]⟩ z = decide (c ∈ z.cps.toList) := (PySem.StrLaws.found_one z c)
def anyEq (ds : List D) (x : D) : Bool := ds.any fun y => eqD y x
def dIn : OD := fun x y M Q => match y with
  | .str j => ∃ i, x = .str i ∧ Q (.bl (inStr i j)) M
  | .tup ds => dat x = true ∧ dats ds = true ∧ min (deps ds) (dep x) ≤ 60 ∧ Q (.bl (anyEq ds x)) M
  | .rol ds => dat x = true ∧ dats ds = true ∧ min (deps ds) (dep x) ≤ 60 ∧ Q (.bl (anyEq ds x)) M
  | .ref a => match M a with
    | some (.lst ds) => dat x = true ∧ dats ds = true ∧ min (deps ds) (dep x) ≤ 60 ∧ Q (.bl (anyEq ds x)) M
    | some (.dct _ kvs) => ∃ k, KOk kvs x k ∧ Q (.bl (lookK kvs k).isSome) M
    | _ => False
  | _ => False
def dNotIn : OD := fun x y M Q => dIn x y M fun z M' => match z with
  | .bl b => Q (.bl (!b)) M'
  | _ => False
theorem any_toPs (ds : List D) (x : D) : ((toPs ds).any fun y => PyData.eqv y (toP x)) = anyEq ds x := by
  rw [toPs_map, List.any_map]; rfl
section
variable {X : Cx}
theorem in_run {op : CmpOp} {g : Bool → Bool} {o : OD} (ho : ∀ x y M Q, o x y M Q → dIn x y M fun z M' => match z with
      | .bl b => Q (.bl (g b)) M'
      | _ => False)
    (hS : ∀ (i j : Str) (t u : Tok) (Q : Value → Shared → Prop) (s : Shared), Q (.bool (g (inStr i j))) s → wpAny (model X.prog X.w) X.A (compareOp op (.str i t) (.str j u)) Q X.xe s)
    (hL : ∀ {c x : Value} {xs : List PyData} {d : PyData} {as bs : List Addr} {Q : Value → Shared → Prop} {s : Shared}, PySem.Reads s.heap c (.list xs) as → PySem.Reads s.heap x d bs → PyData.plainAll xs = true → d.plain = true →
      X.A.units + 1 + min (PyData.depthAll xs) d.depth < cLine → Q (.bool (g (xs.any fun y => PyData.eqv y d))) s → wpAny (model X.prog X.w) X.A (compareOp op x c) Q X.xe s)
    (hT : ∀ {c x : Value} {xs : List PyData} {d : PyData} {as bs : List Addr} {Q : Value → Shared → Prop} {s : Shared}, PySem.Reads s.heap c (.tuple xs) as → PySem.Reads s.heap x d bs → PyData.plainAll xs = true → d.plain = true →
      X.A.units + 1 + min (PyData.depthAll xs) d.depth < cLine → Q (.bool (g (xs.any fun y => PyData.eqv y d))) s → wpAny (model X.prog X.w) X.A (compareOp op x c) Q X.xe s)
    (hD : ∀ {pins : List (Addr × Obj)} {σ : St} {H : Hp} {s : Shared} {a : Addr} {kvs : List (D × D)} {es : List DictEntry} {kd : D} {k : NestedKey} {y : V} {u : Value} {Q : Value → Shared → Prop}, Inv X pins σ H s → DAt X H a kvs es → KOk kvs kd k → RD X.K H kd y → RelV y u →
      (∀ s', Inv X pins σ H s' → Q (.bool (g (lookK kvs k).isSome)) s') → wpAny (model X.prog X.w) X.A (compareOp op u (.ref a)) Q X.xe s)
    (hu : X.A.units + 64 < cLine) : OpR X (compareOp op) (upO X o) := by
  intro pins s σ H x y v u Q I rx ry h
  obtain ⟨d, f, M, Q0, r1, r2, m, t, q⟩ := h
  have t2 := ho _ _ _ _ t
  clear t
  have fin : ∀ (b : Bool) (s' : Shared), Inv X pins σ H s' → Q0 (.bl (g b)) M → EP X pins σ Q (.bool (g b)) s' := fun b s' I' z => ⟨.bl _, H, I', rfl, q _ M z _ H (Stb.refl H) (.bl _) m⟩
  have room : ∀ {ds : List D}, min (deps ds) (dep d) ≤ 60 → X.A.units + 1 + min (PyData.depthAll (toPs ds)) (toP d).depth < cLine := fun {ds} z => by
    rw [dep_toPs, dep_toP]; omega
  unfold dIn at t2
  cases r2 with
  | str j =>
    obtain ⟨i, rfl, t⟩ := t2
    cases r1
    obtain ⟨t1, rfl⟩ := rx
    obtain ⟨t2, rfl⟩ := ry
    exact hS i j _ _ _ _ (fin _ _ I t)
  | @tup a vs ds h1 h2 =>
    obtain ⟨e1, e2, e3, t⟩ := t2
    obtain ⟨as, q1⟩ := reads_of I r1 e1 rx
    obtain ⟨bs, q2⟩ := reads_of I (RD.tup h1 h2) (show dat (.tup ds) = true from e2) ry
    exact hT q2 q1 (plain_toPs ds) (plain_toP d) (room e3) (by rw [any_toPs]; exact fin _ _ I t)
  | @rol a vs ds h1 h2 =>
    obtain ⟨e1, e2, e3, t⟩ := t2
    obtain ⟨as, q1⟩ := reads_of I r1 e1 rx
    obtain ⟨bs, q2⟩ := reads_of I (RD.rol h1 h2) (show dat (.rol ds) = true from e2) ry
    exact hL q2 q1 (plain_toPs ds) (plain_toP d) (room e3) (by rw [any_toPs]; exact fin _ _ I t)
  | ref a =>
    cases em : M a with
    | none => simp only [em] at t2
    | some ob =>
      cases ob with
      | lst ds =>
        simp only [em] at t2
        obtain ⟨e1, e2, e3, t⟩ := t2
        obtain ⟨as, q1⟩ := reads_of I r1 e1 rx
        obtain ⟨bs, q2⟩ := asD_reads (e := .rol ds) I m (RD.ref a) (by unfold asD; rw [lstOf_ref em]; exact if_pos e2) ry
        exact hL q2 q1 (plain_toPs ds) (plain_toP d) (room e3) (by rw [any_toPs]; exact fin _ _ I t)
      | dct ob kvs =>
        simp only [em] at t2
        obtain ⟨k, ok, t⟩ := t2
        obtain ⟨es, ep, da, hH, hx, hdd⟩ := dct_at m em
        obtain rfl : u = Value.ref a := ry
        exact hD I da ok r1 rx fun s' I' => fin _ _ I' t
      | ins _ _ => simp only [em] at t2
      | xd _ _ => simp only [em] at t2
  | _ => exact t2.elim
theorem op_dIn (hu : X.A.units + 64 < cLine) : OpR X (compareOp .In) (upO X dIn) :=
  in_run (g := fun b => b) (fun x y M Q h => by
    have e : (fun z M' => match z with
      | .bl b => Q (.bl b) M'
      | _ => False) = fun (z : D) (M' : MM) => match z with
      | .bl b => Q (.bl b) M'
      | _ => False := rfl
    unfold dIn at h ⊢
    cases y with
    | ref a =>
      cases em : M a with
      | none => simp only [em] at h
      | some ob => cases ob <;> simp only [em] at h ⊢ <;> exact h
    | _ => exact h) (fun _ _ _ _ _ _ h => PyProof.Rows.in_str h) (fun a b c d e h => PySem.SeqAt.in_list_data a b c d e h) (fun a b c d e h => PySem.SeqAt.in_tuple_data a b c d e h) (fun I d ok r ru h => g_in hu I d ok r ru h) hu
theorem op_dNotIn (hu : X.A.units + 64 < cLine) : OpR X (compareOp .NotIn) (upO X dNotIn) :=
  in_run (g := fun b => !b) (fun x y M Q h => h) (fun _ _ _ _ _ _ h => PyProof.Rows.notIn_str h) (fun a b c d e h => PySem.SeqAt.notIn_list_data a b c d e h) (fun a b c d e h => PySem.SeqAt.notIn_tuple_data a b c d e h) (fun I d ok r ru h => g_notIn hu I d ok r ru h) hu
end
/-! ### o[i] = v -/
def dSetI (o i v : D) (M : MM) (Q : MM → Prop) : Prop := match o with
  | .ref a => match M a with
    | some (.lst ds) => ∃ k j, i = .int k ∧ ixN ds.length k = some j ∧ Q (up M a (.lst (ds.set j v)))
    | some (.dct _ kvs) => ∃ k, KOk kvs i k ∧ kvs.length < sizeLine ∧ ∀ o', Q (up M a (.dct o' (putKD kvs i k v)))
    | _ => False
  | _ => False
def upSet (X : Cx) : TSet := fun o i v H Q => ∃ od id vd M Q0, RD X.K H od o ∧ RD X.K H id i ∧ RD X.K H vd v ∧ RMx X H M ∧ dSetI od id vd M Q0 ∧ ∀ M', Q0 M' → ∀ H', Stb H H' → RMx X H' M' → Q H'
theorem set_dSetI {X : Cx} (hu : X.A.units + 64 < cLine) : PSet X (upSet X) := by
  intro pins s σ H o i v ov iv u Q I ro ri rv h
  obtain ⟨od, id, vd, M, Q0, r1, r2, r3, m, t, q⟩ := h
  unfold dSetI at t
  cases r1 with
  | ref a =>
    cases em : M a with
    | none => simp only [em] at t
    | some ob =>
      cases ob with
      | lst ds =>
        simp only [em] at t
        obtain ⟨k, j, rfl, e, t⟩ := t
        cases r2
        obtain ⟨vs, h1, h2⟩ := m a _ em
        refine set_list pins s σ H _ _ _ ov iv u Q I ro ri rv ⟨a, vs, k, j, rfl, rfl, h1, by rw [← h2.length]; exact e, ?_⟩
        have mu : Mut (H a) := by rw [h1]; trivial
        exact q _ t _ (Stb.mut mu) (m.mut mu ⟨_, upd_same, RDs.stb (Stb.mut mu) (h2.set r3 j)⟩)
      | dct ob kvs =>
        simp only [em] at t
        obtain ⟨k, ok, hz, t⟩ := t
        obtain ⟨es, ep, da, hH, hx, hdd⟩ := dct_at m em
        obtain rfl : ov = Value.ref a := ro
        refine g_set hu I da hH ok hz r2 ri r3 rv fun o' es' ep' s' I' x1 x2 p => ⟨_, I', ?_⟩
        have mu : Mut (H a) := by rw [hH]; trivial
        refine q _ (t o') _ (Stb.mut mu) (m.mut mu ⟨es', ep', upd_same, x1, x2, da.sys, ?_, put_uni ok, put_nodup ok.key da.nd, Paired.mapP p fun _ _ z => z.stb (Stb.mut mu)⟩)
        exact Nat.le_trans (putKD_length kvs id k vd) hz
      | ins _ _ => simp only [em] at t
      | xd _ _ => simp only [em] at t
  | _ => exact t.elim
/-! ### built-in calls -/
def cAbs : CD := fun xs M Q => ∃ i, xs = [.int i] ∧ Q (.int (if i < 0 then -i else i)) M
def cMax : CD := fun xs M Q => ∃ i j, xs = [.int i, .int j] ∧ Q (.int (if j > i then j else i)) M
def cMin : CD := fun xs M Q => ∃ i j, xs = [.int i, .int j] ∧ Q (.int (if j < i then j else i)) M
def cInt : CD := fun xs M Q => match xs with
  | [.int i] => Q (.int i) M
  | [.bl k] => Q (.int (if k then 1 else 0)) M
  | [.str a] => ∃ n, PySem.intText? a = some n ∧ a.length ≤ 640 ∧ Q (.int n) M
  | _ => False
def cStr : CD := fun xs M Q => match xs with
  | [.int i] => i.natAbs.log2 < 1920 ∧ Q (.str (toString i)) M
  | [.str a] => Q (.str a) M
  | _ => False
/-- how many -/
def lenD (M : MM) : D → Option Nat
  | .tup ds => some ds.length
  | .rol ds => some ds.length
  | .str z => if z.length ≤ sizeLine then some z.length else none
  | .ref a => match M a with
    | some (.lst ds) => some ds.length
    | some (.dct _ kvs) => some kvs.length
    | _ => none
  | _ => none
def cLen : CD := fun xs M Q => ∃ x n, xs = [x] ∧ lenD M x = some n ∧ Q (.int n) M
/-- what is walked: the items -/
def itemsOf (M : MM) : D → Option (List D)
  | .tup ds => some ds
  | .rol ds => some ds
  | .ref a => match M a with
    | some (.lst ds) => some ds
    | _ => none
  | _ => none
def cList : CD := fun xs M Q => ∃ x ds, xs = [x] ∧ itemsOf M x = some ds ∧ ∀ p, M p = none → Q (.ref p) (up M p (.lst ds))
def cTuple : CD := fun xs M Q => ∃ x ds, xs = [x] ∧ itemsOf M x = some ds ∧ Q (.tup ds) M
def cAll : CD := fun xs M Q => ∃ (x : D) (bs : List Bool), xs = [x] ∧ lstOf M x = some (bs.map D.bl) ∧ Q (.bl (bs.all id)) M
def cAny : CD := fun xs M Q => ∃ (x : D) (bs : List Bool), xs = [x] ∧ lstOf M x = some (bs.map D.bl) ∧ Q (.bl (bs.any id)) M
def cSum : CD := fun xs M Q => ∃ (x : D) (ns : List Int), xs = [x] ∧ lstOf M x = some (ns.map D.int) ∧ Q (.int ns.sum) M
/-- the type of a value -/
def tyOf (M : MM) : D → Option String
  | .non => some "NoneType"
  | .bl _ => some "bool"
  | .int _ => some "int"
  | .str _ => some "str"
  | .tup _ => some "tuple"
  | .rol _ => some "list"
  | .ref a => match M a with
    | some (.lst _) => some "list"
    | _ => none
  | .ty _ => none
def isTy (t n : String) : Bool := decide (t = n) || (decide (t = "bool") && decide (n = "int"))
def knownTy (n : String) : Bool := decide (n = "int") || (decide (n = "bool") || (decide (n = "str") || (decide (n = "list") || decide (n = "tuple"))))
theorem kit_known {t n : String} {M : MM} {d : D} (h : tyOf M d = some t) (hn : knownTy n = true) : kitB t n = some (isTy t n) := by
  have ht : t = "NoneType" ∨ t = "bool" ∨ t = "int" ∨ t = "str" ∨ t = "tuple" ∨ t = "list" := by
    cases d with
    | ref a =>
      unfold tyOf at h
      cases em : M a with
      | none => simp only [em] at h; cases h
      | some o => cases o <;> simp only [em] at h <;> first | (injection h with h; subst h; simp) | cases h
    | ty n => cases h
    | _ => injection h with h; subst h; simp
  have hn' : n = "int" ∨ n = "bool" ∨ n = "str" ∨ n = "list" ∨ n = "tuple" := by simpa [knownTy] using hn
  rcases ht with rfl | rfl | rfl | rfl | rfl | rfl <;> rcases hn' with rfl | rfl | rfl | rfl | rfl <;> decide +kernel
def cIsi : CD := fun xs M Q => match xs with
  | [x, .ty n] => knownTy n = true ∧ ∃ t, tyOf M x = some t ∧ Q (.bl (isTy t n)) M
  | _ => False
section
variable {X : Cx}
theorem tyx_of {H : Hp} {M : MM} (m : RMx X H M) {d : D} {v : V} {t : String} (r : RD X.K H d v) (h : tyOf M d = some t) : TyX X.K H v (.type t) := by
  cases r with
  | non => cases h; exact .base .non
  | bl b => cases h; exact .base (.bl b)
  | int i => cases h; exact .base (.int i)
  | str x => cases h; exact .base (.str x)
  | ty n => cases h
  | @tup a vs ds h1 h2 =>
    cases h
    rcases h1 with ⟨o, h1, _⟩ | ⟨o, its, n, h1, h2, _⟩
    · exact .fTuple h1
    · exact .kTuple h1 h2
  | @rol a vs ds h1 h2 =>
    cases h
    rcases h1 with ⟨o, h1⟩ | ⟨o, its, n, h1, h2, _⟩
    · exact .base (.frz h1)
    · exact .kList h1 h2
  | ref a =>
    unfold tyOf at h
    cases em : M a with
    | none => simp only [em] at h; cases h
    | some o =>
      cases o with
      | lst ds =>
        simp only [em] at h
        cases h
        obtain ⟨vs, h1, h2⟩ := m a _ em
        exact .base (.lst h1)
      | _ => simp only [em] at h; cases h
theorem call_up {f : Value} {o : CD} (h : ∀ (pins : List (Addr × Obj)) (s : Shared) (σ : St) (H : Hp) (M : MM) (ds : List D) (xs : List V) (us : List Value) (Q : VK) (Q0 : QD), Inv X pins σ H s → RMx X H M → RDs X.K H ds xs → Vals xs us → o ds M Q0 →
    (∀ z M', Q0 z M' → ∀ v H', Stb H H' → RD X.K H' z v → RMx X H' M' → Q v H') → wpAny (model X.prog X.w) X.A (call f us) (EP X pins σ Q) X.xe s) : CallR X f (upC X o) := by
  intro pins s σ H xs us Q I rv ⟨ds, M, Q0, rd, m, t, q⟩
  exact h pins s σ H M ds xs us Q Q0 I m rd rv t q
theorem rds1 {H : Hp} {x : D} {vs : List V} (r : RDs X.K H [x] vs) : ∃ v, vs = [v] ∧ RD X.K H x v := by
  cases r with
  | cons h t => cases t; exact ⟨_, rfl, h⟩
theorem rds2 {H : Hp} {x y : D} {vs : List V} (r : RDs X.K H [x, y] vs) : ∃ v w, vs = [v, w] ∧ RD X.K H x v ∧ RD X.K H y w := by
  cases r with
  | cons h t =>
    obtain ⟨w, rfl, h2⟩ := rds1 t
    exact ⟨_, _, rfl, h, h2⟩
theorem cr_cAbs : CallR X (.builtin "abs") (upC X cAbs) := call_up fun pins s σ H M ds xs us Q Q0 I m rd rv ⟨i, e, t⟩ q => by
  subst e
  obtain ⟨v, rfl, h⟩ := rds1 rd
  cases h
  exact call_abs pins s σ H _ us Q I rv ⟨i, rfl, q _ M t _ H (Stb.refl H) (.int _) m⟩
theorem cr_cMax (hc : X.calm = true) : CallR X (.builtin "max") (upC X cMax) := call_up fun pins s σ H M ds xs us Q Q0 I m rd rv ⟨i, j, e, t⟩ q => by
  subst e
  obtain ⟨v, w, rfl, h, h2⟩ := rds2 rd
  cases h
  cases h2
  exact call_max2 hc pins s σ H _ us Q I rv ⟨i, j, rfl, q _ M t _ H (Stb.refl H) (.int _) m⟩
theorem cr_cMin (hc : X.calm = true) : CallR X (.builtin "min") (upC X cMin) := call_up fun pins s σ H M ds xs us Q Q0 I m rd rv ⟨i, j, e, t⟩ q => by
  subst e
  obtain ⟨v, w, rfl, h, h2⟩ := rds2 rd
  cases h
  cases h2
  exact call_min2 hc pins s σ H _ us Q I rv ⟨i, j, rfl, q _ M t _ H (Stb.refl H) (.int _) m⟩
theorem cr_cInt : CallR X (.type "int") (upC X cInt) := call_up fun pins s σ H M ds xs us Q Q0 I m rd rv t q => by
  unfold cInt at t
  split at t
  · obtain ⟨v, rfl, h⟩ := rds1 rd
    cases h
    exact call_int1 pins s σ H _ us Q I rv (.inl ⟨_, rfl, q _ M t _ H (Stb.refl H) (.int _) m⟩)
  · obtain ⟨v, rfl, h⟩ := rds1 rd
    cases h
    exact call_int1 pins s σ H _ us Q I rv (.inr ⟨_, rfl, q _ M t _ H (Stb.refl H) (.int _) m⟩)
  · obtain ⟨v, rfl, h⟩ := rds1 rd
    cases h
    obtain ⟨n, e1, e2, t⟩ := t
    exact call_int_str pins s σ H _ us Q I rv ⟨_, n, rfl, e1, e2, q _ M t _ H (Stb.refl H) (.int _) m⟩
  · exact t.elim
theorem cr_cStr : CallR X (.type "str") (upC X cStr) := call_up fun pins s σ H M ds xs us Q Q0 I m rd rv t q => by
  unfold cStr at t
  split at t
  · obtain ⟨v, rfl, h⟩ := rds1 rd
    cases h
    exact call_str_int pins s σ H _ us Q I rv ⟨_, rfl, t.1, q _ M t.2 _ H (Stb.refl H) (.str _) m⟩
  · obtain ⟨v, rfl, h⟩ := rds1 rd
    cases h
    exact SkE.call_str_str pins s σ H _ us Q I rv ⟨_, rfl, q _ M t _ H (Stb.refl H) (.str _) m⟩
  · exact t.elim
theorem g_len {pins : List (Addr × Obj)} {σ : St} {H : Hp} {s : Shared} {a : Addr} {kvs : List (D × D)} {es : List DictEntry} {A : Around} {E : Value → Shared → Prop} {Q : Value → Shared → Prop} (I : Inv X pins σ H s) (d : DAt X H a kvs es) (h : ∀ t s', Inv X pins σ H s' → Q (.int kvs.length t) s') :
    wpAny (model X.prog X.w) A (call (.builtin "len") [.ref a]) Q E s := by
  have hz := d.sz
  rw [sizeLine_eq] at hz
  rcases d.un with hk | hk
  · obtain ⟨vs, dd, rel⟩ := dct_A I (d.at_ I) d.en d.nd hk
    have hl := Paired.length rel
    refine PySem.call_len_dict d.sys dd (by omega) ?_
    rw [← hl]
    exact h _ _ (I.tok _)
  · obtain ⟨xs, dd, rel⟩ := dct_T I (d.at_ I) d.en d.nd hk
    have hl := Paired.length rel
    refine PySem.call_len_dictH d.sys dd (by omega) ?_
    rw [← hl]
    exact h _ _ (I.tok _)
theorem cr_cLen : CallR X (.builtin "len") (upC X cLen) := call_up fun pins s σ H M ds xs us Q Q0 I m rd rv ⟨x, n, e, hn, t⟩ q => by
  subst e
  obtain ⟨v, rfl, h⟩ := rds1 rd
  have fin : ∀ k : Nat, LenV X.K v H k → k = n → wpAny (model X.prog X.w) X.A (call (.builtin "len") us) (EP X pins σ Q) X.xe s := fun k hk e => by
    subst e
    exact call_len pins s σ H _ us Q I rv ⟨v, k, rfl, hk, q _ M t _ H (Stb.refl H) (.int _) m⟩
  cases h with
  | @tup a vs ds h1 h2 => cases hn; exact fin vs.length (.inr ⟨_, h1, rfl⟩) h2.length.symm
  | @rol a vs ds h1 h2 => cases hn; exact fin vs.length (.inl ⟨_, h1.sq, rfl⟩) h2.length.symm
  | str z =>
    by_cases hz : z.length ≤ sizeLine
    · simp only [lenD, if_pos hz] at hn
      cases hn
      exact fin z.length ⟨hz, rfl⟩ rfl
    · simp only [lenD, if_neg hz] at hn; cases hn
  | ref a =>
    unfold lenD at hn
    cases em : M a with
    | none => simp only [em] at hn; cases hn
    | some o =>
      cases o with
      | lst ds =>
        simp only [em] at hn
        cases hn
        obtain ⟨vs, h1, h2⟩ := m a _ em
        exact fin vs.length (.inl ⟨_, SqL.of h1, rfl⟩) h2.length.symm
      | dct ob kvs =>
        simp only [em] at hn
        cases hn
        obtain ⟨es, ep, da, hH, hx, hdd⟩ := dct_at m em
        obtain ⟨u, rfl, ru⟩ := vals1 rv
        obtain rfl : u = Value.ref a := ru
        exact g_len I da fun t' s' I' => ⟨.int _, H, I', ⟨_, rfl⟩, q _ M t _ H (Stb.refl H) (.int _) m⟩
      | ins _ _ => simp only [em] at hn; cases hn
      | xd _ _ => simp only [em] at hn; cases hn
  | _ => cases hn
theorem items_sq {H : Hp} {M : MM} (m : RMx X H M) {x : D} {v : V} {ds : List D} (r : RD X.K H x v) (h : itemsOf M x = some ds) : ∃ a vs, v = .ref a ∧ (SqL X.K H a vs ∨ SqN X.K H a vs) ∧ RDs X.K H ds vs := by
  cases r with
  | @tup a vs ds h1 h2 => cases h; exact ⟨a, vs, rfl, .inr h1, h2⟩
  | @rol a vs ds h1 h2 => cases h; exact ⟨a, vs, rfl, .inl h1.sq, h2⟩
  | ref a =>
    unfold itemsOf at h
    cases em : M a with
    | none => simp only [em] at h; cases h
    | some o =>
      cases o with
      | lst es =>
        simp only [em] at h
        cases h
        obtain ⟨vs, h1, h2⟩ := m a _ em
        exact ⟨a, vs, rfl, .inl (SqL.of h1), h2⟩
      | _ => simp only [em] at h; cases h
  | _ => cases h
theorem cr_cList : CallR X (.type "list") (upC X cList) := call_up fun pins s σ H M ds xs us Q Q0 I m rd rv ⟨x, es, e, hn, t⟩ q => by
  subst e
  obtain ⟨v, rfl, h⟩ := rds1 rd
  obtain ⟨a, vs, rfl, h1, h2⟩ := items_sq m h hn
  refine call_list_of pins s σ H _ us Q I rv ⟨a, vs, rfl, h1.imp (fun h => h) SqN.t, fun p hp => ?_⟩
  exact q _ _ (t p (m.fresh hp)) _ _ (Stb.new hp) (.ref p) (m.new hp ⟨vs, upd_same, RDs.stb (Stb.new hp) h2⟩)
theorem cr_cTuple : CallR X (.type "tuple") (upC X cTuple) := call_up fun pins s σ H M ds xs us Q Q0 I m rd rv ⟨x, es, e, hn, t⟩ q => by
  subst e
  obtain ⟨v, rfl, h⟩ := rds1 rd
  obtain ⟨a, vs, rfl, h1, h2⟩ := items_sq m h hn
  rcases h1 with h1 | h1
  · obtain ⟨u, rfl, ru⟩ := vals1 rv
    cases ru
    obtain ⟨its, rw', pl, hz⟩ := I.list h1
    have hlen := rw'.length
    refine call_tuple_list pl.isList (fun h' kp => ?_) (by simp only [List.size_toArray] <;> omega)
    have J := I.kept (t' := s.toks) kp
    have hp := J.hok.fresh (Nat.le_refl h'.objs.size)
    refine ⟨.ref h'.objs.size, _, J.laid (t' := s.toks) (fun c oc w => Heap.get?_push_of_some _ w) (Nat.le_refl _) (tup_ok (Heap.get?_push_size _ rfl) rw' hz), rfl, ?_⟩
    exact q _ _ t _ _ (Stb.new hp) (.tup sqN_new (RDs.stb (Stb.new hp) h2)) (m.laid hp)
  · exact call_tuple_of pins s σ H _ us Q I rv ⟨a, vs, rfl, .inr ⟨h1, q _ _ t _ H (Stb.refl H) (.tup h1 h2) m⟩⟩
theorem cr_cAll (hc : X.calm = true) : CallR X (.builtin "all") (upC X cAll) := call_up fun pins s σ H M ds xs us Q Q0 I m rd rv ⟨x, bs, e, hn, t⟩ q => by
  subst e
  obtain ⟨v, rfl, h⟩ := rds1 rd
  obtain ⟨a, vs, rfl, h1, h2⟩ := lstOf_sq m h hn
  rw [h2.bls] at h1
  exact cr_all hc pins s σ H _ us Q I rv ⟨a, bs, rfl, h1, q _ _ t _ H (Stb.refl H) (.bl _) m⟩
theorem cr_cAny (hc : X.calm = true) : CallR X (.builtin "any") (upC X cAny) := call_up fun pins s σ H M ds xs us Q Q0 I m rd rv ⟨x, bs, e, hn, t⟩ q => by
  subst e
  obtain ⟨v, rfl, h⟩ := rds1 rd
  obtain ⟨a, vs, rfl, h1, h2⟩ := lstOf_sq m h hn
  rw [h2.bls] at h1
  exact cr_any hc pins s σ H _ us Q I rv ⟨a, bs, rfl, h1, q _ _ t _ H (Stb.refl H) (.bl _) m⟩
theorem cr_cSum (hc : X.calm = true) : CallR X (.builtin "sum") (upC X cSum) := call_up fun pins s σ H M ds xs us Q Q0 I m rd rv ⟨x, ns, e, hn, t⟩ q => by
  subst e
  obtain ⟨v, rfl, h⟩ := rds1 rd
  obtain ⟨a, vs, rfl, h1, h2⟩ := lstOf_sq m h hn
  rw [h2.intsV] at h1
  exact cr_sum hc pins s σ H _ us Q I rv ⟨a, ns, rfl, h1, q _ _ t _ H (Stb.refl H) (.int _) m⟩
theorem cr_cIsi : CallR X (.builtin "isinstance") (upC X cIsi) := call_up fun pins s σ H M ds xs us Q Q0 I m rd rv t q => by
  unfold cIsi at t
  split at t
  · obtain ⟨hk, ty, h1, t⟩ := t
    obtain ⟨v, w, rfl, r1, r2⟩ := rds2 rd
    cases r2
    exact call_isi pins s σ H _ us Q I rv ⟨v, _, _, _, _, rfl, .ty _, tyx_of m r1 h1, kit_ty (kit_known h1 hk), q _ _ t _ H (Stb.refl H) (.bl _) m⟩
  · exact t.elim
end
end Fg
/-! Fg5: tests, statements, loops, comprehensions, calls. -/
namespace Fg
open PySem PySem.Spec L2
open PyProof.Rows hiding St
/-! ### truth -/
def truD (M : MM) : D → Option Bool
  | .bl b => some b
  | .non => some false
  | .int i => some (i != 0)
  | .str x => if x.length ≤ sizeLine then some ((x.length : Int) != 0) else none
  | .tup ds => some !ds.isEmpty
  | .rol ds => some !ds.isEmpty
  | .ref a => match M a with
    | some (.lst ds) => some !ds.isEmpty
    | some (.dct _ kvs) => if kvs.all (fun p => isAt p.1) = true then some !kvs.isEmpty else none
    | _ => none
  | .ty _ => none
section
variable {X : Cx}
theorem isEmpty_rds {H : Hp} {ds : List D} {vs : List V} (r : RDs X.K H ds vs) : (!vs.isEmpty) = !ds.isEmpty := by cases r <;> rfl
theorem tru_truD : TruR X (fun x H Q => ∃ d M b, RD X.K H d x ∧ RMx X H M ∧ truD M d = some b ∧ Q b H) := by
  intro pins s σ H x v Q I rx h
  obtain ⟨d, M, b, r, m, e, q⟩ := h
  have fin : ∀ k, TruV X.K x H k → k = b → wpAny (model X.prog X.w) X.A (truthy v) (TP X pins σ Q) X.xe s := fun k hk ek => by
    subst ek
    exact tru_ok pins s σ H x v Q I rx ⟨k, hk, q⟩
  cases r with
  | non => cases e; exact fin false rfl rfl
  | bl k =>
    cases e
    cases rx
    exact wpAny_truthy_bool ⟨H, I, q⟩
  | int i => cases e; exact fin _ rfl rfl
  | str z =>
    by_cases hz : z.length ≤ sizeLine
    · simp only [truD, if_pos hz] at e
      cases e
      exact fin _ ⟨hz, rfl⟩ rfl
    · simp only [truD, if_neg hz] at e; cases e
  | ty n => cases e
  | @tup a vs ds h1 h2 => cases e; exact fin _ (.inr (.inl ⟨_, h1, rfl⟩)) (isEmpty_rds h2)
  | @rol a vs ds h1 h2 => cases e; exact fin _ (.inl ⟨_, h1.sq, rfl⟩) (isEmpty_rds h2)
  | ref a =>
    unfold truD at e
    cases em : M a with
    | none => simp only [em] at e; cases e
    | some o =>
      cases o with
      | lst ds =>
        simp only [em] at e
        cases e
        obtain ⟨vs, h1, h2⟩ := m a _ em
        exact fin _ (.inl ⟨_, SqL.of h1, rfl⟩) (isEmpty_rds h2)
      | dct ob kvs =>
        by_cases hk : kvs.all (fun p => isAt p.1) = true
        · simp only [em, if_pos hk] at e
          cases e
          obtain ⟨es, ep, da, hH, hx, hdd⟩ := dct_at m em
          obtain rfl : v = Value.ref a := rx
          have hz := da.sz
          rw [sizeLine_eq] at hz
          obtain ⟨vs, dd, rel⟩ := dct_A I (da.at_ I) da.en da.nd fun p hp => List.all_eq_true.mp hk p hp
          have hl := Paired.length rel
          refine PySem.wpAny_truthy_dict da.sys dd (by omega) ?_
          have e2 : vs.isEmpty = kvs.isEmpty := by cases rel <;> rfl
          rw [e2]
          exact ⟨H, I.tok _, q⟩
        · simp only [em, if_neg hk] at e; cases e
      | ins _ _ => simp only [em] at e; cases e
      | xd _ _ => simp only [em] at e; cases e
end

/-! ### tests -/
def wTru (wa : WE) : WB := fun ρ M Q E => wa ρ M (fun d M1 => ∃ b, truD M1 d = some b ∧ Q b M1) E
def wBl (wa : WE) : WB := fun ρ M Q E => wa ρ M (fun d M1 => match d with
  | .bl b => Q b M1
  | _ => False) E
def wAndB (a b : WB) : WB := fun ρ M Q E => a ρ M (fun k M1 => if k = true then b ρ M1 Q E else Q false M1) E
def wOrB (a b : WB) : WB := fun ρ M Q E => a ρ M (fun k M1 => if k = true then Q true M1 else b ρ M1 Q E) E
def wNotB (a : WB) : WB := fun ρ M Q E => a ρ M (fun k M1 => Q (!k) M1) E
section
variable {X : Cx} {W : WX} {e : Expr} {wa wb : WE} {ba bb : WB}
/-- what an expression's reading hands on -/
theorem upE_bl {σ : St} {H : Hp} {Q : Bool → Hp → Prop} (h : upB X W (wBl wa) σ H Q) : upE X W wa σ H (fun x H1 => ∃ k, x = .bl k ∧ Q k H1) := by
  obtain ⟨ρ, M, Q0, E0, r, m, t, q, xg⟩ := h
  refine ⟨ρ, M, _, E0, r, m, t, fun d M1 t1 y H1 s1 rd m1 => ?_, xg⟩
  cases d with
  | bl b =>
    cases rd
    exact ⟨b, rfl, q b M1 t1 H1 s1 m1⟩
  | _ => exact (show False from t1).elim
theorem ub_bl (h : PT X e (tTest (upE X W wa))) : PT X e (upB X W (wBl wa)) := h.imp fun σ H Q z => upE_bl z
/-- an expression of any kind as a test -/
theorem ub_tru (ha : PE X e (upE X W wa)) (he : ∀ whole, isTrue e X.env whole = (do let v ← whole; standAt e.pos; holding [v] (truthy v))) : PT X e (upB X W (wTru wa)) := by
  refine ⟨fun pins s σ H Q I hw => ?_⟩
  obtain ⟨ρ, M, Q0, E0, r, m, t, q, xg⟩ := hw
  refine isTrue_plain (thn (ha.run pins s σ H (fun x H1 => ∃ d M1 b, RD X.K H1 d x ∧ RMx X H1 M1 ∧ truD M1 d = some b ∧ Q b H1) I ⟨ρ, M, _, E0, r, m, t, fun d M1 t1 y H1 s1 rd m1 => ?_, xg⟩) fun v s1 hh => ?_) (he _)
  · obtain ⟨b, e1, t1⟩ := t1
    exact ⟨d, M1, b, rd, m1, e1, q b M1 t1 H1 s1 m1⟩
  · obtain ⟨x, H1, I1, r1, q1⟩ := hh
    exact tru_truD pins s1 σ H1 x v Q I1 r1 q1
theorem upB_and {σ : St} {H : Hp} {Q : Bool → Hp → Prop} (h : upB X W (wAndB ba bb) σ H Q) : tAnd (upB X W ba) (upB X W bb) σ H Q := by
  obtain ⟨ρ, M, Q0, E0, r, m, t, q, xg⟩ := h
  refine ⟨ρ, M, _, E0, r, m, t, fun k M1 t1 H1 s1 m1 => ?_, xg⟩
  cases k with
  | true => exact ⟨ρ, M1, Q0, E0, r.stb s1, m1, t1, fun b M2 t2 H2 s2 m2 => q b M2 t2 H2 (s1.trans s2) m2, xg.stb s1⟩
  | false => exact q false M1 t1 H1 s1 m1
theorem upB_or {σ : St} {H : Hp} {Q : Bool → Hp → Prop} (h : upB X W (wOrB ba bb) σ H Q) : tOr (upB X W ba) (upB X W bb) σ H Q := by
  obtain ⟨ρ, M, Q0, E0, r, m, t, q, xg⟩ := h
  refine ⟨ρ, M, _, E0, r, m, t, fun k M1 t1 H1 s1 m1 => ?_, xg⟩
  cases k with
  | false => exact ⟨ρ, M1, Q0, E0, r.stb s1, m1, t1, fun b M2 t2 H2 s2 m2 => q b M2 t2 H2 (s1.trans s2) m2, xg.stb s1⟩
  | true => exact q true M1 t1 H1 s1 m1
theorem upB_not {σ : St} {H : Hp} {Q : Bool → Hp → Prop} (h : upB X W (wNotB ba) σ H Q) : tNot (upB X W ba) σ H Q := by
  obtain ⟨ρ, M, Q0, E0, r, m, t, q, xg⟩ := h
  exact ⟨ρ, M, _, E0, r, m, t, fun k M1 t1 H1 s1 m1 => q (!k) M1 t1 H1 s1 m1, xg⟩
/-- a test's answer as a value -/
def wVal (a : WB) : WE := fun ρ M Q E => a ρ M (fun k M1 => Q (.bl k) M1) E
/-- a and b, a or b as values, by truth -/
def wAndV (wa wb : WE) : WE := fun ρ M Q E => wa ρ M (fun d M1 => ∃ k, truD M1 d = some k ∧ if k = true then wb ρ M1 Q E else Q d M1) E
def wOrV (wa wb : WE) : WE := fun ρ M Q E => wa ρ M (fun d M1 => ∃ k, truD M1 d = some k ∧ if k = true then Q d M1 else wb ρ M1 Q E) E
theorem ue_and {a b : Expr} {rest : List Expr} {pos : Pos} (ha : PE X a (upE X W wa)) (hb : PE X (.BoolOp .And (b :: rest) pos) (upE X W wb)) : PE X (.BoolOp .And (a :: b :: rest) pos) (upE X W (wAndV wa wb)) := by
  refine ⟨fun pins s σ H Q I h => ?_⟩
  obtain ⟨ρ, M, Q0, E0, r, m, t, q, xg⟩ := h
  refine BoolOp_and (thn (ha.run pins s σ H (fun x H1 => ∃ d M1 k, RD X.K H1 d x ∧ RMx X H1 M1 ∧ truD M1 d = some k ∧ (if k = true then upE X W wb σ H1 Q else Q x H1)) I ⟨ρ, M, _, E0, r, m, t, fun d M1 t1 y H1 s1 rd m1 => ?_, xg⟩) fun v s1 hh => ?_)
  · obtain ⟨k, e1, t1⟩ := t1
    refine ⟨d, M1, k, rd, m1, e1, ?_⟩
    cases k with
    | true => exact ⟨ρ, M1, Q0, E0, r.stb s1, m1, t1, fun d2 M2 t2 y2 H2 s2 rd2 m2 => q d2 M2 t2 y2 H2 (s1.trans s2) rd2 m2, xg.stb s1⟩
    | false => exact q d M1 t1 y H1 s1 rd m1
  · obtain ⟨x, H1, I1, r1, d, M1, k, rd, m1, e1, q1⟩ := hh
    refine thn (tru_truD pins s1 σ H1 x v (fun k' H2 => H2 = H1 ∧ k' = k) I1 r1 ⟨d, M1, k, rd, m1, e1, rfl, rfl⟩) fun k' s2 hk => ?_
    obtain ⟨H2, I2, rfl, rfl⟩ := hk
    cases k' with
    | true => exact hb.run pins s2 σ H2 Q I2 q1
    | false => exact ⟨x, H2, I2, r1, q1⟩
theorem ue_or {a b : Expr} {rest : List Expr} {pos : Pos} (ha : PE X a (upE X W wa)) (hb : PE X (.BoolOp .Or (b :: rest) pos) (upE X W wb)) : PE X (.BoolOp .Or (a :: b :: rest) pos) (upE X W (wOrV wa wb)) := by
  refine ⟨fun pins s σ H Q I h => ?_⟩
  obtain ⟨ρ, M, Q0, E0, r, m, t, q, xg⟩ := h
  refine BoolOp_or (thn (ha.run pins s σ H (fun x H1 => ∃ d M1 k, RD X.K H1 d x ∧ RMx X H1 M1 ∧ truD M1 d = some k ∧ (if k = true then Q x H1 else upE X W wb σ H1 Q)) I ⟨ρ, M, _, E0, r, m, t, fun d M1 t1 y H1 s1 rd m1 => ?_, xg⟩) fun v s1 hh => ?_)
  · obtain ⟨k, e1, t1⟩ := t1
    refine ⟨d, M1, k, rd, m1, e1, ?_⟩
    cases k with
    | false => exact ⟨ρ, M1, Q0, E0, r.stb s1, m1, t1, fun d2 M2 t2 y2 H2 s2 rd2 m2 => q d2 M2 t2 y2 H2 (s1.trans s2) rd2 m2, xg.stb s1⟩
    | true => exact q d M1 t1 y H1 s1 rd m1
  · obtain ⟨x, H1, I1, r1, d, M1, k, rd, m1, e1, q1⟩ := hh
    refine thn (tru_truD pins s1 σ H1 x v (fun k' H2 => H2 = H1 ∧ k' = k) I1 r1 ⟨d, M1, k, rd, m1, e1, rfl, rfl⟩) fun k' s2 hk => ?_
    obtain ⟨H2, I2, rfl, rfl⟩ := hk
    cases k' with
    | false => exact hb.run pins s2 σ H2 Q I2 q1
    | true => exact ⟨x, H2, I2, r1, q1⟩
/-- not a, as a value -/
def wNotV (wa : WE) : WE := fun ρ M Q E => wa ρ M (fun d M1 => ∃ k, truD M1 d = some k ∧ Q (.bl (!k)) M1) E
theorem ue_not {a : Expr} {pos : Pos} (ha : PE X a (upE X W wa)) : PE X (.UnaryOp .Not a pos) (upE X W (wNotV wa)) := by
  refine ⟨fun pins s σ H Q I h => ?_⟩
  obtain ⟨ρ, M, Q0, E0, r, m, t, q, xg⟩ := h
  refine UnaryOp_ (thn (ha.run pins s σ H (fun x H1 => ∃ d M1 k, RD X.K H1 d x ∧ RMx X H1 M1 ∧ truD M1 d = some k ∧ Q (.bl (!k)) H1) I ⟨ρ, M, _, E0, r, m, t, fun d M1 t1 y H1 s1 rd m1 => ?_, xg⟩) fun v s1 hh => ?_)
  · obtain ⟨k, e1, t1⟩ := t1
    exact ⟨d, M1, k, rd, m1, e1, q _ M1 t1 _ H1 s1 (.bl _) m1⟩
  · obtain ⟨x, H1, I1, r1, d, M1, k, rd, m1, e1, q1⟩ := hh
    refine not_of (thn (tru_truD pins s1 σ H1 x v (fun k' H2 => H2 = H1 ∧ k' = k) I1 r1 ⟨d, M1, k, rd, m1, e1, rfl, rfl⟩) fun k' s2 hk => ?_)
    obtain ⟨H2, I2, rfl, rfl⟩ := hk
    exact ⟨.bl (!k'), H2, I2, rfl, q1⟩
def wIte (c : WB) (wa wb : WE) : WE := fun ρ M Q E => c ρ M (fun k M1 => if k = true then wa ρ M1 Q E else wb ρ M1 Q E) E
theorem ue_ite {c a b : Expr} {pos : Pos} {wc : WB} (hc : PT X c (upB X W wc)) (ha : PE X a (upE X W wa)) (hb : PE X b (upE X W wb)) : PE X (.IfExp c a b pos) (upE X W (wIte wc wa wb)) := (pe_ifExp hc ha hb).imp fun σ H Q h => by
  obtain ⟨ρ, M, Q0, E0, r, m, t, q, xg⟩ := h
  refine ⟨ρ, M, _, E0, r, m, t, fun k M1 t1 H1 s1 m1 => ?_, xg⟩
  cases k with
  | true => exact ⟨ρ, M1, Q0, E0, r.stb s1, m1, t1, fun d2 M2 t2 y2 H2 s2 rd2 m2 => q d2 M2 t2 y2 H2 (s1.trans s2) rd2 m2, xg.stb s1⟩
  | false => exact ⟨ρ, M1, Q0, E0, r.stb s1, m1, t1, fun d2 M2 t2 y2 H2 s2 rd2 m2 => q d2 M2 t2 y2 H2 (s1.trans s2) rd2 m2, xg.stb s1⟩
/-- a chain of two comparisons -/
def wChain (o o' : OD) (wa wb wc : WE) : WE := fun ρ M Q E => wa ρ M (fun x M1 => wb ρ M1 (fun y M2 => o x y M2 fun z M3 => match z with
  | .bl k => if k = true then wc ρ M3 (fun z2 M4 => o' y z2 M4 Q) E else Q (.bl false) M3
  | _ => False) E) E
theorem ue_chain {o o' : OD} {op op' : CmpOp} {a b c : Expr} {pos : Pos} {wc : WE} (ho : OpR X (compareOp op) (upO X o)) (ho' : OpR X (compareOp op') (upO X o'))
    (h : PE X e (tChain (upO X o) (upO X o') (upE X W wa) (upE X W wb) (upE X W wc))) : PE X e (upE X W (wChain o o' wa wb wc)) := h.imp fun σ H Q h => by
  obtain ⟨ρ, M, Q0, E0, r, m, t, q, xg⟩ := h
  refine ⟨ρ, M, _, E0, r, m, t, fun d M1 t1 y H1 s1 rd m1 => ⟨ρ, M1, _, E0, r.stb s1, m1, t1, fun d2 M2 t2 y2 H2 s2 rd2 m2 => ?_, xg.stb s1⟩, xg⟩
  refine ⟨d, d2, M2, _, rd.stb s2, rd2, m2, t2, fun z M3 t3 v3 H3 s3 rz m3 => ?_⟩
  cases z with
  | bl k =>
    cases rz
    refine ⟨k, rfl, ?_⟩
    cases k with
    | true => exact ⟨ρ, M3, _, E0, ((r.stb s1).stb s2).stb s3, m3, t3, fun d4 M4 t4 y4 H4 s4 rd4 m4 => ⟨d2, d4, M4, Q0, (rd2.stb s3).stb s4, rd4, m4, t4, fun z M5 qz v5 H5 s5 rz5 m5 => q z M5 qz v5 H5 ((((s1.trans s2).trans s3).trans s4).trans s5) rz5 m5⟩, ((xg.stb s1).stb s2).stb s3⟩
    | false => exact q _ M3 t3 _ H3 ((s1.trans s2).trans s3) (.bl _) m3
  | _ => exact (show False from t3).elim
end
end Fg
/-! Fg6: statements, loops, comprehensions, calls. -/
namespace Fg
open PySem PySem.Spec L2
open PyProof.Rows hiding St
/-! ### statements -/
structure EndsD where
  nx : En → MM → Prop
  rt : QD
  bk : En → MM → Prop := fun _ _ => False
  ct : En → MM → Prop := fun _ _ => False
abbrev QS := Xn → En → MM → Prop
abbrev WS := En → MM → EndsD → QS → Prop
def Go (X : Cx) (H : Hp) (P : En → MM → Prop) (R : St → Hp → Prop) : Prop := ∀ ρ' M', P ρ' M' → ∀ σ' H', Stb H H' → RE X.K H' ρ' σ' → RMx X H' M' → R σ' H'
def XGoS (X : Cx) (W : WX) (H : Hp) (E0 : QS) : Prop := ∀ x ρ' M', E0 x ρ' M' → ∀ cls d σ' H', Stb H H' → RE X.K H' ρ' σ' → RX X.K H' M' x cls d → RMx X H' M' → W cls d σ' H'
structure GoE (X : Cx) (H : Hp) (N : EndsD) (B : Ends) : Prop where
  nx : Go X H N.nx B.nx
  rt : ∀ d M', N.rt d M' → ∀ y H', Stb H H' → RD X.K H' d y → RMx X H' M' → B.rt y H'
  bk : Go X H N.bk B.bk
  ct : Go X H N.ct B.ct
def upS (X : Cx) (W : WX) (t : WS) : TS := fun B σ H => ∃ ρ M N E0, RE X.K H ρ σ ∧ RMx X H M ∧ t ρ M N E0 ∧ GoE X H N B ∧ XGoS X W H E0
theorem Go.stb {X : Cx} {H H1 : Hp} {P : En → MM → Prop} {R : St → Hp → Prop} (h : Go X H P R) (s : Stb H H1) : Go X H1 P R := fun ρ M p σ' H' s' r m => h ρ M p σ' H' (s.trans s') r m
theorem XGoS.stb {X : Cx} {W : WX} {H H1 : Hp} {E0 : QS} (h : XGoS X W H E0) (s : Stb H H1) : XGoS X W H1 E0 := fun x ρ M p cls d σ' H' s' r x' m => h x ρ M p cls d σ' H' (s.trans s') r x' m
theorem GoE.stb {X : Cx} {H H1 : Hp} {N : EndsD} {B : Ends} (h : GoE X H N B) (s : Stb H H1) : GoE X H1 N B := ⟨h.nx.stb s, fun d M q y H' s' r m => h.rt d M q y H' (s.trans s') r m, h.bk.stb s, h.ct.stb s⟩
/-- an expression's exceptions within a statement -/
theorem XGoS.at_ {X : Cx} {W : WX} {H : Hp} {E0 : QS} {ρ : En} {σ : St} (h : XGoS X W H E0) (r : RE X.K H ρ σ) : XGo X W σ H (fun x M => E0 x ρ M) := fun x M p cls d H' s' x' m => h x ρ M p cls d σ H' s' (r.stb s') x' m
def wNext : WS := fun ρ M N _ => N.nx ρ M
def wSeq (t u : WS) : WS := fun ρ M N E => t ρ M { N with nx := fun ρ1 M1 => u ρ1 M1 N E } E
def wIfS (c : WB) (t u : WS) : WS := fun ρ M N E => c ρ M (fun k M1 => if k = true then t ρ M1 N E else u ρ M1 N E) (fun x M1 => E x ρ M1)
def wRet (w : WE) : WS := fun ρ M N E => w ρ M N.rt (fun x M1 => E x ρ M1)
def wRetN : WS := fun _ M N _ => N.rt .non M
def wBrk : WS := fun ρ M N _ => N.bk ρ M
def wCnt : WS := fun ρ M N _ => N.ct ρ M
def wDrop (w : WE) : WS := fun ρ M N E => w ρ M (fun _ M1 => N.nx ρ M1) (fun x M1 => E x ρ M1)
/-- a store -/
abbrev WG := D → En → MM → (En → MM → Prop) → QX → Prop
def wAsg (w : WE) (g : WG) : WS := fun ρ M N E => w ρ M (fun d M1 => g d ρ M1 N.nx (fun x M2 => E x ρ M2)) (fun x M1 => E x ρ M1)
/-- R: what a store leaves of the slots -/
abbrev SR := St → St → Prop
abbrev anyR : SR := fun _ _ => True
def upGR (X : Cx) (W : WX) (R : SR) (g : WG) : TG := fun v σ H Q => ∃ d ρ M Q0 E0, RD X.K H d v ∧ RE X.K H ρ σ ∧ RMx X H M ∧ g d ρ M Q0 E0 ∧ Go X H Q0 (fun σ' H' => R σ σ' → Q σ' H') ∧ XGo X W σ H E0
abbrev upG (X : Cx) (W : WX) (g : WG) : TG := upGR X W anyR g
section
variable {X : Cx} {W : WX} {st : Stmt} {rest : List Stmt} {t u : WS} {e : Expr} {w : WE} {pos : Pos}
theorem us_nil : PSs X [] (upS X W wNext) := pss_nil.imp fun B σ H ⟨ρ, M, N, E0, r, m, t, g, xg⟩ => g.nx ρ M t σ H (Stb.refl H) r m
theorem us_cons (h1 : PS X st (upS X W t)) (h2 : PSs X rest (upS X W u)) : PSs X (st :: rest) (upS X W (wSeq t u)) := (pss_cons h1 h2).imp fun B σ H ⟨ρ, M, N, E0, r, m, z, g, xg⟩ =>
  ⟨ρ, M, _, E0, r, m, z, ⟨fun ρ1 M1 z1 σ1 H1 s1 r1 m1 => ⟨ρ1, M1, N, E0, r1, m1, z1, g.stb s1, xg.stb s1⟩, g.rt, g.bk, g.ct⟩, xg⟩
theorem us_if {c : Expr} {a b : List Stmt} {wc : WB} (hc : PT X c (upB X W wc)) (ha : PSs X a (upS X W t)) (hb : PSs X b (upS X W u)) : PS X (.If c a b pos) (upS X W (wIfS wc t u)) := (ps_if hc ha hb).imp fun B σ H ⟨ρ, M, N, E0, r, m, z, g, xg⟩ => by
  refine ⟨ρ, M, _, _, r, m, z, fun k M1 z1 H1 s1 m1 => ?_, xg.at_ r⟩
  cases k with
  | true => exact ⟨ρ, M1, N, E0, r.stb s1, m1, z1, g.stb s1, xg.stb s1⟩
  | false => exact ⟨ρ, M1, N, E0, r.stb s1, m1, z1, g.stb s1, xg.stb s1⟩
theorem us_ret (he : PE X e (upE X W w)) : PS X (.Return (some e) pos) (upS X W (wRet w)) := (ps_ret he).imp fun B σ H ⟨ρ, M, N, E0, r, m, z, g, xg⟩ => ⟨ρ, M, _, _, r, m, z, g.rt, xg.at_ r⟩
theorem us_retN : PS X (.Return none pos) (upS X W wRetN) := ps_retN.imp fun B σ H ⟨ρ, M, N, E0, r, m, z, g, xg⟩ => g.rt _ M z _ H (Stb.refl H) .non m
theorem us_pass : PS X (.Pass pos) (upS X W wNext) := ps_pass.imp fun B σ H ⟨ρ, M, N, E0, r, m, z, g, xg⟩ => g.nx ρ M z σ H (Stb.refl H) r m
theorem us_brk : PS X (.Break pos) (upS X W wBrk) := ps_break.imp fun B σ H ⟨ρ, M, N, E0, r, m, z, g, xg⟩ => g.bk ρ M z σ H (Stb.refl H) r m
theorem us_cnt : PS X (.Continue pos) (upS X W wCnt) := ps_continue.imp fun B σ H ⟨ρ, M, N, E0, r, m, z, g, xg⟩ => g.ct ρ M z σ H (Stb.refl H) r m
theorem us_expr (he : PE X e (upE X W w)) (hs : swapsWith e none pos.line X.env = pure false) : PS X (.Expr e pos) (upS X W (wDrop w)) := (ps_expr he hs).imp fun B σ H ⟨ρ, M, N, E0, r, m, z, g, xg⟩ =>
  ⟨ρ, M, _, _, r, m, z, fun d M1 z1 y H1 s1 rd m1 => g.nx ρ M1 z1 σ H1 s1 (r.stb s1) m1, xg.at_ r⟩
/-! ### stores -/
def gNm (i : Nat) : WG := fun d ρ M Q _ => Q (ρ.set i (some d)) M
theorem ug_nm {R : SR} {i : Nat} {tg : Expr} (h : PG X tg (gName i)) (hR : ∀ σ v, R σ (σ.set i v)) : PG X tg (upGR X W R (gNm i)) := ⟨fun pins s σ H v u Q I rv ⟨d, ρ, M, Q0, E0, rd, r, m, z, g, xg⟩ =>
  h.run pins s σ H v u Q I rv (g _ M z _ H (Stb.refl H) (r.set rd) m (hR σ _))⟩
theorem us_asg {tg : Expr} {g : WG} (he : PE X e (upE X W w)) (hg : PG X tg (upG X W g)) (hs : swapsWithSole [tg] e pos.line X.env = pure false) (hw : swappedStores [tg] e X.env = pure none)
    (h1 : (assignEach [tg] X.env).map (·.2) = [assign tg X.env]) : PS X (.Assign [tg] e pos) (upS X W (wAsg w g)) := (ps_asg he hg hs hw h1).imp fun B σ H ⟨ρ, M, N, E0, r, m, z, g, xg⟩ =>
  ⟨ρ, M, _, _, r, m, z, fun d M1 z1 y H1 s1 rd m1 => ⟨d, ρ, M1, _, _, rd, r.stb s1, m1, z1, fun ρ2 M2 z2 σ2 H2 s2 r2 m2 _ => (g.nx.stb s1) ρ2 M2 z2 σ2 H2 s2 r2 m2, (xg.stb s1).at_ (r.stb s1)⟩, xg.at_ r⟩
theorem us_set {i : Nat} {x : Str} {pos' : Pos} (hN : X.N.Nodup) (hi : X.N[i]? = some x) (hx : Loc X.env.scope x) (he : PE X e (upE X W w)) (hs : swapsWith e (some (.Name x pos')) pos.line X.env = pure false) (hf : X.fn x = true ∨ X.env.scope.names.lookup x = some .local) :
    PS X (.Assign [.Name x pos'] e pos) (upS X W (wAsg w (gNm i))) := (ps_set hN hi hx he hs hf).imp fun B σ H ⟨ρ, M, N, E0, r, m, z, g, xg⟩ =>
  ⟨ρ, M, _, _, r, m, z, fun d M1 z1 y H1 s1 rd m1 => g.nx _ M1 z1 _ H1 s1 ((r.stb s1).set rd) m1, xg.at_ r⟩
/-- a, b = x, y -/
def wPar (i j : Nat) (wa wb : WE) : WS := fun ρ M N E => wa ρ M (fun x M1 => wb ρ M1 (fun y M2 => N.nx ((ρ.set i (some x)).set j (some y)) M2) (fun x M2 => E x ρ M2)) (fun x M1 => E x ρ M1)
theorem us_par {i j : Nat} {a b : Expr} {wa wb : WE} (h : PS X st (tPar i j (tCons (upE X W wa) (tCons (upE X W wb) tNil)))) : PS X st (upS X W (wPar i j wa wb)) := h.imp fun B σ H ⟨ρ, M, N, E0, r, m, z, g, xg⟩ =>
  ⟨ρ, M, _, _, r, m, z, fun d M1 z1 y H1 s1 rd m1 => ⟨ρ, M1, _, _, r.stb s1, m1, z1, fun d2 M2 z2 y2 H2 s2 rd2 m2 =>
    ⟨y, y2, rfl, g.nx _ M2 z2 _ H2 (s1.trans s2) ((((r.stb s1).stb s2).set (rd.stb s2)).set rd2) m2⟩, (xg.stb s1).at_ (r.stb s1)⟩, xg.at_ r⟩
/-- several names, one after another -/
def gMany : List WG → List D → En → MM → (En → MM → Prop) → QX → Prop
  | [], [], ρ, M, Q, _ => Q ρ M
  | g :: gs, d :: ds, ρ, M, Q, E => g d ρ M (fun ρ1 M1 => gMany gs ds ρ1 M1 Q E) E
  | _, _, _, _, _, _ => False
def upGs (X : Cx) (W : WX) (R : SR) (gs : List WG) : TGs := fun vs σ H Q => ∃ ds ρ M Q0 E0, RDs X.K H ds vs ∧ RE X.K H ρ σ ∧ RMx X H M ∧ gMany gs ds ρ M Q0 E0 ∧ Go X H Q0 (fun σ' H' => R σ σ' → Q σ' H') ∧ ∀ σ', XGo X W σ' H E0
theorem ugs_nil {R : SR} (hr : ∀ σ, R σ σ) : PGs X [] (upGs X W R []) := ⟨fun pins s σ H vs us Q I r ⟨ds, ρ, M, Q0, E0, rd, re, m, z, g, xg⟩ => by
  cases ds with
  | nil =>
    cases rd
    exact pgs_nil.run pins s σ H [] us Q I r ⟨rfl, g ρ M z σ H (Stb.refl H) re m (hr σ)⟩
  | cons d ds => exact (show False from z).elim⟩
theorem ugs_cons {R : SR} {es : List Expr} {g : WG} {gs : List WG} (ht : ∀ a b c, R a b → R b c → R a c) (h1 : PG X e (upGR X W R g)) (h2 : PGs X es (upGs X W R gs)) (hs : (assignEach (e :: es) X.env).map (·.2) = assign e X.env :: (assignEach es X.env).map (·.2)) : PGs X (e :: es) (upGs X W R (g :: gs)) :=
  ⟨fun pins s σ H vs us Q I r ⟨ds, ρ, M, Q0, E0, rd, re, m, z, gg, xg⟩ => by
    cases rd with
    | nil => exact (show False from z).elim
    | cons q1 q2 =>
      refine (pgs_cons h1 h2 hs).run pins s σ H _ us Q I r ⟨_, _, rfl, ⟨_, ρ, M, _, E0, q1, re, m, z, fun ρ1 M1 z1 σ1 H1 s1 r1 m1 hR => ?_, xg σ⟩⟩
      exact ⟨_, ρ1, M1, Q0, E0, q2.stb s1, r1, m1, z1, fun ρ2 M2 z2 σ2 H2 s2 r2 m2 hR2 => gg ρ2 M2 z2 σ2 H2 (s1.trans s2) r2 m2 (ht _ _ _ hR hR2), fun σ' => (xg σ').stb s1⟩⟩
/-- (a, b) = a tuple, a list; nothing that is stored into raises -/
def gTp (gs : List WG) : WG := fun d ρ M Q _ => ∃ ds, itemsOf M d = some ds ∧ ds.length = gs.length ∧ gMany gs ds ρ M Q (fun _ _ => False)
theorem ug_tp {R : SR} {es : List Expr} {k : Nat} {gs : List WG} (hc : X.calm = true) (h : PGs X es (upGs X W R gs)) (hn : (assignEach es X.env).length = gs.length) (hst : (assignEach es X.env).findIdx? (·.1) = none) :
    PG X (.Tuple es k pos) (upGR X W R (gTp gs)) := ⟨fun pins s σ H v u Q I rv ⟨d, ρ, M, Q0, E0, rd, re, m, ⟨ds, h1, h2, z⟩, g, xg⟩ => by
  obtain ⟨a, vs, rfl, hs, q⟩ := items_sq m rd h1
  have hl := q.length
  rcases hs with hs | hs
  · exact (pg_lst hc h hn hst).run pins s σ H _ u Q I rv ⟨a, vs, rfl, hs, by rw [← hl, h2], ds, ρ, M, Q0, _, q, re, m, z, g, fun _ _ _ k => k.elim⟩
  · exact (pg_tup hc h hn hst).run pins s σ H _ u Q I rv ⟨a, vs, rfl, hs, by rw [← hl, h2], ds, ρ, M, Q0, _, q, re, m, z, g, fun _ _ _ k => k.elim⟩⟩
/-- o[i] = -/
def gSubD (wo wi : WE) : WG := fun d ρ M Q E => wo ρ M (fun o M1 => wi ρ M1 (fun i M2 => dSetI o i d M2 fun M3 => Q ρ M3) E) E
theorem ug_sub {tg : Expr} {wo wi : WE} (h : PG X tg (gSub (upE X W wo) (upE X W wi) (upSet X))) : PG X tg (upG X W (gSubD wo wi)) := ⟨fun pins s σ H v u Q I rv ⟨d, ρ, M, Q0, E0, rd, re, m, z, g, xg⟩ =>
  h.run pins s σ H v u Q I rv ⟨ρ, M, _, E0, re, m, z, fun d1 M1 z1 y1 H1 s1 rd1 m1 => ⟨ρ, M1, _, E0, re.stb s1, m1, z1, fun d2 M2 z2 y2 H2 s2 rd2 m2 =>
    ⟨d1, d2, d, M2, _, rd1.stb s2, rd2, (rd.stb s1).stb s2, m2, z2, fun M3 z3 H3 s3 m3 => g ρ M3 z3 σ H3 ((s1.trans s2).trans s3) (((re.stb s1).stb s2).stb s3) m3 trivial⟩, xg.stb s1⟩, xg⟩⟩
end
/-! ### attributes -/
def fget (fs : List (Str × D)) (f : Str) : Option D := fs.lookup f
def fput (f : Str) (d : D) : List (Str × D) → List (Str × D)
  | [] => [(f, d)]
  | (g, e) :: r => if g = f then (g, d) :: r else (g, e) :: fput f d r
theorem rfl_get {K : PySem.W.Frag} {H : Hp} {f : Str} {d : D} : ∀ {fs : List (Str × D)} {vs : List (Str × V)}, RFl K H fs vs → fget fs f = some d → ∃ y, vs.lookup f = some y ∧ RD K H d y
  | _, _, .nil, e => by cases e
  | _, _, .cons (a := p) (b := q) h t, e => by
    obtain ⟨g, d'⟩ := p
    obtain ⟨g', y⟩ := q
    obtain ⟨e1, e2⟩ := h
    dsimp only at e1 e2
    subst e1
    unfold fget at e
    rw [List.lookup_cons] at e ⊢
    cases c : (f == g) with
    | true =>
      rw [c] at e
      cases e
      exact ⟨y, rfl, e2⟩
    | false =>
      rw [c] at e
      exact rfl_get t e
theorem rfl_none {K : PySem.W.Frag} {H : Hp} {f : Str} : ∀ {fs : List (Str × D)} {vs : List (Str × V)}, RFl K H fs vs → fget fs f = none → vs.lookup f = none
  | _, _, .nil, e => rfl
  | _, _, .cons (a := p) (b := q) h t, e => by
    obtain ⟨g, d'⟩ := p
    obtain ⟨g', y⟩ := q
    obtain ⟨e1, e2⟩ := h
    dsimp only at e1 e2
    subst e1
    unfold fget at e
    rw [List.lookup_cons] at e ⊢
    cases c : (f == g) with
    | true => rw [c] at e; cases e
    | false =>
      rw [c] at e
      exact rfl_none t e
theorem rfl_put {K : PySem.W.Frag} {H : Hp} {f : Str} {d : D} {y : V} (r : RD K H d y) : ∀ {fs : List (Str × D)} {vs : List (Str × V)}, RFl K H fs vs → RFl K H (fput f d fs) (putF f y vs)
  | _, _, .nil => .cons ⟨rfl, r⟩ .nil
  | _, _, .cons (a := p) (b := q) h t => by
    obtain ⟨g, d'⟩ := p
    obtain ⟨g', y'⟩ := q
    obtain ⟨e1, e2⟩ := h
    dsimp only at e1 e2
    subst e1
    unfold fput putF
    by_cases c : g = f
    · rw [if_pos c, if_pos c]; exact .cons ⟨rfl, r⟩ t
    · rw [if_neg c, if_neg c]; exact .cons ⟨rfl, e2⟩ (rfl_put r t)
theorem RFl.length {K : PySem.W.Frag} {H : Hp} {fs : List (Str × D)} {vs : List (Str × V)} (h : RFl K H fs vs) : fs.length = vs.length := Paired.length h
/-- what a class of the text must have for an attribute -/
structure AtOk (K : PySem.W.Frag) (c f : Str) : Prop where
  cls : Cls K (He.ga K c)
  no : NoAttr K (He.ga K c) f
def wAtt (c f : Str) (wo : WE) : WE := fun ρ M Q E => wo ρ M (fun o M1 => match o with
  | .ref a => ∃ fs d, M1 a = some (.ins c fs) ∧ fget fs f = some d ∧ Q d M1
  | _ => False) E
def gAtt (c f : Str) (wo : WE) : WG := fun d ρ M Q E => wo ρ M (fun o M1 => match o with
  | .ref a => ∃ fs, M1 a = some (.ins c fs) ∧ fs.length < 1000 ∧ Q ρ (up M1 a (.ins c (fput f d fs)))
  | _ => False) E
section
variable {X : Cx} {W : WX} {e : Expr} {pos : Pos}
theorem ue_att {c f : Str} {wo : WE} (k : AtOk X.K c f) (h : PE X e (tFld X.K (upE X W wo) f)) : PE X e (upE X W (wAtt c f wo)) := h.imp fun σ H Q ⟨ρ, M, Q0, E0, r, m, t, q, xg⟩ => by
  refine ⟨ρ, M, _, E0, r, m, t, fun d M1 t1 y H1 s1 rd m1 => ?_, xg⟩
  cases d with
  | ref a =>
    obtain ⟨fs, d', h1, h2, t1⟩ := t1
    obtain ⟨dx, vs, h3, h4⟩ := m1 a _ h1
    obtain ⟨z, h5, h6⟩ := rfl_get h4 h2
    cases rd
    exact ⟨a, _, dx, vs, z, rfl, h3, k.cls, k.no, h5, q d' M1 t1 z H1 s1 h6 m1⟩
  | _ => exact (show False from t1).elim
theorem us_att {c f : Str} {wo w : WE} {st : Stmt} (k : AtOk X.K c f) (h : PS X st (sFld X.K (upE X W wo) (upE X W w) f)) : PS X st (upS X W (wAsg w (gAtt c f wo))) := h.imp fun B σ H ⟨ρ, M, N, E0, r, m, z, g, xg⟩ => by
  refine ⟨ρ, M, _, _, r, m, z, fun d M1 z1 y H1 s1 rd m1 => ⟨ρ, M1, _, _, r.stb s1, m1, z1, fun o M2 z2 y2 H2 s2 ro m2 => ?_, (xg.stb s1).at_ (r.stb s1)⟩, xg.at_ r⟩
  cases o with
  | ref a =>
    obtain ⟨fs, h1, h2, z2⟩ := z2
    obtain ⟨dx, vs, h3, h4⟩ := m2 a _ h1
    cases ro
    refine ⟨a, _, dx, vs, rfl, h3, k.cls, k.no, by rw [← h4.length]; exact h2, ?_⟩
    have mu : Mut (H2 a) := by rw [h3]; trivial
    have s3 : Stb H2 (upd H2 a (.ins (He.ga X.K c) dx (putF f y vs))) := Stb.mut mu
    exact g.nx _ _ z2 _ _ ((s1.trans s2).trans s3) (((r.stb s1).stb s2).stb s3) (m2.mut mu ⟨dx, _, upd_same, RFl.stb s3 (rfl_put (rd.stb s2) h4)⟩)
  | _ => exact (show False from z2).elim
end
end Fg
/-! Fg7: loops, comprehensions, calls. -/
namespace Fg
open PySem PySem.Spec L2
open PyProof.Rows hiding St
/-! ### walking -/
/-- an iterator that yields just these, while stay is so -/
def Wk (X : Cx) (J : It) (H0 : Hp) (ds : List D) (stay : MM → Prop) : Prop := ∀ (i : Nat) (H : Hp) (M : MM), Stb H0 H → RMx X H M → stay M →
  (i = ds.length → J.stop i H) ∧ ∀ d, ds[i]? = some d → J.go i H ∧ ∀ x H', J.yld i H x H' → Stb H H' ∧ RMx X H' M ∧ RD X.K H' d x
abbrev WI := En → MM → (List D → (MM → Prop) → MM → Prop) → QX → Prop
def upI (X : Cx) (W : WX) (t : WI) : TI := fun σ H R => ∃ ρ M K0 E0, RE X.K H ρ σ ∧ RMx X H M ∧ t ρ M K0 E0 ∧
  (∀ ds stay M', K0 ds stay M' → ∀ J H', Stb H H' → RMx X H' M' → Wk X J H' ds stay → R J H') ∧ XGo X W σ H E0
theorem _root_.L2.PI.imp {X : Cx} {tg e : Expr} {t t' : TI} (h : PI X tg e t) (q : ∀ σ H R, t' σ H R → t σ H R) : PI X tg e t' := ⟨fun pins s σ H R I z => h.run pins s σ H R I (q σ H R z)⟩
section
variable {X : Cx} {W : WX} {tg e : Expr} {w : WE}
theorem wk_list {H : Hp} {a : Addr} {vs : List V} {ds : List D} {M : MM} {x : D} (stayL : ∀ M' H', RMx X H' M' → Stb H H' → itemsOf M' x = some ds → ∃ vs', SqL X.K H' a vs' ∧ RDs X.K H' ds vs') : Wk X (Itl X.K a) H ds (fun M' => itemsOf M' x = some ds) := by
  intro i H' M' s m st
  obtain ⟨vs', h1, h2⟩ := stayL M' H' m s st
  refine ⟨fun e => ⟨vs', h1, by rw [← h2.length]; omega⟩, fun d hd => ?_⟩
  obtain ⟨y, h3, h4⟩ := h2.get hd
  refine ⟨⟨vs', y, h1, h3⟩, fun x' H2 hy => ?_⟩
  obtain ⟨e, hy⟩ := hy
  subst e
  have h5 := hy vs' h1
  rw [h3] at h5
  cases h5
  exact ⟨Stb.refl _, m, h4⟩
theorem wk_tup {H : Hp} {a : Addr} {vs : List V} {ds : List D} {stay : MM → Prop} (h1 : SqT X.K H a vs) (h2 : RDs X.K H ds vs) : Wk X (Itt X.K a) H ds stay := by
  intro i H' M' s m st
  have h1 := SqT.stb s h1
  have h2 := RDs.stb s h2
  refine ⟨fun e => ⟨vs, h1, by rw [← h2.length]; omega⟩, fun d hd => ?_⟩
  obtain ⟨y, h3, h4⟩ := h2.get hd
  refine ⟨⟨vs, y, h1, h3⟩, fun x' H2 hy => ?_⟩
  obtain ⟨e, hy⟩ := hy
  subst e
  have h5 := hy vs h1
  rw [h3] at h5
  cases h5
  exact ⟨Stb.refl _, m, h4⟩
/-- a list or a tuple -/
def wWalk (w : WE) : WI := fun ρ M K E => w ρ M (fun x M1 => ∃ ds, itemsOf M1 x = some ds ∧ K ds (fun M' => itemsOf M' x = some ds) M1) E
theorem ui_walk (he : PE X e (upE X W w)) : PI X tg e (upI X W (wWalk w)) := by
  refine ⟨fun pins s σ H R I h => ?_⟩
  obtain ⟨ρ, M, K0, E0, r, m, t, q, xg⟩ := h
  refine thn (he.run pins s σ H (fun x H1 => ∃ d M1 ds, RD X.K H1 d x ∧ RMx X H1 M1 ∧ itemsOf M1 d = some ds ∧ Stb H H1 ∧ K0 ds (fun M' => itemsOf M' d = some ds) M1) I ⟨ρ, M, _, E0, r, m, t, fun d M1 t1 y H1 s1 rd m1 => ?_, xg⟩) fun v s1 hh => ?_
  · obtain ⟨ds, h1, h2⟩ := t1
    exact ⟨d, M1, ds, rd, m1, h1, s1, h2⟩
  · obtain ⟨x, H1, I1, r1, d, M1, ds, rd, m1, h1, sH, h2⟩ := hh
    obtain ⟨a, vs, rfl, hs, hr⟩ := items_sq m1 rd h1
    cases r1
    have hn : H1 s1.heap.objs.size = none := I1.hok.fresh (Nat.le_refl _)
    rcases hs with hs | hs
    · obtain ⟨its, rv, p, hz⟩ := I1.list hs
      refine wpAny_pyIter_list p.isList ?_
      refine ⟨s1.heap.objs.size, [s1.heap.objs.size], _, _, H1, rfl, I1.kept (t' := s1.toks) fun b o e => Heap.get?_push_of_some _ e, turn_list a _, ⟨_, Heap.get?_push_size _ rfl, rfl, rfl⟩, fun b hb => ?_, q ds _ M1 h2 _ H1 sH m1 (wk_list (vs := vs) (M := M1) fun M' H' m' s' st => ?_)⟩
      · have e : b = s1.heap.objs.size := by simpa using hb
        subst e
        exact I1.fpOk (Nat.le_refl _) hn
      · obtain ⟨a', vs', e', hs', hr'⟩ := items_sq m' (rd.stb s') st
        cases e'
        rcases hs' with hs' | hs'
        · exact ⟨vs', hs', hr'⟩
        · cases rd with
          | @tup _ vs2 ds2 g1 g2 =>
            exfalso
            obtain ⟨_, _, ⟨o, e1, e2, _⟩, _⟩ := I1.tuple g1.t
            obtain ⟨_, _, ⟨o2, n2, e3, e4, _⟩, _⟩ := I1.list hs
            rw [e1] at e3
            cases e3
            rw [e2] at e4
            injection e4 with e4
            exact absurd e4 (by decide)
          | @rol _ vs2 ds2 g1 g2 => cases st; exact ⟨vs2, (g1.stb s').sq, g2.stb s'⟩
          | ref _ =>
            unfold itemsOf at st
            cases em : M' a with
            | none => simp only [em] at st; cases st
            | some o =>
              cases o with
              | lst es =>
                simp only [em] at st
                cases st
                obtain ⟨vs3, g1, g2⟩ := m' a _ em
                exact ⟨vs3, SqL.of g1, g2⟩
              | _ => simp only [em] at st; cases st
    · obtain ⟨its, rv, p, hz⟩ := I1.tuple hs.t
      refine wpAny_pyIter_tuple (show s1.heap.IsTuple a its.toArray from p) ?_
      refine ⟨s1.heap.objs.size, [s1.heap.objs.size], _, _, H1, rfl, I1.kept (t' := s1.toks) fun b o e => Heap.get?_push_of_some _ e, turn_tuple a _, ⟨_, Heap.get?_push_size _ rfl, rfl, rfl⟩, fun b hb => ?_, q ds _ M1 h2 _ H1 sH m1 (wk_tup hs hr)⟩
      have e : b = s1.heap.objs.size := by simpa using hb
      subst e
      exact I1.fpOk (Nat.le_refl _) hn
/-- lo, lo + 1, .. -/
def upTo (lo : Int) (n : Nat) : List D := (List.range n).map fun (i : Nat) => D.int (lo + (i : Int))
theorem wk_rng {H : Hp} {lo : Int} {n : Nat} {stay : MM → Prop} : Wk X (Itr lo n) H (upTo lo n) stay := by
  intro i H' M' s m st
  have hl : (upTo lo n).length = n := by unfold upTo; simp
  refine ⟨fun e => ?_, fun d hd => ?_⟩
  · show n ≤ i
    omega
  · have hi : i < n := by
      have := (List.getElem?_eq_some_iff.mp hd).1
      omega
    have ed : d = D.int (lo + (i : Int)) := by
      unfold upTo at hd
      rw [List.getElem?_map, List.getElem?_range hi] at hd
      cases hd; rfl
    refine ⟨hi, fun x' H2 hy => ?_⟩
    obtain ⟨e, hy⟩ := hy
    subst e hy ed
    exact ⟨Stb.refl _, m, .int _⟩
def wRng1 (wa : WA) : WI := fun ρ M K E => wa ρ M (fun xs M1 => ∃ j : Int, xs = [.int j] ∧ -(2 ^ 62) ≤ j ∧ j < 2 ^ 62 ∧ K (upTo 0 j.toNat) (fun _ => True) M1) E
def wRng2 (wa : WA) : WI := fun ρ M K E => wa ρ M (fun xs M1 => ∃ i j : Int, xs = [.int i, .int j] ∧ (-(2 ^ 62) ≤ i ∧ i < 2 ^ 62 ∧ -(2 ^ 62) ≤ j ∧ j < 2 ^ 62) ∧ K (upTo i (j - i).toNat) (fun _ => True) M1) E
theorem rng1_up {wa : WA} (σ : St) (H : Hp) (R : It → Hp → Prop) : upI X W (wRng1 wa) σ H R → iRng1 (upA X W wa) σ H R := fun ⟨ρ, M, K0, E0, r, m, t, q, xg⟩ => by
  refine ⟨ρ, M, _, E0, r, m, t, fun ds M1 t1 ys H1 s1 rd m1 => ?_, xg⟩
  obtain ⟨j, rfl, h1, h2, t1⟩ := t1
  obtain ⟨v, rfl, hv⟩ := rds1 rd
  cases hv
  exact ⟨j, rfl, h1, h2, q _ _ M1 t1 _ H1 s1 m1 wk_rng⟩
theorem ui_rng1 {wa : WA} (h : PI X tg e (iRng1 (upA X W wa))) : PI X tg e (upI X W (wRng1 wa)) := h.imp rng1_up
theorem ui_rng2 {wa : WA} (h : PI X tg e (iRng2 (upA X W wa))) : PI X tg e (upI X W (wRng2 wa)) := h.imp fun σ H R ⟨ρ, M, K0, E0, r, m, t, q, xg⟩ => by
  refine ⟨ρ, M, _, E0, r, m, t, fun ds M1 t1 ys H1 s1 rd m1 => ?_, xg⟩
  obtain ⟨i, j, rfl, h1, t1⟩ := t1
  obtain ⟨v, w, rfl, hv, hw⟩ := rds2 rd
  cases hv
  cases hw
  exact ⟨i, j, rfl, h1, q _ _ M1 t1 _ H1 s1 m1 wk_rng⟩
end
/-! ### for -/
/-- the loop over these items -/
def loopD (stay : MM → Prop) (g : WG) (b : WS) : List D → WS
  | [] => fun ρ M N _ => stay M ∧ N.nx ρ M
  | d :: ds => fun ρ M N E => stay M ∧ g d ρ M (fun ρ1 M1 => b ρ1 M1 { nx := fun ρ2 M2 => loopD stay g b ds ρ2 M2 N E, ct := fun ρ2 M2 => loopD stay g b ds ρ2 M2 N E, bk := N.nx, rt := N.rt } E) (fun x M1 => E x ρ M1)
def wFor (wi : WI) (g : WG) (b : WS) : WS := fun ρ M N E => wi ρ M (fun ds stay M1 => loopD stay g b ds ρ M1 N E) (fun x M1 => E x ρ M1)
theorem loopD_stay {stay : MM → Prop} {g : WG} {b : WS} {ds : List D} {ρ : En} {M : MM} {N : EndsD} {E : QS} (h : loopD stay g b ds ρ M N E) : stay M := by
  cases ds with
  | nil => exact h.1
  | cons d ds => exact h.1
section
variable {X : Cx} {W : WX} {tg iter : Expr} {body : List Stmt} {wi : WI} {g : WG} {b : WS} {pos : Pos}
theorem us_for (hp : PassesOwn (model X.prog X.w) X.A X.env X.xe) (hc : X.calm = true) (hi : PI X tg iter (upI X W wi)) (hg : PG X tg (upG X W g)) (hb : PSs X body (upS X W b)) (hs : ∀ x, foldedSetIterable iter X.env x = pure x) :
    PS X (.For tg iter body [] pos) (upS X W (wFor wi g b)) := (ps_for hp hc hi hg hb hs).imp fun B σ H ⟨ρ, M, N, E0, r, m, z, gg, xg⟩ => by
  refine ⟨ρ, M, _, _, r, m, z, fun ds stay M1 z1 J H1 s1 m1 wk => ?_, xg.at_ r⟩
  refine ⟨fun i k σ' H' => i ≤ ds.length ∧ k = ds.length - i ∧ ∃ ρ' M', RE X.K H' ρ' σ' ∧ RMx X H' M' ∧ Stb H1 H' ∧ loopD stay g b (ds.drop i) ρ' M' N E0, ⟨_, Nat.zero_le _, rfl, ρ, M1, r.stb s1, m1, Stb.refl _, z1⟩, ?_⟩
  rintro i k σ' H' ⟨hi, rfl, ρ', M', r', m', s', z'⟩
  have st := loopD_stay z'
  obtain ⟨w1, w2⟩ := wk i H' M' s' m' st
  by_cases hlt : i < ds.length
  · have hd : ds[i]? = some ds[i] := by simp [hlt]
    obtain ⟨go, yl⟩ := w2 _ hd
    rw [List.drop_eq_getElem_cons hlt] at z'
    refine .inr ⟨go, fun σ2 H2 => ∃ ρ2 M2, RE X.K H2 ρ2 σ2 ∧ RMx X H2 M2 ∧ Stb H1 H2 ∧ loopD stay g b (ds.drop (i + 1)) ρ2 M2 N E0, fun σ2 H2 ⟨ρ2, M2, a1, a2, a3, a4⟩ => ⟨ds.length - (i + 1), by omega, hlt, rfl, ρ2, M2, a1, a2, a3, a4⟩, fun x H2 hy => ?_⟩
    obtain ⟨s2, m2, rd⟩ := yl x H2 hy
    obtain ⟨_, z'⟩ := z'
    have s12 := s'.trans s2
    refine ⟨_, ρ', M', _, _, rd, r'.stb s2, m2, z', fun ρ3 M3 z3 σ3 H3 s3 r3 m3 _ => ?_, (xg.stb ((s1.trans s12))).at_ (r'.stb s2)⟩
    have s13 := s12.trans s3
    refine ⟨ρ3, M3, _, E0, r3, m3, z3, ⟨fun ρ4 M4 z4 σ4 H4 s4 r4 m4 => ⟨ρ4, M4, r4, m4, s13.trans s4, z4⟩, (gg.stb (s1.trans s13)).rt, (gg.stb (s1.trans s13)).nx, fun ρ4 M4 z4 σ4 H4 s4 r4 m4 => ⟨ρ4, M4, r4, m4, s13.trans s4, z4⟩⟩, xg.stb (s1.trans s13)⟩
  · have e : i = ds.length := by omega
    subst e
    rw [List.drop_length] at z'
    exact .inl ⟨w1 rfl, gg.nx _ _ z'.2 _ _ (s1.trans s') r' m'⟩
/-! ### while: so many turns at most -/
def whileD (c : WB) (b : WS) : Nat → WS
  | 0 => fun _ _ _ _ => False
  | n + 1 => fun ρ M N E => c ρ M (fun k M1 => if k = true then b ρ M1 { nx := fun ρ2 M2 => whileD c b n ρ2 M2 N E, ct := fun ρ2 M2 => whileD c b n ρ2 M2 N E, bk := N.nx, rt := N.rt } E else N.nx ρ M1) (fun x M1 => E x ρ M1)
def wWhile (c : WB) (b : WS) : WS := fun ρ M N E => ∃ n, whileD c b n ρ M N E
theorem us_while {c : Expr} {wc : WB} (hp : PassesOwn (model X.prog X.w) X.A X.env X.xe) (hc : PT X c (upB X W wc)) (hb : PSs X body (upS X W b)) : PS X (.While c body [] pos) (upS X W (wWhile wc b)) := (ps_while hp hc hb).imp fun B σ H ⟨ρ, M, N, E0, r, m, ⟨n, z⟩, gg, xg⟩ => by
  refine ⟨fun k σ' H' => ∃ ρ' M', RE X.K H' ρ' σ' ∧ RMx X H' M' ∧ Stb H H' ∧ whileD wc b k ρ' M' N E0, ⟨n, ρ, M, r, m, Stb.refl _, z⟩, ?_⟩
  rintro k σ' H' ⟨ρ', M', r', m', s', z'⟩
  cases k with
  | zero => exact (show False from z').elim
  | succ k =>
    refine ⟨ρ', M', _, _, r', m', z', fun j M1 z1 H1 s1 m1 => ?_, (xg.stb s').at_ r'⟩
    cases j with
    | true =>
      have s2 := s'.trans s1
      exact ⟨fun σ2 H2 => ∃ ρ2 M2, RE X.K H2 ρ2 σ2 ∧ RMx X H2 M2 ∧ Stb H H2 ∧ whileD wc b k ρ2 M2 N E0, fun σ2 H2 h => ⟨k, Nat.lt_succ_self _, h⟩,
        ρ', M1, _, E0, r'.stb s1, m1, z1, ⟨fun ρ4 M4 z4 σ4 H4 s4 r4 m4 => ⟨ρ4, M4, r4, m4, s2.trans s4, z4⟩, (gg.stb s2).rt, (gg.stb s2).nx, fun ρ4 M4 z4 σ4 H4 s4 r4 m4 => ⟨ρ4, M4, r4, m4, s2.trans s4, z4⟩⟩, xg.stb s2⟩
    | false => exact gg.nx _ _ z1 _ _ (s'.trans s1) (r'.stb s1) m1
end
/-! ### comprehensions -/
def wipeD (ρ : En) : List Nat → En
  | [] => ρ
  | v :: vs => (wipeD ρ vs).set v none
abbrev noX : QX := fun _ _ => False
theorem RE.clear {K : PySem.W.Frag} {H : Hp} {ρ : En} {σ : St} (i : Nat) (h : RE K H ρ σ) : RE K H (ρ.set i none) (σ.set i none) := by
  refine ⟨by rw [List.length_set, List.length_set]; exact h.1, fun j e q => ?_⟩
  by_cases hj : i = j
  · subst hj
    by_cases hl : i < ρ.length
    · rw [List.getElem?_set_self hl] at q; cases q
    · rw [List.getElem?_eq_none (by simpa using hl)] at q; cases q
  · rw [List.getElem?_set_ne hj] at q
    obtain ⟨z, h1, h2⟩ := h.2 j e q
    exact ⟨z, by rw [List.getElem?_set_ne hj]; exact h1, h2⟩
theorem RE.wipe {K : PySem.W.Frag} {H : Hp} {ρ : En} {σ : St} (h : RE K H ρ σ) : ∀ vs : List Nat, RE K H (wipeD ρ vs) (wipe σ vs)
  | [] => h
  | v :: vs => (RE.wipe h vs).clear v
/-- the items taken one by one, the list at p growing -/
def lcD (stay : MM → Prop) (p : Addr) (ρ0 : En) (g : WG) (tt : WB) (te : WE) : List D → List D → MM → (MM → Prop) → Prop
  | [], acc, M, K => stay M ∧ M p = some (.lst acc) ∧ K M
  | d :: ds, acc, M, K => stay M ∧ g d ρ0 M (fun ρ1 M1 => tt ρ1 M1 (fun k M2 => if k = true then te ρ1 M2 (fun y M3 => M3 p = some (.lst acc) ∧ acc.length < sizeLine ∧ lcD stay p ρ0 g tt te ds (acc ++ [y]) (up M3 p (.lst (acc ++ [y]))) K) noX
      else lcD stay p ρ0 g tt te ds acc M2 K) noX) noX
def wLc (wi : WI) (own : List Nat) (g : WG) (tt : WB) (te : WE) : WE := fun ρ M Q E => wi ρ M (fun ds stay M1 => ∀ p, M1 p = none → lcD stay p (wipeD ρ own) g tt te ds [] (up M1 p (.lst [])) fun M2 => Q (.ref p) M2) E
theorem lcD_stay {stay : MM → Prop} {p : Addr} {ρ0 : En} {g : WG} {tt : WB} {te : WE} {ds acc : List D} {M : MM} {K : MM → Prop} (h : lcD stay p ρ0 g tt te ds acc M K) : stay M := by
  cases ds with
  | nil => exact h.1
  | cons d ds => exact h.1
/-- the wishes within a block: nothing leaves -/
abbrev W0 : WX := fun _ _ _ _ => False
theorem XGo.no {X : Cx} {σ : St} {H : Hp} : XGo X W0 σ H noX := fun _ _ h => h.elim
section
variable {X : Cx} {W : WX}
/-- what a store within a comprehension leaves of the slots -/
abbrev ownR (own : List Nat) : SR := fun σ σ' => wipe σ' own = wipe σ own
theorem wipe_get {σ : St} : ∀ {vs : List Nat} {i : Nat}, (wipe σ vs)[i]? = if i ∈ vs then (σ[i]?).map fun _ => none else σ[i]?
  | [], i => by simp [wipe]
  | v :: vs, i => by
    unfold wipe
    by_cases h : v = i
    · subst h
      by_cases hl : v < (wipe σ vs).length
      · rw [List.getElem?_set_self hl, if_pos List.mem_cons_self]
        rw [wipe_length] at hl
        rw [List.getElem?_eq_getElem hl]; rfl
      · rw [List.getElem?_eq_none (by simpa using hl), if_pos List.mem_cons_self]
        rw [wipe_length] at hl
        rw [List.getElem?_eq_none (by omega)]; rfl
    · rw [List.getElem?_set_ne h, wipe_get]
      have e : (i ∈ v :: vs) = (i ∈ vs) := by
        rw [List.mem_cons]
        exact propext ⟨fun z => z.resolve_left fun q => h q.symm, .inr⟩
      simp only [e]
theorem wipe_wipe (σ : St) (vs : List Nat) : wipe (wipe σ vs) vs = wipe σ vs := by
  apply List.ext_getElem?
  intro i
  rw [wipe_get, wipe_get]
  by_cases h : i ∈ vs
  · rw [if_pos h, if_pos h]
    cases σ[i]? <;> rfl
  · rw [if_neg h, if_neg h]
theorem ownR_set {own : List Nat} {i : Nat} (h : i ∈ own) (σ : St) (v : Option V) : ownR own σ (σ.set i v) := by
  apply List.ext_getElem?
  intro j
  rw [wipe_get, wipe_get]
  by_cases hj : j ∈ own
  · rw [if_pos hj, if_pos hj]
    by_cases e : i = j
    · subst e
      by_cases hl : i < σ.length
      · rw [List.getElem?_set_self hl, List.getElem?_eq_getElem hl]; rfl
      · rw [List.getElem?_eq_none (by simpa using hl), List.getElem?_eq_none (by omega)]
    · rw [List.getElem?_set_ne e]
  · rw [if_neg hj, if_neg hj, List.getElem?_set_ne (fun (e : i = j) => hj (e ▸ h))]
theorem tLc_of {wi : WI} {own : List Nat} {g : WG} {tt : WB} {te : WE} {σ : St} {H : Hp} {Q : VK} (h : upE X W (wLc wi own g tt te) σ H Q) : tLc (upI X W wi) (upGR X W0 (ownR own) g) (upB X W0 tt) (upE X W0 te) own σ H Q := by
  obtain ⟨ρ, M, Q0, E0, r, m, t, q, xg⟩ := h
  refine ⟨ρ, M, _, E0, r, m, t, fun ds stay M1 t1 J H1 s1 m1 wk => ?_, xg⟩
  intro p hp
  have z0 := t1 p (m1.fresh hp)
  have sN : Stb H1 (upd H1 p (.lst [])) := Stb.new hp
  refine ⟨fun i k H' => i ≤ ds.length ∧ k = ds.length - i ∧ ∃ acc M', RMx X H' M' ∧ Stb (upd H1 p (.lst [])) H' ∧ lcD stay p (wipeD ρ own) g tt te (ds.drop i) acc M' fun M2 => Q0 (.ref p) M2, ⟨_, Nat.zero_le _, rfl, [], _, m1.new (o := .lst []) hp ⟨[], upd_same, .nil⟩, Stb.refl _, z0⟩, ?_⟩
  rintro i k H' ⟨hi, rfl, acc, M', m', s', z'⟩
  have st := lcD_stay z'
  have sT := sN.trans s'
  obtain ⟨w1, w2⟩ := wk i H' M' sT m' st
  by_cases hlt : i < ds.length
  · have hd : ds[i]? = some ds[i] := by simp [hlt]
    obtain ⟨go, yl⟩ := w2 _ hd
    rw [List.drop_eq_getElem_cons hlt] at z'
    refine .inr ⟨go, fun H2 => ∃ acc M2, RMx X H2 M2 ∧ Stb (upd H1 p (.lst [])) H2 ∧ lcD stay p (wipeD ρ own) g tt te (ds.drop (i + 1)) acc M2 fun M2 => Q0 (.ref p) M2, fun H2 ⟨acc, M2, a2, a3, a4⟩ => ⟨ds.length - (i + 1), by omega, hlt, rfl, acc, M2, a2, a3, a4⟩, fun x H2 hy => ?_⟩
    obtain ⟨s2, m2, rd⟩ := yl x H2 hy
    obtain ⟨_, z'⟩ := z'
    have rw_ : RE X.K H2 (wipeD ρ own) (wipe σ own) := (((r.stb s1).stb sT).stb s2).wipe own
    refine ⟨_, _, M', _, noX, rd, rw_, m2, z', fun ρ3 M3 z3 σ3 H3 s3 r3 m3 hR => ⟨by rw [show wipe σ3 own = wipe (wipe σ own) own from hR, wipe_wipe], ?_⟩, XGo.no⟩
    refine ⟨ρ3, M3, _, noX, r3, m3, z3, fun b M4 z4 H4 s4 m4 => ?_, XGo.no⟩
    have s14 := s'.trans ((s2.trans s3).trans s4)
    cases b with
    | false => exact ⟨acc, M4, m4, s14, z4⟩
    | true =>
      refine ⟨ρ3, M4, _, noX, r3.stb s4, m4, z4, fun y M5 z5 v H5 s5 rd5 m5 => ?_, XGo.no⟩
      obtain ⟨h1, h2, h5⟩ := z5
      obtain ⟨vs, h3, h4⟩ := m5 p _ h1
      have mu : Mut (H5 p) := by rw [h3]; trivial
      refine ⟨vs, h3, by rw [← h4.length]; exact h2, _, _, m5.mut (o := .lst (acc ++ [y])) mu ⟨vs ++ [v], upd_same, RDs.stb (Stb.mut mu) (h4.append (.cons rd5 .nil))⟩, (s14.trans s5).trans (Stb.mut mu), h5⟩
  · have e : i = ds.length := by omega
    subst e
    rw [List.drop_length] at z'
    exact .inl ⟨w1 rfl, q _ _ z'.2.2 _ _ (s1.trans sT) (.ref p) m'⟩
end
end Fg
/-! Fg8: displays, calls of the text's own defs and methods, of built-ins and their methods. -/
namespace Fg
open PySem PySem.Spec L2
open PyProof.Rows hiding St
/-! ### side conditions by form -/
def isCall0 : Expr → Bool
  | .Call (.Name _ _) [] [] _ => true
  | _ => false
theorem base_of {o : Expr} {a : Str} {env : PySem.Env} {w : Sem Value} (h : isCall0 o = false) : attributeBase o a env w = w := by
  unfold attributeBase
  cases o <;> try rfl
  rename_i f as ks p
  cases f <;> try rfl
  cases as <;> try rfl
  cases ks <;> try rfl
  cases h
def noStar : Expr → Bool
  | .Starred _ _ => false
  | _ => true
theorem star_cons {e : Expr} {es : List Expr} {env : PySem.Env} (h : noStar e = true) : starEach (e :: es) env = (false, eval e env) :: starEach es env := by
  cases e <;> first | rfl | cases h
theorem star_plain {env : PySem.Env} {pos : Pos} : ∀ {es : List Expr}, es.all noStar = true → (backTo pos (starEach es env)).any (·.1) = false
  | [], _ => rfl
  | e :: es, h => by
    rw [List.all_cons, Bool.and_eq_true] at h
    rw [star_cons h.1]
    show (false || (backTo pos (starEach es env)).any (·.1)) = false
    rw [star_plain h.2]; rfl
theorem star_allN {env : PySem.Env} {pos : Pos} : ∀ {es : List Expr}, es.all noStar = true → (backTo pos (starEach es env)).all (fun x => !x.1) = true
  | [], _ => rfl
  | e :: es, h => by
    rw [List.all_cons, Bool.and_eq_true] at h
    rw [star_cons h.1]
    show (true && (backTo pos (starEach es env)).all (fun x => !x.1)) = true
    rw [star_allN h.2]; rfl
def isComp : Expr → Bool
  | .ListComp _ _ _ _ => true
  | .SetComp _ _ _ _ => true
  | .DictComp _ _ _ _ _ => true
  | _ => false
theorem swap_no {e : Expr} {t : Option Expr} {l : Nat} {env : PySem.Env} (h : isComp e = false) : swapsWith e t l env = pure false := by
  cases e <;> first | rfl | cases h
def isSet : Expr → Bool
  | .Set _ _ _ => true
  | _ => false
theorem fold_no {e : Expr} {env : PySem.Env} (h : isSet e = false) (x : Value) : foldedSetIterable e env x = pure x := by
  cases e <;> first | rfl | cases h
section
variable {X : Cx} {W : WX} {e : Expr} {es : List Expr} {pos : Pos}
/-! ### displays -/
def wTup (wa : WA) : WE := fun ρ M Q E => wa ρ M (fun ds M1 => ds.length ≤ sizeLine ∧ Q (.tup ds) M1) E
def wLst (wa : WA) : WE := fun ρ M Q E => wa ρ M (fun ds M1 => ds.length ≤ sizeLine ∧ ∀ p, M1 p = none → Q (.ref p) (up M1 p (.lst ds))) E
theorem ue_tup {wa : WA} {k : Nat} (h : PA X es (upA X W wa)) : PE X (.Tuple es k pos) (upE X W (wTup wa)) := by
  refine ⟨fun pins s σ H Q I ⟨ρ, M, Q0, E0, r, m, t, q, xg⟩ => ?_⟩
  refine wpAny_Tuple_spliced (thn (h.run pos pins s σ H (fun ys H1 => ∃ ds M1, RDs X.K H1 ds ys ∧ RMx X H1 M1 ∧ Stb H H1 ∧ ds.length ≤ sizeLine ∧ Q0 (.tup ds) M1) I ⟨ρ, M, _, E0, r, m, t, fun ds M1 t1 ys H1 s1 rd m1 => ⟨ds, M1, rd, m1, s1, t1.1, t1.2⟩, xg⟩) fun us s1 ⟨xs, H1, I1, rv, ds, M1, rd, m1, sH, z, t1⟩ => ?_)
  have z' : xs.length ≤ sizeLine := by rw [← rd.length]; exact z
  have hp := I1.hok.fresh (Nat.le_refl s1.heap.objs.size)
  refine ⟨by rw [← rv.length]; exact z', .ref s1.heap.objs.size, _, I1.laid (t' := s1.toks) (fun c oc w => Heap.get?_push_of_some _ w) (Nat.le_refl _) (tup_ok (Heap.get?_push_size _ rfl) rv z'), rfl, ?_⟩
  exact q _ _ t1 _ _ (sH.trans (Stb.new hp)) (.tup sqN_new (RDs.stb (Stb.new hp) rd)) (m1.laid hp)
theorem ue_lst {wa : WA} (h : PA X es (upA X W wa)) : PE X (.List es pos) (upE X W (wLst wa)) := (pe_lst h).imp fun σ H Q ⟨ρ, M, Q0, E0, r, m, t, q, xg⟩ =>
  ⟨ρ, M, _, E0, r, m, t, fun ds M1 t1 ys H1 s1 rd m1 => ⟨by rw [← rd.length]; exact t1.1, fun p hp => q _ _ (t1.2 p (m1.fresh hp)) _ _ (s1.trans (Stb.new hp)) (.ref p) (m1.new (o := .lst ds) hp ⟨ys, upd_same, RDs.stb (Stb.new hp) rd⟩)⟩, xg⟩
def dct0 : Obj := { cls := .type "dict", data := .dict #[] }
theorem raw_empty {P : Program} {w : World} {H : Hp} (h : Heap) : ObjOk P w (upd H h.objs.size (rawO h.objs.size dct0)) (h.push dct0) h.objs.size (rawO h.objs.size dct0) :=
  raw_ok (Heap.get?_push_size _ rfl)
theorem sys_no {pins : List (Addr × Obj)} {σ : St} {H : Hp} {s : Shared} (I : Inv X pins σ H s) {a : Addr} (h : s.heap.objs.size ≤ a) : (a == sysModules) = false := by
  have hb := I.big
  rw [beq_eq_false_iff_ne]
  intro z
  rw [z] at h
  exact absurd (Nat.lt_of_lt_of_le hb h) (Nat.lt_irrefl _)
/-- {} -/
def wDct0 : WE := fun _ M Q _ => ∀ p, M p = none → Q (.ref p) (up M p (.dct dct0 []))
theorem ue_dct0 : PE X (.Dict [] [] pos) (upE X W wDct0) := ⟨fun pins s σ H Q I ⟨ρ, M, Q0, E0, r, m, t, q, xg⟩ => by
  have hp : H s.heap.objs.size = none := I.hok.fresh (Nat.le_refl _)
  refine wpAny_Dict_empty ⟨.ref s.heap.objs.size, _, I.laid (a := s.heap.objs.size) (o := rawO s.heap.objs.size dct0) (t' := s.toks) (fun _ _ q => Heap.get?_push_of_some _ q) (Nat.le_refl _) (raw_empty s.heap), rfl, ?_⟩
  exact q _ _ (t _ (m.fresh hp)) _ _ (Stb.new hp) (.ref _) (m.new (o := .dct dct0 []) hp ⟨[], 0, upd_same, ⟨rfl, rfl, rfl⟩, rfl, sys_no I (Nat.le_refl _), Nat.zero_le _, .inl (fun p h => nomatch h), List.nodup_nil, .nil⟩)⟩
end
/-! ### defs of the text -/
/-- a def's promise over data -/
abbrev SpD := List D → MM → QD → QX → Prop
def upSp (K : PySem.W.Frag) (w : World) (sp : SpD) : Sp := fun vs H Q E => ∃ ds M Q0 E0, RDs K H ds vs ∧ RM K w H M ∧ sp ds M Q0 E0 ∧ (∀ d M', Q0 d M' → ∀ y H', Stb H H' → RD K H' d y → RM K w H' M' → Q y H') ∧
  ∀ x M', E0 x M' → ∀ cls d H', Stb H H' → RX K H' M' x cls d → RM K w H' M' → E cls d H'
/-- what a text's def needs to be called: k its level -/
def FnAt (P : Program) (w : World) (K : PySem.W.Frag) (mg : Str → Option Value) (base : Heap) (k : Nat) (f : Addr) (sp : SpD) : Prop :=
  ∃ fd ps, FnOk P w K mg base (L2N.CX P w) k f fd ps (upSp K w sp) ∧ PySem.W.keepIn K (.ref f) = true ∧ Binds K fd ps []
def FnHas (P : Program) (w : World) (K : PySem.W.Frag) (mg : Str → Option Value) (base : Heap) (k : Nat) (x : Str) (sp : SpD) : Prop := ∃ f, mg x = some (.ref f) ∧ FnAt P w K mg base k f sp
/-- a method m of the class c -/
def MtHas (P : Program) (w : World) (K : PySem.W.Frag) (mg : Str → Option Value) (base : Heap) (k : Nat) (c m : Str) (sp : SpD) : Prop := Cls K (He.ga K c) ∧ ∃ f, Meth K (He.ga K c) m f ∧ FnAt P w K mg base k f sp
/-- a class c, made by its __init__ -/
def MkHas (P : Program) (w : World) (K : PySem.W.Frag) (mg : Str → Option Value) (base : Heap) (k : Nat) (c : Str) (sp : SpD) : Prop := mg c = some (.ref (He.ga K c)) ∧ ∃ f, Mk K (He.ga K c) f ∧ FnAt P w K mg base k f sp
def wCall (sp : SpD) (wa : WA) : WE := fun ρ M Q E => wa ρ M (fun ds M1 => sp ds M1 Q E) E
def wMeth (m : Str) (alts : List (Str × SpD)) (wo : WE) (wa : WA) : WE := fun ρ M Q E => wo ρ M (fun o M1 => match o with
  | .ref a => ∃ p ∈ alts, ∃ fs, M1 a = some (.ins p.1 fs) ∧ fget fs m = none ∧ wa ρ M1 (fun ds M2 => p.2 (.ref a :: ds) M2 Q E) E
  | _ => False) E
def wMake (c : Str) (sp : SpD) (wa : WA) : WE := fun ρ M Q E => wa ρ M (fun ds M1 => ∀ p, M1 p = none → sp (.ref p :: ds) (up M1 p (.ins c [])) (fun d M2 => d = .non ∧ Q (.ref p) M2) E) E
section
variable {X : Cx} {W : WX} {e o : Expr} {es : List Expr} {pos p apos : Pos} {x m : Str} {k : Nat} {sp : SpD} {wa : WA}
theorem upSp_of {H : Hp} {σ : St} {Q : VK} {ys : List V} {ds : List D} {M1 : MM} {Q0 : QD} {E0 : QX} (rd : RDs X.K H ds ys) (m1 : RMx X H M1) (t1 : sp ds M1 Q0 E0) (q : ∀ d M', Q0 d M' → ∀ y H', Stb H H' → RD X.K H' d y → RMx X H' M' → Q y H') (xg : XGo X W σ H E0) :
    upSp X.K X.w sp ys H Q (L2.WE W σ) := ⟨ds, M1, Q0, E0, rd, m1, t1, q, fun x M' hx cls d H' s' rx m' => xg x M' hx cls d H' s' rx m'⟩
/-- a callee runs -/
theorem run_at {pins : List (Addr × Obj)} {σ : St} {H : Hp} {s : Shared} {Q : VK} {us : List Value} {vs : List V} {f : Addr} (hf : FnAt X.prog X.w X.K X.mg X.base k f sp) (hr : Room k X.A) (tk : L2N.Takes X W) (I : Inv X pins σ H s) (r : Vals vs us)
    (h : upSp X.K X.w sp vs H Q (L2.WE W σ)) : wpAny (model X.prog X.w) X.A (call (.ref f) us) (EP X pins σ Q) X.xe s := by
  obtain ⟨fd, ps, F, kp, bd⟩ := hf
  exact run_fnSD (E := L2.WE W) (dvs := []) F hr bd .nil (L2N.passAt tk σ) I r (by rw [List.append_nil]; exact h)
theorem ue_call (hf : FnHas X.prog X.w X.K X.mg X.base k x sp) (hr : Room k X.A) (tk : L2N.Takes X W) (hg : Gl X x) (hdb : (x == ("__debug__" : Str)) = false) (ha : PA X (e :: es) (upA X W wa)) (hs : (e :: es).all noStar = true) :
    PE X (.Call (.Name x p) (e :: es) [] pos) (upE X W (wCall sp wa)) := by
  obtain ⟨f, hm, hf⟩ := hf
  obtain ⟨fd, ps, F, kp, bd⟩ := id hf
  refine ⟨fun pins s σ H Q I h => ?_⟩
  obtain ⟨ρ, M, Q0, E0, r, m, t, q, xg⟩ := h
  have run : ∀ {H1 : Hp} {s1 : Shared} {vs : List V} {us : List Value}, Inv X pins σ H1 s1 → Vals vs us → upSp X.K X.w sp vs H1 Q (L2.WE W σ) → wpAny (model X.prog X.w) X.A (call (.ref f) us) (EP X pins σ Q) X.xe s1 := fun I1 rv z => run_at hf hr tk I1 rv z
  have pas : upA X W wa σ H fun ys H1 => upSp X.K X.w sp ys H1 Q (L2.WE W σ) := ⟨ρ, M, _, E0, r, m, t, fun ds M1 t1 ys H1 s1 rd m1 => upSp_of rd m1 t1 (fun d M' qd y H' s' => q d M' qd y H' (s1.trans s')) (xg.stb s1), xg⟩
  refine wpAny_Call_Name_kw (ld_glob I hg hm ?_ hdb)
  rw [List.all_cons, Bool.and_eq_true] at hs
  exact PySem.W.callWith_K (h₀ := X.base) I.ok.mod.kin kp (thn (ha.run pos pins s σ H _ I pas) fun us s1 ⟨vs, H1, I1, rv, z⟩ => ⟨I1.kIn, run I1 rv z⟩) (star_cons hs.1) (star_plain hs.2)
theorem ue_call0 (hf : FnHas X.prog X.w X.K X.mg X.base k x sp) (hr : Room k X.A) (tk : L2N.Takes X W) (hg : Gl X x) (hdb : (x == ("__debug__" : Str)) = false) :
    PE X (.Call (.Name x p) [] [] pos) (upE X W (wCall sp wNil)) := by
  obtain ⟨f, hm, hf⟩ := hf
  obtain ⟨fd, ps, F, kp, bd⟩ := id hf
  refine ⟨fun pins s σ H Q I ⟨ρ, M, Q0, E0, r, m, t, q, xg⟩ => ?_⟩
  refine wpAny_Call_Name_kw (ld_glob I hg hm ?_ hdb)
  exact PySem.W.callWith_K0 I.kIn kp (run_at hf hr tk I .nil (upSp_of .nil m t (fun d M' qd y H' s' => q d M' qd y H' s') xg))
/-- how o.m(..) is evaluated -/
theorem meth_eq {env : PySem.Env} (hb : isCall0 o = false) (hs : es.all noStar = true) (hn : es.length < 29) (hl : (apos.endLine == pos.line) = true) :
    eval (.Call (.Attribute o m apos) es [] pos) env = (do
      let ov ← eval o env
      standAt apos.atName
      let (f, first) ← holding [ov] (getMethod ov m (do return (← importBound o env).getD true))
      callWith pos f first (backTo pos (starEach es env)) (backToKw pos (keywordEach [] env))) := by
  have hform : methodCallForm (es.length + ([] : List Keyword).length) (backTo pos (starEach es env)) (backToKw pos (keywordEach [] env)) = true := by
    unfold methodCallForm
    rw [star_allN hs]
    simp [keywordEach, backToKw]
    omega
  have hpos : methodCallPos true o env apos pos = pure pos := by unfold methodCallPos; simp [hl]
  rw [arm_eval_Call, base_of hb]
  unfold methodCall calleeOf
  rw [hform, hpos]
  simp
theorem ue_meth {wo : WE} {alts : List (Str × SpD)} (hf : ∀ q ∈ alts, MtHas X.prog X.w X.K X.mg X.base k q.1 m q.2) (hr : Room k X.A) (tk : L2N.Takes X W) (ho : PE X o (upE X W wo)) (ha : PA X (e :: es) (upA X W wa)) (hs : (e :: es).all noStar = true)
    (hb : isCall0 o = false) (hn : (e :: es).length < 29) (hl : (apos.endLine == pos.line) = true) : PE X (.Call (.Attribute o m apos) (e :: es) [] pos) (upE X W (wMeth m alts wo wa)) := by
  have hs' := hs
  refine ⟨fun pins s σ H Q I h => ?_⟩
  obtain ⟨ρ, M, Q0, E0, r, mm, t, q, xg⟩ := h
  refine PySem.W.methodCall_KW (thn (ho.run pins s σ H (fun y H1 => ∃ a M1 sp c fs f, y = .ref a ∧ RMx X H1 M1 ∧ Stb H H1 ∧ M1 a = some (.ins c fs) ∧ fget fs m = none ∧ Cls X.K (He.ga X.K c) ∧ Meth X.K (He.ga X.K c) m f ∧ FnAt X.prog X.w X.K X.mg X.base k f sp ∧
    wa ρ M1 (fun ds M2 => sp (.ref a :: ds) M2 Q0 E0) E0) I ⟨ρ, M, _, E0, r, mm, t, fun d M1 t1 y H1 s1 rd m1 => ?_, xg⟩) fun u s1 hh => ?_) (meth_eq hb hs' hn hl)
  · cases d with
    | ref a =>
      obtain ⟨pr, hp, fs, h1, h2, t1⟩ := t1
      obtain ⟨c1, f, c2, c3⟩ := hf pr hp
      cases rd
      exact ⟨a, M1, pr.2, pr.1, fs, f, rfl, m1, s1, h1, h2, c1, c2, c3, t1⟩
    | _ => exact (show False from t1).elim
  · obtain ⟨y, H1, I1, ry, a, M1, sp, c, fs, f, rfl, m1, s1', h1, h2, c1, c2, c3, t1⟩ := hh
    obtain rfl : u = Value.ref a := ry
    obtain ⟨dx, vs, h3, h4⟩ := m1 a _ h1
    refine getmeth_ok I1 h3 c1 c2 (rfl_none h4 h2) ?_
    have pas : upA X W wa σ H1 fun ys H2 => upSp X.K X.w sp (.ref a :: ys) H2 Q (L2.WE W σ) := ⟨ρ, M1, _, E0, r.stb s1', m1, t1, fun ds M2 t2 ys H2 s2 rd m2 => upSp_of (.cons (.ref a) rd) m2 t2 (fun d M' qd y H' s' => q d M' qd y H' ((s1'.trans s2).trans s')) (xg.stb (s1'.trans s2)), xg.stb s1'⟩
    have run : ∀ {H2 : Hp} {s2 : Shared} {vs : List V} {us : List Value}, Inv X pins σ H2 s2 → Vals vs us → upSp X.K X.w sp (.ref a :: vs) H2 Q (L2.WE W σ) → wpAny (model X.prog X.w) X.A (call (.ref f) (.ref a :: us)) (EP X pins σ Q) X.xe s2 := fun {H2 s2 zs us} I2 rv z =>
      run_at (vs := .ref a :: zs) (us := .ref a :: us) c3 hr tk I2 (.cons (rfl : RelV (V.ref a) (Value.ref a)) rv) z
    rw [List.all_cons, Bool.and_eq_true] at hs
    exact PySem.W.callWith_K (first := [.ref a]) (h₀ := X.base) I.ok.mod.kin c2.kp (thn (ha.run pos pins s1 σ H1 _ I1 pas) fun us s2 ⟨vs, H2, I2, rv, z⟩ => ⟨I2.kIn, run I2 rv z⟩) (star_cons hs.1) (star_plain hs.2)
theorem ue_meth0 {wo : WE} {alts : List (Str × SpD)} (hf : ∀ q ∈ alts, MtHas X.prog X.w X.K X.mg X.base k q.1 m q.2) (hr : Room k X.A) (tk : L2N.Takes X W) (ho : PE X o (upE X W wo)) 
    (hb : isCall0 o = false) (hl : (apos.endLine == pos.line) = true) : PE X (.Call (.Attribute o m apos) [] [] pos) (upE X W (wMeth m alts wo wNil)) := by
  refine ⟨fun pins s σ H Q I h => ?_⟩
  obtain ⟨ρ, M, Q0, E0, r, mm, t, q, xg⟩ := h
  refine PySem.W.methodCall_KW (thn (ho.run pins s σ H (fun y H1 => ∃ a M1 sp c fs f, y = .ref a ∧ RMx X H1 M1 ∧ Stb H H1 ∧ M1 a = some (.ins c fs) ∧ fget fs m = none ∧ Cls X.K (He.ga X.K c) ∧ Meth X.K (He.ga X.K c) m f ∧ FnAt X.prog X.w X.K X.mg X.base k f sp ∧
    wNil ρ M1 (fun ds M2 => sp (.ref a :: ds) M2 Q0 E0) E0) I ⟨ρ, M, _, E0, r, mm, t, fun d M1 t1 y H1 s1 rd m1 => ?_, xg⟩) fun u s1 hh => ?_) (meth_eq hb rfl (by decide) hl)
  · cases d with
    | ref a =>
      obtain ⟨pr, hp, fs, h1, h2, t1⟩ := t1
      obtain ⟨c1, f, c2, c3⟩ := hf pr hp
      cases rd
      exact ⟨a, M1, pr.2, pr.1, fs, f, rfl, m1, s1, h1, h2, c1, c2, c3, t1⟩
    | _ => exact (show False from t1).elim
  · obtain ⟨y, H1, I1, ry, a, M1, sp, c, fs, f, rfl, m1, s1', h1, h2, c1, c2, c3, t1⟩ := hh
    obtain rfl : u = Value.ref a := ry
    obtain ⟨dx, vs, h3, h4⟩ := m1 a _ h1
    refine getmeth_ok I1 h3 c1 c2 (rfl_none h4 h2) ?_
    exact PySem.W.callWith_K0 (first := [.ref a]) I1.kIn c2.kp (run_at (vs := [.ref a]) c3 hr tk I1 (.cons (rfl : RelV (V.ref a) (Value.ref a)) .nil) (upSp_of (.cons (.ref a) .nil) m1 t1 (fun d M' qd y H' s' => q d M' qd y H' (s1'.trans s')) (xg.stb s1')))
end
end Fg
/-! Fg9: the same by form, for any context that bears the def's names: side conditions over the text alone. -/
namespace Fg
open PySem PySem.Spec L2
open PyProof.Rows hiding St
/-- what stays through a law -/
structure Ud where
  P : Program
  w : World
  K : PySem.W.Frag
  mg : Str → Option Value
  base : Heap
theorem takes0N {X : Cx} : L2N.Takes X (fun _ _ _ _ => False) := fun _ _ ⟨_, _, _, _, _, _, _, _, _, _, _, _, _, _, _, _, w⟩ => w.elim
/-- a def's names, its scope, the cells that are its own -/
structure Nm where
  N : List Str
  sc : Scope
  F : Str → Bool
  /-- within an except suite -/
  hot : Bool := false
  /-- the exception that it holds: where, what, its dict -/
  ex : Option (Addr × Xn × Addr) := none
  /-- a def's own frame -/
  top : Bool := false
structure Gd (U : Ud) (k : Nat) (n : Nm) (X : Cx) (W : WX) : Prop where
  eP : X.prog = U.P
  eW : X.w = U.w
  eK : X.K = U.K
  eM : X.mg = U.mg
  eB : X.base = U.base
  eN : X.N = n.N
  eS : X.env.scope = n.sc
  nd : n.N.Nodup
  calm : n.hot = false → X.calm = true
  room : n.hot = false → Room k X.A
  hu : X.A.units + 64 < cLine
  tk : L2N.Takes X W
  po : n.hot = false → PassesOwn (model X.prog X.w) X.A X.env X.xe
  xc : ∀ a x dd, n.ex = some (a, x, dd) → ∃ oe, L2N.Zn (.ref (He.ga U.K x.c)) (some dd) oe ∧ (∃ vs, oe.data = .fields vs) ∧ (a, oe) ∈ X.pn
  hotc : n.hot = true → (∃ p : Addr × Obj, L2H.Hot1 X.A p ∧ p ∈ X.pn) ∧ L2H.RoomH k X.A
  stk : n.top = true → X.stack = X.env :: X.outer ∧ X.env.frame = some X.env.locals
  fn : ∀ x, n.F x = true → X.fn x = true
section
variable {U : Ud} {k : Nat} {n : Nm} {X : Cx} {W : WX}
theorem Gd.gl (g : Gd U k n X W) {x : Str} (h : n.sc.names.lookup x = some .globalImplicit) : Gl X x := by
  unfold Gl PySem.Env.kindOf
  rw [g.eS]; exact h
theorem Gd.vis (g : Gd U k n X W) {x : Str} (h : Vis n.sc x) : Vis X.env.scope x := by rw [g.eS]; exact h
theorem Gd.loc (g : Gd U k n X W) {x : Str} (h : Loc n.sc x) : Loc X.env.scope x := by rw [g.eS]; exact h
theorem Gd.ix (g : Gd U k n X W) {i : Nat} {x : Str} (h : n.N[i]? = some x) : X.N[i]? = some x := by rw [g.eN]; exact h
theorem Gd.nm (g : Gd U k n X W) : X.N.Nodup := by rw [g.eN]; exact g.nd
/-- a name that is stored -/
def Sto (n : Nm) (x : Str) : Prop := n.sc.names.lookup x = some .local ∨ (n.sc.names.lookup x = some .cell ∧ n.F x = true)
theorem Sto.loc {x : Str} (h : Sto n x) : Loc n.sc x := h.imp (fun h => h) fun h => h.1
theorem Gd.st (g : Gd U k n X W) {x : Str} (h : Sto n x) : X.fn x = true ∨ X.env.scope.names.lookup x = some .local := by
  rcases h with h | h
  · exact .inr (by rw [g.eS]; exact h)
  · exact .inl (g.fn x h.2)
theorem Gd.mgN (g : Gd U k n X W) {x : Str} (h : U.mg x = none) : X.mg x = none := by rw [g.eM]; exact h
end
/-! ### judgements -/
def JE (U : Ud) (k : Nat) (n : Nm) (e : Expr) (w : WE) : Prop := ∀ X W, Gd U k n X W → PE X e (upE X W w)
def JA (U : Ud) (k : Nat) (n : Nm) (es : List Expr) (w : WA) : Prop := ∀ X W, Gd U k n X W → PA X es (upA X W w)
def JT (U : Ud) (k : Nat) (n : Nm) (e : Expr) (w : WB) : Prop := ∀ X W, Gd U k n X W → PT X e (upB X W w)
def JW (U : Ud) (k : Nat) (n : Nm) (e : Expr) (w : WB) : Prop := ∀ X W, Gd U k n X W → PW X e (upB X W w)
def JI (U : Ud) (k : Nat) (n : Nm) (tg e : Expr) (w : WI) : Prop := ∀ X W, Gd U k n X W → PI X tg e (upI X W w)
def JG (U : Ud) (k : Nat) (n : Nm) (R : SR) (tg : Expr) (w : WG) : Prop := ∀ X W, Gd U k n X W → PG X tg (upGR X W R w)
def JGs (U : Ud) (k : Nat) (n : Nm) (R : SR) (tg : List Expr) (w : List WG) : Prop := ∀ X W, Gd U k n X W → PGs X tg (upGs X W R w)
def JS (U : Ud) (k : Nat) (n : Nm) (st : Stmt) (w : WS) : Prop := ∀ X W, Gd U k n X W → PS X st (upS X W w)
def JSs (U : Ud) (k : Nat) (n : Nm) (st : List Stmt) (w : WS) : Prop := ∀ X W, Gd U k n X W → PSs X st (upS X W w)
def JC (op : CmpOp) (o : OD) : Prop := ∀ U k n X W, Gd U k n X W → OpR X (compareOp op) (upO X o)
def JB (op : Operator) (o : OD) : Prop := ∀ X, OpR X (binaryOp op) (upO X o)
theorem c_eq : JC .Eq dEq := fun _ _ _ _ _ g => op_dEq g.hu
theorem c_ne : JC .NotEq dNe := fun _ _ _ _ _ g => op_dNe g.hu
theorem c_lt : JC .Lt dLt := fun _ _ _ _ _ g => op_dLt g.hu
theorem c_le : JC .LtE dLe := fun _ _ _ _ _ g => op_dLe g.hu
theorem c_gt : JC .Gt dGt := fun _ _ _ _ _ g => op_dGt g.hu
theorem c_ge : JC .GtE dGe := fun _ _ _ _ _ g => op_dGe g.hu
theorem c_is : JC .Is dIs := fun _ _ _ _ _ _ => op_dIs
theorem c_isn : JC .IsNot dIsNot := fun _ _ _ _ _ _ => op_dIsNot
theorem c_in : JC .In dIn := fun _ _ _ _ _ g => op_dIn g.hu
theorem c_nin : JC .NotIn dNotIn := fun _ _ _ _ _ g => op_dNotIn g.hu
theorem b_add : JB .Add dAdd := fun _ => op_dAdd
theorem b_sub : JB .Sub dSub := fun _ => op_dSub
theorem b_mul : JB .Mult dMul := fun _ => op_dMul
theorem b_div : JB .FloorDiv dDiv := fun _ => op_dDiv
theorem b_mod : JB .Mod dMod := fun _ => op_dMod
theorem b_pow : JB .Pow dPow := fun _ => op_dPow
theorem b_and : JB .BitAnd dAnd := fun _ => op_dAnd
/-- a global that is a constant -/
def GC (U : Ud) (x : Str) (d : D) : Prop := ∃ u v, U.mg x = some u ∧ RelV v u ∧ ∀ H, RD U.K H d v
section
variable {U : Ud} {k : Nat} {n : Nm} {e a b c : Expr} {es : List Expr} {pos p apos : Pos} {x m : Str} {wa wb wc w : WE} {ws : WA}
/-! ### expressions -/
theorem n_var (i : Nat) (hN : n.N[i]? = some x) (hv : Vis n.sc x) (hd : (x == ("__debug__" : Str)) = false) (hcd : (x == ("__classdict__" : Str)) = false) : JE U k n (.Name x pos) (wVar i) :=
  fun X W g => ue_var (pe_var (g.ix hN) (g.vis hv) hd hcd)
theorem n_int {i : Int} {j : Nat} : JE U k n (.Constant (.int i) j pos) (wCst (.int i)) := fun X W g => ue_cst pe_int fun _ => .int _
theorem n_str {y : Str} {j : Nat} : JE U k n (.Constant (.str y) j pos) (wCst (.str y)) := fun X W g => ue_cst pe_str fun _ => .str _
theorem n_bl {y : Bool} {j : Nat} : JE U k n (.Constant (.bool y) j pos) (wCst (.bl y)) := fun X W g => ue_cst pe_bl fun _ => .bl _
theorem n_non {j : Nat} : JE U k n (.Constant .none j pos) (wCst .non) := fun X W g => ue_cst pe_non fun _ => .non
theorem n_gc {d : D} (h : GC U x d) (hg : n.sc.names.lookup x = some .globalImplicit) (hd : (x == ("__debug__" : Str)) = false) : JE U k n (.Name x pos) (wCst d) := fun X W g => by
  obtain ⟨u, v, h1, h2, h3⟩ := h
  refine ue_cst (pe_glob (g.gl hg) (by rw [g.eM]; exact h1) h2 hd) fun H => ?_
  rw [g.eK]; exact h3 H
theorem n_ty {T : String} (hg : n.sc.names.lookup x = some .globalImplicit) (hm : U.mg x = none) (hv : bootBuiltins x = some (.type T)) (hn : x ≠ "__name__") (hd : (x == ("__debug__" : Str)) = false) : JE U k n (.Name x pos) (wCst (.ty T)) := fun X W g =>
  ue_cst (pe_bltn (v := .ty T) (g.gl hg) (g.mgN hm) hv rfl hn hd) fun _ => .ty _
theorem n_bin {op : Operator} {o : OD} (ho : JB op o) (ha : JE U k n a wa) (hb : JE U k n b wb) : JE U k n (.BinOp a op b pos) (wOp o wa wb) := fun X W g => ue_op (fun _ _ _ _ h => h) (pe_op (ho X) (ha X W g) (hb X W g))
theorem n_cmp {op : CmpOp} {o : OD} (ho : JC op o) (ha : JE U k n a wa) (hb : JE U k n b wb) (hm : behindInMarks op b = false) : JE U k n (.Compare a [op] [b] pos) (wOp o wa wb) := fun X W g =>
  ue_op (fun _ _ _ _ h => h) (pe_cmpR (ho _ _ _ X W g) (ha X W g) (hb X W g) hm)
theorem n_chain {op op' : CmpOp} {o o' : OD} (ho : JC op o) (ho' : JC op' o') (ha : JE U k n a wa) (hb : JE U k n b wb) (hc : JE U k n c wc) (hm : lastMarks [op, op'] [b, c] = false) :
    JE U k n (.Compare a [op, op'] [b, c] pos) (wChain o o' wa wb wc) := fun X W g =>
  ue_chain (a := a) (b := b) (c := c) (pos := pos) (ho _ _ _ X W g) (ho' _ _ _ X W g) (pe_chain (ho _ _ _ X W g) (ho' _ _ _ X W g) (ha X W g) (hb X W g) (hc X W g) hm)
theorem n_neg (ha : JE U k n a wa) : JE U k n (.UnaryOp .USub a pos) (wUn dNeg wa) := fun X W g => ue_un (pe_un un_dNeg (ha X W g))
theorem n_not (ha : JE U k n a wa) : JE U k n (.UnaryOp .Not a pos) (wNotV wa) := fun X W g => ue_not (ha X W g)
theorem n_one {op : BoolOp} (ha : JE U k n a wa) : JE U k n (.BoolOp op [a] pos) wa := fun X W g => pe_one (ha X W g)
theorem n_and (ha : JE U k n a wa) (hb : JE U k n (.BoolOp .And (b :: es) pos) wb) : JE U k n (.BoolOp .And (a :: b :: es) pos) (wAndV wa wb) := fun X W g => ue_and (ha X W g) (hb X W g)
theorem n_or (ha : JE U k n a wa) (hb : JE U k n (.BoolOp .Or (b :: es) pos) wb) : JE U k n (.BoolOp .Or (a :: b :: es) pos) (wOrV wa wb) := fun X W g => ue_or (ha X W g) (hb X W g)
theorem n_ite {t : WB} (hc : JT U k n c t) (ha : JE U k n a wa) (hb : JE U k n b wb) : JE U k n (.IfExp c a b pos) (wIte t wa wb) := fun X W g => ue_ite (hc X W g) (ha X W g) (hb X W g)
theorem a_nil : JA U k n [] wNil := fun X W g => ua_nil
theorem a_cons (ha : JE U k n e wa) (hr : JA U k n es ws) (hs : noStar e = true) : JA U k n (e :: es) (wCons wa ws) := fun X W g => ua_cons (ha X W g) (hr X W g) (star_cons hs)
theorem n_tup {kk : Nat} (ha : JA U k n es ws) : JE U k n (.Tuple es kk pos) (wTup ws) := fun X W g => ue_tup (ha X W g)
theorem n_lst (ha : JA U k n es ws) : JE U k n (.List es pos) (wLst ws) := fun X W g => ue_lst (ha X W g)
theorem n_dct0 : JE U k n (.Dict [] [] pos) wDct0 := fun X W g => ue_dct0
theorem n_ix (ha : JE U k n a wa) (hb : JE U k n b wb) (hs : PlainIx b) : JE U k n (.Subscript a b pos) (wOp dIx wa wb) := fun X W g => ue_op (fun _ _ _ _ h => h) (pe_ix (ix_dIx g.hu) (ha X W g) (hb X W g) hs)
theorem n_call {sp : SpD} {j : Nat} (hf : FnHas U.P U.w U.K U.mg U.base j x sp) (hh : n.hot = false) (hj : j ≤ k) (hg : n.sc.names.lookup x = some .globalImplicit) (hdb : (x == ("__debug__" : Str)) = false) (ha : JA U k n (e :: es) ws) (hs : (e :: es).all noStar = true) :
    JE U k n (.Call (.Name x p) (e :: es) [] pos) (wCall sp ws) := fun X W g => by
  refine ue_call (k := j) ?_ ((g.room hh).mono hj) g.tk (g.gl hg) hdb (ha X W g) hs
  rw [g.eP, g.eW, g.eK, g.eM, g.eB]; exact hf
theorem n_call0 {sp : SpD} {j : Nat} (hf : FnHas U.P U.w U.K U.mg U.base j x sp) (hh : n.hot = false) (hj : j ≤ k) (hg : n.sc.names.lookup x = some .globalImplicit) (hdb : (x == ("__debug__" : Str)) = false) :
    JE U k n (.Call (.Name x p) [] [] pos) (wCall sp wNil) := fun X W g => by
  refine ue_call0 (k := j) ?_ ((g.room hh).mono hj) g.tk (g.gl hg) hdb
  rw [g.eP, g.eW, g.eK, g.eM, g.eB]; exact hf
theorem n_meth {alts : List (Str × SpD)} {j : Nat} (hf : ∀ q ∈ alts, MtHas U.P U.w U.K U.mg U.base j q.1 m q.2) (hh : n.hot = false) (hj : j ≤ k) (ho : JE U k n a wa) (ha : JA U k n (e :: es) ws) (hs : (e :: es).all noStar = true)
    (hb : isCall0 a = false) (hn : (e :: es).length < 29) (hl : (apos.endLine == pos.line) = true) : JE U k n (.Call (.Attribute a m apos) (e :: es) [] pos) (wMeth m alts wa ws) := fun X W g => by
  refine ue_meth (k := j) ?_ ((g.room hh).mono hj) g.tk (ho X W g) (ha X W g) hs hb hn hl
  rw [g.eP, g.eW, g.eK, g.eM, g.eB]; exact hf
theorem n_meth0 {alts : List (Str × SpD)} {j : Nat} (hf : ∀ q ∈ alts, MtHas U.P U.w U.K U.mg U.base j q.1 m q.2) (hh : n.hot = false) (hj : j ≤ k) (ho : JE U k n a wa)
    (hb : isCall0 a = false) (hl : (apos.endLine == pos.line) = true) : JE U k n (.Call (.Attribute a m apos) [] [] pos) (wMeth m alts wa wNil) := fun X W g => by
  refine ue_meth0 (k := j) ?_ ((g.room hh).mono hj) g.tk (ho X W g) hb hl
  rw [g.eP, g.eW, g.eK, g.eM, g.eB]; exact hf
/-- a built-in function, a built-in type, called -/
theorem n_blt {id : String} {o : CD} (hc : ∀ X W, Gd U k n X W → CallR X (.builtin id) (upC X o)) (hg : n.sc.names.lookup x = some .globalImplicit) (hm : U.mg x = none) (hv : bootBuiltins x = some (.builtin id)) (hn : x ≠ "__name__") (hd : (x == ("__debug__" : Str)) = false)
    (ha : JA U k n (e :: es) ws) (hs : (e :: es).all noStar = true) : JE U k n (.Call (.Name x p) (e :: es) [] pos) (wCl o ws) := fun X W g => by
  rw [List.all_cons, Bool.and_eq_true] at hs
  exact ue_cl (fun _ _ _ h => h) (pe_callB (hc X W g) (g.gl hg) (g.mgN hm) hv (ha X W g) hn hd (star_cons hs.1) (star_plain hs.2))
theorem n_bty {T : String} {o : CD} (hc : ∀ X W, Gd U k n X W → CallR X (.type T) (upC X o)) (hg : n.sc.names.lookup x = some .globalImplicit) (hm : U.mg x = none) (hv : bootBuiltins x = some (.type T)) (hn : x ≠ "__name__") (hd : (x == ("__debug__" : Str)) = false)
    (ha : JA U k n (e :: es) ws) (hs : (e :: es).all noStar = true) : JE U k n (.Call (.Name x p) (e :: es) [] pos) (wCl o ws) := fun X W g => by
  rw [List.all_cons, Bool.and_eq_true] at hs
  exact ue_cl (fun _ _ _ h => h) (pe_callTy (hc X W g) (g.gl hg) (g.mgN hm) hv (ha X W g) hn hd (star_cons hs.1) (star_plain hs.2))
/-! ### tests -/
theorem t_val (ha : JE U k n e wa) (he : ∀ env whole, isTrue e env whole = (do let v ← whole; standAt e.pos; holding [v] (truthy v))) : JT U k n e (wTru wa) := fun X W g => ub_tru (ha X W g) (he _)
theorem t_cmp {op : CmpOp} {o : OD} (ho : JC op o) (ha : JE U k n a wa) (hb : JE U k n b wb) (hm : behindInMarks op b = false) : JT U k n (.Compare a [op] [b] pos) (wBl (wOp o wa wb)) := fun X W g =>
  ub_bl ((pt_cmpR (r := upO X o) (ho _ _ _ X W g) (ha X W g) (hb X W g) hm).imp fun σ H Q z => by
    obtain ⟨ρ, M, Q0, E0, r, m, t, q, xg⟩ := z
    exact ⟨ρ, M, _, E0, r, m, t, fun d M1 t1 y H1 s1 rd m1 => ⟨ρ, M1, _, E0, r.stb s1, m1, t1, fun d2 M2 t2 y2 H2 s2 rd2 m2 => ⟨d, d2, M2, Q0, rd.stb s2, rd2, m2, t2, fun z M' qz v H' s' rz mz => q z M' qz v H' ((s1.trans s2).trans s') rz mz⟩, xg.stb s1⟩, xg⟩)
theorem t_not {t : WB} (ha : JT U k n e t) : JT U k n (.UnaryOp .Not e pos) (wNotB t) := fun X W g => (pt_not (ha X W g)).imp fun σ H Q z => upB_not z
theorem w_and1 {t : WB} (ha : JT U k n e t) : JW U k n (.BoolOp .And [e] pos) t := fun X W g => pw_and1 (ha X W g)
theorem w_or1 {t : WB} (ha : JT U k n e t) : JW U k n (.BoolOp .Or [e] pos) t := fun X W g => pw_or1 (ha X W g)
theorem w_and {t u : WB} (ha : JT U k n a t) (hb : JW U k n (.BoolOp .And (b :: es) pos) u) : JW U k n (.BoolOp .And (a :: b :: es) pos) (wAndB t u) := fun X W g => (pw_and (ha X W g) (hb X W g)).imp fun σ H Q z => upB_and z
theorem w_or {t u : WB} (ha : JT U k n a t) (hb : JW U k n (.BoolOp .Or (b :: es) pos) u) : JW U k n (.BoolOp .Or (a :: b :: es) pos) (wOrB t u) := fun X W g => (pw_or (ha X W g) (hb X W g)).imp fun σ H Q z => upB_or z
theorem t_w {t : WB} (h : JW U k n e t) : JT U k n e t := fun X W g => ⟨fun pins s σ H Q I z => (h X W g).run _ pins s σ H Q I z⟩
end
end Fg
/-! Fg10: statements, targets, walks, comprehensions by form; a def of the text keeps its promise. -/
namespace Fg
open PySem PySem.Spec L2
open PyProof.Rows hiding St
section
variable {U : Ud} {k : Nat} {n : Nm} {e a b c tg iter elt : Expr} {es : List Expr} {pos pos' p apos : Pos} {x m f cl : Str} {wa wb wc w : WE} {ws : WA} {st : Stmt} {sts body : List Stmt} {t u : WS} {wi : WI} {g : WG} {gs : List WG} {i j : Nat} {R : SR}
/-! ### attributes -/
theorem n_att (h : AtOk U.K cl f) (ha : JE U k n e wa) (hb : isCall0 e = false) : JE U k n (.Attribute e f pos) (wAtt cl f wa) := fun X W g => ue_att (by rw [g.eK]; exact h) (pe_fld (ha X W g) (base_of hb))
/-! ### targets -/
theorem g_nm (hi : n.N[i]? = some x) (hx : Sto n x) (hR : ∀ σ v, R σ (σ.set i v)) : JG U k n R (.Name x pos) (gNm i) := fun X W g => ug_nm (pg_name g.nm (g.ix hi) (g.loc hx.loc) (g.st hx)) hR
theorem gs_nil (hr : ∀ σ, R σ σ) : JGs U k n R [] [] := fun X W g => ugs_nil hr
theorem gs_cons (ht : ∀ a b c, R a b → R b c → R a c) (h1 : JG U k n R e g) (h2 : JGs U k n R es gs) (hs : ∀ env, (assignEach (e :: es) env).map (·.2) = assign e env :: (assignEach es env).map (·.2)) : JGs U k n R (e :: es) (g :: gs) := fun X W g => ugs_cons ht (h1 X W g) (h2 X W g) (hs _)
theorem g_tp {kk : Nat} (hh : n.hot = false) (h : JGs U k n R es gs) (hn : ∀ env, (assignEach es env).length = gs.length) (hst : ∀ env, (assignEach es env).findIdx? (·.1) = none) : JG U k n R (.Tuple es kk pos) (gTp gs) := fun X W g => ug_tp (g.calm hh) (h X W g) (hn _) (hst _)
theorem g_sub (ha : JE U k n a wa) (hb : JE U k n b wb) (hf : ∀ env v, assign (.Subscript a b pos) env v = (do
      let ov ← holding [v] (eval a env)
      let iv ← holding [v, ov] (eval b env)
      standAt pos
      holding [v, ov, iv] (setItem ov iv v)
      release [v, ov, iv] [])) : JG U k n anyR (.Subscript a b pos) (gSubD wa wb) := fun X W g => ug_sub (pg_sub (ha X W g) (hb X W g) (set_dSetI g.hu) (hf _))
/-! ### walks -/
theorem i_walk (h : JE U k n e w) : JI U k n tg e (wWalk w) := fun X W g => ui_walk (h X W g)
theorem i_rng1 (hg : n.sc.names.lookup ("range" : Str) = some .globalImplicit) (hm : U.mg "range" = none) (h : JA U k n [a] ws) (hs : noStar a = true) : JI U k n tg (.Call (.Name "range" p) [a] [] pos) (wRng1 ws) := fun X W g => ui_rng1 (pi_range1 (g.gl hg) (g.mgN hm) (h X W g) (star_cons hs))
theorem i_rng2 (hg : n.sc.names.lookup ("range" : Str) = some .globalImplicit) (hm : U.mg "range" = none) (h : JA U k n [a, b] ws) (hs : noStar a = true) (hs2 : noStar b = true) : JI U k n tg (.Call (.Name "range" p) [a, b] [] pos) (wRng2 ws) := fun X W g =>
  ui_rng2 (pi_range2 (g.gl hg) (g.mgN hm) (h X W g) ((star_cons hs).trans (congrArg _ (star_cons hs2))) (star_cons hs2))
/-! ### statements -/
theorem s_nil : JSs U k n [] wNext := fun X W g => us_nil
theorem s_cons (h1 : JS U k n st t) (h2 : JSs U k n sts u) : JSs U k n (st :: sts) (wSeq t u) := fun X W g => us_cons (h1 X W g) (h2 X W g)
theorem s_if {t' : WB} (hc : JT U k n c t') (ha : JSs U k n sts t) (hb : JSs U k n body u) : JS U k n (.If c sts body pos) (wIfS t' t u) := fun X W g => us_if (hc X W g) (ha X W g) (hb X W g)
theorem s_ret (h : JE U k n e w) : JS U k n (.Return (some e) pos) (wRet w) := fun X W g => us_ret (h X W g)
theorem s_retN : JS U k n (.Return none pos) wRetN := fun X W g => us_retN
theorem s_pass : JS U k n (.Pass pos) wNext := fun X W g => us_pass
theorem s_brk : JS U k n (.Break pos) wBrk := fun X W g => us_brk
theorem s_cnt : JS U k n (.Continue pos) wCnt := fun X W g => us_cnt
theorem s_expr (h : JE U k n e w) (hs : isComp e = false) : JS U k n (.Expr e pos) (wDrop w) := fun X W g => us_expr (h X W g) (swap_no hs)
theorem s_set (hi : n.N[i]? = some x) (hx : Sto n x) (h : JE U k n e w) (hs : isComp e = false) : JS U k n (.Assign [.Name x pos'] e pos) (wAsg w (gNm i)) := fun X W g => us_set g.nm (g.ix hi) (g.loc hx.loc) (h X W g) (swap_no hs) (g.st hx)
theorem s_asg (h : JE U k n e w) (hg : JG U k n anyR tg g) (hs : ∀ env, swapsWithSole [tg] e pos.line env = pure false) (hw : ∀ env, swappedStores [tg] e env = pure none) (h1 : ∀ env, (assignEach [tg] env).map (·.2) = [assign tg env]) :
    JS U k n (.Assign [tg] e pos) (wAsg w g) := fun X W g => us_asg (h X W g) (hg X W g) (hs _) (hw _) (h1 _)
theorem s_att (hk : AtOk U.K cl f) (ha : JE U k n a wa) (h : JE U k n e w) (hs : isComp e = false) : JS U k n (.Assign [.Attribute a f pos'] e pos) (wAsg w (gAtt cl f wa)) := fun X W g => us_att (by rw [g.eK]; exact hk) (ps_fld (ha X W g) (h X W g) (swap_no hs))
theorem s_for (hh : n.hot = false) (hi : JI U k n tg iter wi) (hg : JG U k n anyR tg g) (hb : JSs U k n body t) (hs : isSet iter = false) : JS U k n (.For tg iter body [] pos) (wFor wi g t) := fun X W g => us_for (g.po hh) (g.calm hh) (hi X W g) (hg X W g) (hb X W g) (fold_no hs)
theorem s_while {t' : WB} (hh : n.hot = false) (hc : JT U k n c t') (hb : JSs U k n body t) : JS U k n (.While c body [] pos) (wWhile t' t) := fun X W g => us_while (g.po hh) (hc X W g) (hb X W g)
/-! ### comprehensions -/
def Nm.blk (n : Nm) (scope : Scope) : Nm := ⟨n.N, relS scope n.sc, fun x => scope.names.lookup x == some .cell, false, none, false⟩
theorem Gd.blk {X : Cx} {W : WX} (g : Gd U k n X W) (hh : n.hot = false) (s : Shared) (H : Hp) (scope : Scope) (C : Addr) (cl : List (Str × Addr)) (fp : List Addr) : Gd U k (n.blk scope) (X.blk s H scope (compEnvC scope cl C X.env) fp) W0 := by
  have e : (compEnvC scope cl C X.env).scope = relS scope X.env.scope := rfl
  refine ⟨g.eP, g.eW, g.eK, g.eM, g.eB, g.eN, by rw [e, g.eS]; rfl, g.nd, fun _ => g.calm hh, fun _ => g.room hh, g.hu, takes0N, fun _ _ _ h => h.elim, fun _ _ _ h => (nomatch h), fun h => (nomatch h), fun h => (nomatch h), fun _ h => h⟩
/-- a clause's test -/
def JTs (U : Ud) (k : Nat) (n : Nm) (ts : List Expr) (w : WB) : Prop := ∀ X W, Gd U k n X W → PTs X ts (upB X W w)
def wYes : WB := fun _ M Q _ => Q true M
theorem ts_nil : JTs U k n [] wYes := fun X W g => ⟨fun pins s σ H Q I ⟨ρ, M, Q0, E0, r, m, t, q, xg⟩ => pts_nil.run pins s σ H Q I (q true M t H (Stb.refl H) m)⟩
theorem ts_one {t : WB} (h : JT U k n c t) : JTs U k n [c] t := fun X W g => pts_one (h X W g)
/-- whether the name is stored ahead of the block's end -/
def swB (sc scope : Scope) (x : Str) (py p : Pos) : Bool :=
  (if sc.kind.isAnnotationScope then ScopeKind.function else sc.kind) == ScopeKind.function && sc.names.lookup x == some NameKind.local && py.line == p.line && !(scope.names.any fun (n, k) => n == x && (k == NameKind.local || k == NameKind.cell))
theorem swap_lc {gs : List Comprehension} {scope : Scope} {py : Pos} {l : Nat} {env : PySem.Env} (h : env.scope = n.sc) : swapsWith (.ListComp elt gs scope pos) (some (.Name x py)) l env = pure (swB n.sc scope x py pos) := by
  unfold swapsWith swB PySem.Env.blockKind PySem.Env.kindOf
  rw [h]
  rfl
theorem swap_lcN {gs : List Comprehension} {scope : Scope} {l : Nat} {env : PySem.Env} {o : Expr} (h : (match o with | .Name _ _ => false | _ => true) = true) : swapsWith (.ListComp elt gs scope pos) (some o) l env = pure false := by
  cases o <;> first | rfl | cases h
section
variable {scope : Scope} {own : List (Str × Nat)} {tt : WB}
theorem n_lc (hh : n.hot = false) (ok : blkC n.N n.sc scope own = true) (hi : JI U k n tg iter wi) (hg : JG U k (n.blk scope) (ownR (own.map (·.2))) tg g) (ht : JTs U k (n.blk scope) es tt) (he : JE U k (n.blk scope) elt w) (hs : isSet iter = false) :
    JE U k n (.ListComp elt [⟨tg, iter, es, 0⟩] scope pos) (wLc wi (own.map (·.2)) g tt w) := fun X W g' =>
  (pe_lc (g := upGR X W0 (ownR (own.map fun (p : Str × Nat) => p.2)) g) (tt := upB X W0 tt) (te := upE X W0 w) (g'.calm hh) g'.nm (hi X W g') (by have := blkOk_by ok; rw [← g'.eN, ← g'.eS] at this; exact this) (fun s H C cl fp => hg _ _ (g'.blk hh s H scope C cl fp)) (fun s H C cl fp => ht _ _ (g'.blk hh s H scope C cl fp)) (fun s H C cl fp => he _ _ (g'.blk hh s H scope C cl fp)) (fold_no hs)).imp
    fun σ H Q z => tLc_of z
theorem s_lc {py spos : Pos} (hh : n.hot = false) (hi : n.N[i]? = some x) (hx : n.sc.names.lookup x = some .local) (hsw : swB n.sc scope x py pos = true) (ok : blkC n.N n.sc scope own = true) (hw : JI U k n tg iter wi) (hg : JG U k (n.blk scope) (ownR (own.map (·.2))) tg g)
    (ht : JTs U k (n.blk scope) es tt) (he : JE U k (n.blk scope) elt w) (hs : isSet iter = false) :
    JS U k n (.Assign [.Name x py] (.ListComp elt [⟨tg, iter, es, 0⟩] scope pos) spos) (wAsg (wLc wi (own.map (·.2)) g tt w) (gNm i)) := fun X W g' => by
  have hb : BlkOk X.N X.env.scope scope own := by have := blkOk_by ok; rw [← g'.eN, ← g'.eS] at this; exact this
  have hsw' : swapsWith (.ListComp elt [⟨tg, iter, es, 0⟩] scope pos) (some (.Name x py)) spos.line X.env = pure true := (swap_lc g'.eS).trans (congrArg _ hsw)
  refine (ps_setLc (g := upGR X W0 (ownR (own.map fun (p : Str × Nat) => p.2)) g) (tt := upB X W0 tt) (te := upE X W0 w) (g'.calm hh) g'.nm (g'.ix hi) (by rw [g'.eS]; exact hx) hsw' (hw X W g') hb (fun s H C cl fp => hg _ _ (g'.blk hh s H scope C cl fp)) (fun s H C cl fp => ht _ _ (g'.blk hh s H scope C cl fp)) (fun s H C cl fp => he _ _ (g'.blk hh s H scope C cl fp)) (fold_no hs)).imp fun B σ H z => ?_
  obtain ⟨ρ, M, N, E0, r, m, z, gg, xg⟩ := z
  exact tLc_of (X := X) (W := W) ⟨ρ, M, _, _, r, m, z, fun d M1 z1 y H1 s1 rd m1 => gg.nx _ M1 z1 _ H1 s1 ((r.stb s1).set rd) m1, xg.at_ r⟩
/-- .. the name a cell, or on another line -/
theorem s_lc' {py spos : Pos} (hi : n.N[i]? = some x) (hx : Sto n x) (hsw : swB n.sc scope x py pos = false) (he : JE U k n (.ListComp elt [⟨tg, iter, es, 0⟩] scope pos) w) :
    JS U k n (.Assign [.Name x py] (.ListComp elt [⟨tg, iter, es, 0⟩] scope pos) spos) (wAsg w (gNm i)) := fun X W g' =>
  us_set g'.nm (g'.ix hi) (g'.loc hx.loc) (he X W g') ((swap_lc g'.eS).trans (congrArg _ hsw)) (g'.st hx)
end
end
/-! ### a def's promise -/
def startD (N : List Str) (ds : List D) : En := ds.map some ++ List.replicate (N.length - ds.length) none
theorem re_start {K : PySem.W.Frag} {H : Hp} {N : List Str} {ds : List D} {vs : List V} (h : RDs K H ds vs) : RE K H (startD N ds) (L2.start N vs) := by
  have hl := h.length
  refine ⟨by simp [startD, L2.start, hl], fun i d e => ?_⟩
  unfold startD at e
  unfold L2.start
  by_cases hi : i < ds.length
  · rw [List.getElem?_append_left (by simpa using hi), List.getElem?_map] at e
    cases q : ds[i]? with
    | none => rw [q] at e; cases e
    | some d' =>
      rw [q] at e
      cases e
      obtain ⟨v, h1, h2⟩ := h.get q
      exact ⟨v, by rw [List.getElem?_append_left (by simpa using hl ▸ hi), List.getElem?_map, h1]; rfl, h2⟩
  · rw [List.getElem?_append_right (by simpa using hi), List.getElem?_replicate] at e
    split at e <;> cases e
def spW (N : List Str) (m : Nat) (w : WS) : SpD := fun ds M Q E => ds.length = m ∧ w (startD N ds) M { nx := fun _ M' => Q .non M', rt := Q } fun x _ M' => E x M'
section
variable {U : Ud} {k : Nat} {N ps : List Str} {x qual : Str} {params : Arguments} {body : List Stmt} {scope : Scope} {f : Addr} {fd : FuncData} {w : WS}
theorem fn_okD (F : FunD U.K x qual params body scope [] [] f fd) (S : FnScope N ps scope) (h : JSs U k ⟨N, scope, fun _ => true, false, none, true⟩ body w) :
    FnOk U.P U.w U.K U.mg U.base (L2N.CX U.P U.w) (k + 1) f fd ps (upSp U.K U.w (spW N ps.length w)) := by
  refine F.ok S (fun vs H Q E z => ?_) (fun cdv A outer s H vs Q E hr z => ?_)
  · obtain ⟨ds, M, Q0, E0, rd, m, z, q, xg⟩ := z
    rw [← rd.length]; exact z.1
  · obtain ⟨ds, M, Q0, E0, rd, m, z, q, xg⟩ := z
    refine ⟨_, h (cxOf (L2N.CX U.P U.w) U.P U.w U.K U.mg U.base N qual scope f cdv A outer s H E) (fun cls d _ H => E cls d H) ⟨rfl, rfl, rfl, rfl, rfl, rfl, rfl, S.nd, fun _ => rfl, fun _ => hr, Nat.lt_of_le_of_lt (show (A.deeper (envOfC qual scope s.heap.objs.size f cdv)).units + 64 ≤ _ by omega) hr.un, L2N.takes_of rfl rfl rfl rfl, fun _ => passes_of rfl, fun _ _ _ h => (nomatch h), fun h => (nomatch h), fun _ => ⟨rfl, rfl⟩, fun _ _ => rfl⟩, ?_⟩
    exact ⟨_, M, _, _, re_start rd, m, z.2, ⟨fun ρ' M' z σ' H' s' r' m' => q _ M' z _ H' s' .non m', fun d M' z y H' s' rd' m' => q d M' z y H' s' rd' m', fun _ _ z => z.elim, fun _ _ z => z.elim⟩, fun x ρ' M' z cls d σ' H' s' r' x' m' => xg x M' z cls d H' s' x' m'⟩
theorem fn_at (F : FunD U.K x qual params body scope [] [] f fd) (S : FnScope N ps scope) (hb : ∀ (kV doc pm : Value) (an : Option Addr) (cdv ct : Value) (us : List Value), us.length = ps.length → bindArgs (PySem.W.fnOf x qual params body scope .none kV doc pm an cdv ct) ⟨us, []⟩ = pure (ps.zip us))
    (h : JSs U k ⟨N, scope, fun _ => true, false, none, true⟩ body w) : FnAt U.P U.w U.K U.mg U.base (k + 1) f (spW N ps.length w) :=
  ⟨fd, ps, fn_okD F S h, F.kp, F.bindsN hb⟩
end
end Fg
/-! Fg11: an exception of one's own that is made by super().__init__(text); self.f = x. -/
namespace Fg
open PySem PySem.Spec L2
open PyProof.Rows hiding St
/-- what its __init__ is in words -/
structure InitW where
  qual : Str
  sf : Arg
  ar : Arg
  p0 : Pos
  p1 : Pos
  p2 : Pos
  p3 : Pos
  p4 : Pos
  p5 : Pos
  p6 : Pos
  p7 : Pos
  p8 : Pos
  p9 : Pos
  z : Str
  j : Nat
  f : Str
  scope : Scope
def InitW.params (W : InitW) : Arguments := { posonlyargs := [], args := [W.sf, W.ar], vararg := none, kwonlyargs := [], kw_defaults := [], kwarg := none, defaults := [] }
def InitW.body (W : InitW) : List Stmt :=
  [.Expr (.Call (.Attribute (.Call (.Name "super" W.p0) [] [] W.p1) "__init__" W.p2) [.Constant (.str W.z) W.j W.p3] [] W.p4) W.p5,
   .Assign [.Attribute (.Name W.sf.arg W.p6) W.f W.p7] (.Name W.ar.arg W.p8) W.p9]
structure ExI (P : Program) (K : PySem.W.Frag) (mg : Str → Option Value) (C : Addr) (W : InitW) : Prop where
  cls : PySem.W.excInitIn K C PySem.ESX.exTail "Exception.__new__" = true
  dct : (PySem.W.clsIn K C).any (·.hasDict) = true
  sa : (PySem.W.findIn K (.ref C) "__setattr__") = some (some (.builtin "object.__setattr__"))
  noat : PySem.W.findIn K (.ref C) W.f = some none
  exC : (PySem.W.subIn K (.ref C) (.type "BaseException")) = some true
  exE : PySem.W.subIn K (.ref C) (.type "Exception") = some true
  slf : PySem.W.mroIn K C (.ref C) = some true
  tyC : (PySem.W.typeIn K (.ref C)) = some (.type "type")
  kC : (PySem.W.keepIn K (.ref C)) = true
  sup : PySem.W.ks_superIn K C C "__init__" = some (some (.builtin "Exception.__init__"))
  sup0 : mg "super" = none
  sta : PySem.W.nsIn K cStatics "thirdparty.any" = some none
  top : (P.main.scope.names.lookup ("super" : Str)).isSome = false
  kind : W.scope.kind = .function
  co : W.scope.isCoroutine = false
  gen : W.scope.isGenerator = false
  nocell : ∀ y ∈ W.scope.names, y.2 ≠ .cell
  ksf : W.scope.names.lookup W.sf.arg = some .local
  kar : W.scope.names.lookup W.ar.arg = some .local
  ksu : W.scope.names.lookup ("super" : Str) = some .globalImplicit
  kcl : W.scope.names.lookup ("__class__" : Str) = some .free
  ne : W.sf.arg ≠ W.ar.arg
  d1 : (W.sf.arg == ("__debug__" : Str)) = false
  d2 : (W.ar.arg == ("__debug__" : Str)) = false
  ln : (W.p2.endLine == W.p4.line) = true
  fn : ∃ (fI cc cda : Addr) (kV doc pm ct oc occ ocl : Value) (an od odc odl : Option Addr) (osl osc osk : Array (Option Value)) (vs : Array Value) (file : Str) (tf : Tok),
    PySem.W.findIn K (.ref C) "__init__" = some (some (.ref fI)) ∧ PySem.W.typeIn K (.ref fI) = some (.type "function") ∧
    K.lookup fI = some ⟨oc, od, .func (PySem.W.ksFn "__init__" W.qual W.params W.body W.scope .none kV doc pm an (.ref cda) ct cc), osl⟩ ∧ PySem.W.codeIn K (.ref cda) W.qual = true ∧
    K.lookup cc = some ⟨ocl, odl, .cell (some (.ref C)), osk⟩ ∧ K.lookup cda = some ⟨occ, odc, .fields vs, osc⟩ ∧ vs[2]? = some (.str file tf) ∧ ((P.main.file : Str) == file) = true
/-- how o.m(..) is evaluated, o of any form -/
theorem meth_eq0 {o : Expr} {m : Str} {es : List Expr} {apos pos : Pos} {env : PySem.Env} (hs : es.all noStar = true) (hn : es.length < 29) (hl : (apos.endLine == pos.line) = true) :
    eval (.Call (.Attribute o m apos) es [] pos) env = (do
      let ov ← attributeBase o m env (eval o env)
      standAt apos.atName
      let (f, first) ← holding [ov] (getMethod ov m (do return (← importBound o env).getD true))
      callWith pos f first (backTo pos (starEach es env)) []) := by
  have hform : methodCallForm (es.length + ([] : List Keyword).length) (backTo pos (starEach es env)) (backToKw pos (keywordEach [] env)) = true := by
    unfold methodCallForm
    rw [star_allN hs]
    simp [keywordEach, backToKw]
    omega
  have hpos : methodCallPos true o env apos pos = pure pos := by unfold methodCallPos; simp [hl]
  rw [arm_eval_Call]
  unfold methodCall calleeOf
  rw [hform, hpos]
  simp [keywordEach, backToKw]
section
variable {prog : Program} {w : World} {A : Around} {R : Result → Shared → Prop} {g : Array GenState} {dr : Drawn} {n : Nat} {os : OsState} {h0 : Heap}
/-- what a first field leaves: the object at x has a dict of its own, the rest stands -/
structure Put (C x : Addr) (fv : Array Value) (f : Str) (v : Value) (h0 h1 : Heap) (dx : Addr) : Prop where
  rest : ∀ b o, b ≠ x → h0.get? b = some o → h1.get? b = some o
  far : h0.objs.size ≤ dx
  ne : dx ≠ x
  obj : h1.get? x = some { cls := .ref C, dict := some dx, data := .fields fv }
  ns : h1.Ns1 dx fun y => if y = f then some v else none
/-- self.f = v, the first one, over any own classes and Exception -/
theorem osa_first {K : PySem.W.Frag} {f : Str} {tk : Tok} {v : Value} {x C : Addr} {fv : Array Value} {cd : ClassData} {up : List Value} (X : K.In h0) (at_ : h0.get? x = some { cls := .ref C, data := .fields fv }) (cl : PySem.W.clsIn K C = some cd)
    (m1 : cd.mro = .ref C :: up) (m2 : PySem.W.excTail PySem.ESX.exTail up = true) (dct : cd.hasDict = true) (no : PySem.W.findIn K (.ref C) f = some none) (then_ : ∀ h1 t1 dx, Put C x fv f v h0 h1 dx → R (.ok (.ret .none)) ⟨h1, g, dr, t1, os⟩) :
    codeAny (model prog w) A (.call (.builtin "object.__setattr__") ⟨[.ref x, .str f tk, v], []⟩) R ⟨h0, g, dr, n, os⟩ := by
  have inst : PySem.W.InstAt h0 x { cls := .ref C, data := .fields fv } C none := ⟨at_, rfl, rfl, trivial⟩
  have facts := F.store_object
  have isObj : cd.mro.contains (.type "object") = true := by
    have up1 : up.contains (.type "object") = true := (PySem.W.excTail_contains "object" _ m2).trans (by decide +kernel)
    rw [m1, List.contains_cons, up1, Bool.or_true]
  have passes : refuseLoop (.ref x) "__setattr__" cd.mro = pure () := by
    rw [m1, refuseLoop_ref, PySem.W.excTail_pass _ (F.store_Exception.passes _) _ m2]
  have apart : x ≠ h0.objs.size := Nat.ne_of_lt (Heap.lt_size at_)
  have subObj : PySem.W.Looks (model prog w) h0 (isInstance (.ref x) (.type "object")) true := inst.type.andThen (PySem.W.looks_mroIn X (by unfold PySem.W.mroIn; rw [cl, Option.bind_some, if_neg (by rw [m1]; exact Bool.false_ne_true), isObj]))
  have lookC : PySem.W.Looks (model prog w) h0 (classData C) cd := PySem.W.looks_clsIn X cl
  have lookM : PySem.W.Looks (model prog w) h0 (mroOf (.ref C)) cd.mro := lookC.andThen .now
  refine codeAny_call_builtin facts.slot.plain facts.entry (@PySem.W.check_slot (model prog w) _ _ ⟨h0, g, dr, n, os⟩ "object.__setattr__" "object" "__setattr__" (.ref x) [.str f tk, v] [] _ facts.kind facts.split subObj (facts.args (.ref x) (.str f tk) v) ?_)
  rw [PySem.W.osa_eq, refuse_eq]
  have later := show PySem.W.Looks (model prog w) h0 (Builtin.ObjectAttr.storeTaker? none) none from .now
  apply wpAny_bind
  refine wpAny_bind (inst.type.at (wpAny_bind (lookM.at ?step)))
  rw [passes]
  refine wpAny_pure (wpAny_bind (inst.type.at (wpAny_bind ((PySem.W.looks_findIn X no).at (wpAny_bind (later.at ?own))))))
  case own =>
    show wpAny _ _ (Builtin.ObjectAttr.storeInOwnDict (.ref x) (.ref C) (.str f tk) f v false) _ _ _
    cases cd with
    | mk c1 c2 c3 c4 c5 c6 c7 c8 c9 c10 c11 =>
      cases (show c6 = true from dct)
      unfold Builtin.ObjectAttr.storeInOwnDict Builtin.ObjectAttr.ownDictForStores
      repeat (first | with_reducible refine PySem.HandSPX.store_in_new ?_ ?_ | with_reducible refine wpAny_loadPart_at at_ ?_ | with_reducible refine lookC.at ?_ | wp_step)
      · exact ⟨_, #[], _, (Heap.get?_update_ne _ _ _ _ (Ne.symm apart)).trans (Heap.get?_push_at rfl rfl), rfl, fun e he => absurd he (by simp), fun _ => rfl⟩
      · intro h1 t1 ns1 same
        have pushed : (h0.push { cls := .type "dict", data := .dict #[] }).get? x = some { cls := .ref C, data := .fields fv } := Heap.get?_push_of_some _ at_
        exact then_ h1 t1 _ ⟨fun b o hb ho => ((same.2 b (Nat.ne_of_lt (Heap.lt_size ho))).trans ((Heap.get?_update_ne _ _ _ _ hb).trans (Heap.get?_push_of_some _ ho))), Nat.le_refl _, Ne.symm apart, (same.2 x apart).trans (Heap.get?_update_self _ pushed rfl), ns1⟩
end
section
variable {P : Program} {w : World} {A : Around} {R : Result → Shared → Prop} {hp : Heap} {g : Array GenState} {d : Drawn} {t : Nat} {os : OsState} {K : PySem.W.Frag} {mg mb : Str → Option Value} {C e t0 : Addr} {W : InitW} {u : Value}
theorem binds2 {a b : Arg} {v u : Value} (n1 n2 : Str) (n4 : FuncBody) (n5 : Scope) (n6 : Addr) (n7 : List (Str × Addr)) (n9 n10 n11 : Value) (n12 : Option Addr) (n13 n14 : Value) (n15 : Addr) (hne : a.arg ≠ b.arg) :
    bindArgs { name := n1, qualname := n2, params := { posonlyargs := [], args := [a, b], vararg := none, kwonlyargs := [], kw_defaults := [], kwarg := none, defaults := [] }, body := n4, scope := n5, globals := n6, closure := n7, defaults := .none, kwdefaults := n9, doc := n10, pyModule := n11, annotations := n12, code := n13, closureTuple := n14, builtins := n15 } ⟨[v, u], []⟩ = pure [(a.arg, v), (b.arg, u)] := by
  have e2 : (b.arg == a.arg) = false := beq_eq_false_iff_ne.mpr (Ne.symm hne)
  have e0 : seqItems? Value.none = pure none := rfl
  simp [bindArgs, e0, List.lookup, e2]
theorem exc_cls {K : PySem.W.Frag} {C : Addr} {ups : List Value} {new : String} (q : PySem.W.excInitIn K C ups new = true) : ∃ cd r, PySem.W.clsIn K C = some cd ∧ cd.mro = .ref C :: r ∧ PySem.W.excTail ups r = true := by
  unfold PySem.W.excInitIn at q
  split at q <;> try cases q
  rename_i _ cd _ lk
  split at q <;> try cases q
  rename_i D r _ _ _ _ _ _ em _
  have z := He.ba q
  have e : D = C := beq_iff_eq.mp (He.ba (He.ba z.1).1).1
  exact ⟨cd, r, by unfold PySem.W.clsIn; rw [lk], by rw [em, e], z.2⟩
theorem ld_loc {M : Model} {E : Value → Shared → Prop} {s : Shared} {env : PySem.Env} {m : Str → Option Value} {x : Str} {pos : Pos} {v : Value} {Q : Value → Shared → Prop} (hk : env.scope.kind = .function) (hl : env.kindOf x = some .local) (hn : s.heap.Ns env.locals m) (hv : m x = some v) (hd : (x == ("__debug__" : Str)) = false)
    (h : Q v s) : wpAny M A (eval (.Name x pos) env) Q E s := wpAny_Name (wpAny_loadName_local hk hl hn hv h) hd
/-- __init__ runs -/
theorem init_run (T : ExI P K mg C W) (X : K.In hp) (hlim : hp.NoLimit) (hroom : A.depth < recursionLimit) (he : hp.get? e = some (PySem.HandSPX.excO C t0)) (hKe : K.lookup e = none) (hg : hp.Ns mainGlobals mg) (hb : hp.Ns builtinsNs mb) (hmb : ∀ x : Str, x ≠ "__name__" → mb x = bootBuiltins x) {fI : Addr}
    (hf : PySem.W.findIn K (.ref C) "__init__" = some (some (.ref fI)))
    (hq : ∀ h' t' dx t1, (∀ b o, b ≠ e → hp.get? b = some o → h'.get? b = some o) → hp.objs.size ≤ dx → dx ≠ e → h'.get? e = some ({ cls := .ref C, dict := some dx, data := .fields #[.ref t1, .none, .none, .none, .bool false, .none] } : Obj) →
      h'.Ns1 dx (fun y => if y = W.f then some u else none) → R (.ok (.ret .none)) ⟨h', g, d, t', os⟩) :
    codeAny (model P w) A (.call (.ref fI) ⟨[.ref e, u], []⟩) R ⟨hp, g, d, t, os⟩ := by
  obtain ⟨fI', cc, cda, kV, doc, pm, ct, oc, occ, ocl, an, od, odc, odl, osl, osc, osk, vs, file, tf, f1, f2, f3, f4, f5, f6, f7, f8⟩ := T.fn
  obtain rfl : fI' = fI := by
    have z := f1.symm.trans hf
    injection z with z
    injection z with z
    injection z
  have ho := X _ _ f3
  refine PySem.ks_codeAny_call_defAt (binds := [(W.sf.arg, .ref e), (W.ar.arg, u)]) hroom ho rfl hlim (PySem.W.codeRec_of X f4) rfl (BindsTo.of_eq (binds2 _ _ _ _ _ _ _ _ _ _ _ _ _ T.ne)) T.nocell (fun y hy => ?_) (fun h0 hns k0 => ?_) T.co T.gen T.kind
  · rcases List.mem_cons.mp hy with rfl | hy
    · exact T.ksf
    · rcases List.mem_cons.mp hy with rfl | hy
      · exact T.kar
      · cases hy
  have nsL : ∀ {b : Addr} {o : Obj}, hp.get? b = some o → b ≠ hp.objs.size := fun q => Nat.ne_of_lt (Heap.lt_size q)
  generalize hL : hp.objs.size = L at *
  have X0 : K.In h0 := X.keeps k0
  have v1 : ([(W.sf.arg, Value.ref e), (W.ar.arg, u)] : List (Str × Value)).reverse.lookup W.sf.arg = some (.ref e) := by
    have e2 : (W.sf.arg == W.ar.arg) = false := beq_eq_false_iff_ne.mpr T.ne
    simp [List.lookup, e2]
  have v2 : ([(W.sf.arg, Value.ref e), (W.ar.arg, u)] : List (Str × Value)).reverse.lookup W.ar.arg = some u := by
    simp [List.lookup]
  have I0 : PySem.W.InstAt h0 e (PySem.HandSPX.excO C t0) C none := ⟨k0 _ _ he, rfl, rfl, trivial⟩
  obtain ⟨nm, N', qn, bs, bm, hdct, sn, sub, ab, col, dd, k0', k1, k2, k3, k5, hC, hT⟩ := PySem.W.excInit_of X0 T.cls
  obtain ⟨cd, hcd, hal⟩ := Option.bind_eq_some_iff.mp T.sup
  have sz : ∀ {h : Heap}, (∀ b o, h0.get? b = some o → h.get? b = some o) → L < h.objs.size := fun k => by
    obtain ⟨oL, es, ep, hLo, _⟩ := hns
    exact Heap.lt_size (k _ _ hLo)
  have hint : interactive (PySem.W.ksEnv W.qual W.scope L fI' (.ref cda) cc) = false := by
    unfold interactive
    rw [show (PySem.W.ksEnv W.qual W.scope L fI' (.ref cda) cc).scope.kind = .function from T.kind]
    rfl
  refine PySem.ks_wpAt_execs_cons (PySem.ks_wpAt_Expr_any (PySem.ks_wpAt_MethodCall ?_ (meth_eq0 rfl (by show 1 < 29; decide) T.ln)) hint rfl)
  refine PySem.ks_wpAt_super_base (env := PySem.W.ksEnv W.qual W.scope L fI' (.ref cda) cc) T.ksu T.kcl (by decide) rfl (X0 _ _ f3) rfl rfl rfl (X0 _ _ f6) rfl f7 f8 T.top ?_
  refine PySem.W.ks_loadName_global T.kind T.ksu (Calls.loadGlobal_builtin (hg.keeps k0) T.sup0 (hb.keeps k0) ((hmb _ (by decide)).trans (show bootBuiltins "super" = some (.type "super") by decide +kernel)) ⟨rfl, ?_⟩)
  refine wpAny_loadName_free T.kind T.kcl rfl ⟨_, X0 _ _ f5, rfl⟩ ?_
  refine wpAny_loadName_local T.kind T.ksf hns v1 ?_
  refine ks_wpAny_isType_cls hC rfl ⟨rfl, ?_⟩
  refine ks_wpAny_call_super hC rfl I0.at_ I0.cls (fun c z => nomatch z) (PySem.W.looks_mroIn X0 T.slf) (fun h1 e1 k1 => ?_)
  have X1 : K.In h1 := X0.keeps k1
  have hec : e ≠ C := fun z => by
    have z2 := I0.at_
    rw [z, hC] at z2
    cases z2
  refine PySem.W.kxs_getMethod PySem.W.kxs_Exception e1 (PySem.W.looks_opaque X1 T.sta) (l₀ := cd.mro) ((PySem.W.looks_clsIn X1 hcd).andThen .now) rfl X1 hal ?_ hec (by decide) ?_
  · exact (PySem.W.InstAt.type (h := h1) (od := none) ⟨k1 _ _ I0.at_, rfl, rfl, trivial⟩).andThen (PySem.W.looks_subIn X1 T.exE)
  show wpAny _ _ (callWith W.p4 (.ref h1.objs.size) [] (backTo W.p4 (starEach [.Constant (.str W.z) W.j W.p3] (PySem.W.ksEnv W.qual W.scope L fI' (.ref cda) cc))) []) _ _ _
  refine PySem.ESX.callWith_bound (x := e) (first := []) (PyProof.Rows.spliced_more (wpAny_Constant_str (PyProof.Rows.spliced_none ⟨Heap.get?_push_size h1 rfl, ?_⟩)))
  have k2' : ∀ b o, h1.get? b = some o → (h1.push (PySem.ESX.bw e)).get? b = some o := fun b o q => Heap.get?_push_of_some _ q
  refine PySem.ESX.call_bw (k2' _ _ (k1 _ _ hC)) (k2' _ _ (k1 _ _ I0.at_)) (Heap.get?_push_size h1 rfl) (by show 1 ≤ sizeLine; rw [sizeLine_eq]; decide) (fun h2 t1 k3' he2 => ?_)
  have kk : ∀ b o, b ≠ e → h0.get? b = some o → h2.get? b = some o := fun b o hb q => k3' b o hb (k2' _ _ (k1 _ _ q))
  have hns2 : h2.Ns L (fun y => ([(W.sf.arg, Value.ref e), (W.ar.arg, u)] : List (Str × Value)).reverse.lookup y) := by
    obtain ⟨oL, es, ep, hLo, r⟩ := hns
    exact ⟨oL, es, ep, kk _ _ (Ne.symm (nsL he)) hLo, r⟩
  have X2 : K.In h2 := fun a o q => kk a o (fun z => by rw [z, hKe] at q; cases q) (X0 _ _ q)
  obtain ⟨cd2, bmr, c1, c2, c3⟩ := exc_cls T.cls
  have hdc : cd2.hasDict = true := by
    have z := T.dct
    rw [c1] at z
    exact z
  show PySem.wpAt _ _ _ (execs [_] _) _ _ _
  refine PySem.ks_wpAt_execs_cons (PySem.ks_wpAt_Assign_Attr (wpAt_of_wpAny (ld_loc T.kind T.kar hns2 v2 T.d2 (ld_loc T.kind T.ksf hns2 v1 T.d1 ?_))) rfl)
  refine PySem.W.set_plain (od := none) X2 ⟨he2, rfl, rfl, trivial⟩ T.sa (osa_first X2 he2 c1 c2 c3 hdc T.noat (fun h3 tk3 dx ⟨k4, g4, ne4, he3, hn3⟩ => ?_))
  refine wpAt_of_wpAny (wpAny_execs_nil ?_)
  refine hq h3 tk3 dx t1 (fun b o hb q => k4 b o hb (kk b o hb (k0 _ _ q))) (Nat.le_trans (Nat.le_of_lt ?_) g4) ne4 he3 hn3
  obtain ⟨oL, es, ep, hLo, r⟩ := hns2
  exact Heap.lt_size hLo
end
/-- C(e) -/
theorem pmk_exi {X : Cx} {C : Addr} {W : InitW} {x : Str} {a : Expr} {te : TE} {p pos : Pos} (T : ExI X.prog X.K X.mg C W) (hr : Room 1 X.A) (hg : Gl X x) (hm : X.mg x = some (.ref C)) (hdb : (x == ("__debug__" : Str)) = false) (ha : PE X a te) (hs : noStar a = true) :
    L2N.PMk X (.Call (.Name x p) [a] [] pos) (fun σ H Q => te σ H fun y H1 => ∀ d, H1 d = none → Q (.ref C) (some d) (upd H1 d (.xd [(W.f, y)]))) := by
  intro pins s σ H Q I h
  have hst : starEach [a] X.env = (false, eval a X.env) :: starEach [] X.env := star_cons hs
  refine wpAny_Call_Name_kw (ld_glob I hg hm ?_ hdb)
  have par := (pa_cons ha pa_nil hst).run pos pins s σ H (fun vs H1 => match vs with | [y] => ∀ d, H1 d = none → Q (.ref C) (some d) (upd H1 d (.xd [(W.f, y)])) | _ => False) I h
  refine PySem.W.callWith_K (h₀ := X.base) I.ok.mod.kin T.kC (thn par fun us s1 ⟨vs, H1, I1, r1, q1⟩ => ⟨I1.kIn, ?_⟩) hst rfl
  obtain ⟨y, rfl⟩ : ∃ y, vs = [y] := by
    match vs, q1 with
    | [y], _ => exact ⟨y, rfl⟩
  have q1 : ∀ d, H1 d = none → Q (.ref C) (some d) (upd H1 d (.xd [(W.f, y)])) := q1
  obtain ⟨fI, cc, cda, kV, doc, pm, ct, oc, occ, ocl, an, od, odc, odl, osl, osc, osk, vs, file, tf, f1, f2, f3, f4, f5, f6, f7, f8⟩ := T.fn
  obtain ⟨nm, N', qn, bs, bm, hdct, sn, sub, ab, col, dd, k0', k1, k2, k3, k5, hC, hT⟩ := PySem.W.excInit_of I1.kIn T.cls
  obtain ⟨u, rfl⟩ : ∃ u, us = [u] := by
    cases r1 with
    | cons r1 r2 => cases r2; exact ⟨_, rfl⟩
  have ru : RelV y u := by
    cases r1 with
    | cons r1 r2 => exact r1
  show wpAny _ _ (call (.ref C) [u]) _ _ _
  obtain ⟨hp, g, dr, tk, os⟩ := s1
  have hsz : hp.objs.size ≤ hp.objs.size + 1 := Nat.le_succ _
  have kk : ∀ b o, hp.get? b = some o → ((hp.push (PySem.W.kdv_tup [u])).push (PySem.HandSPX.excO C hp.objs.size)).get? b = some o := fun b o e => Heap.get?_push_of_some _ (Heap.get?_push_of_some _ e)
  have hget : ((hp.push (PySem.W.kdv_tup [u])).push (PySem.HandSPX.excO C hp.objs.size)).get? (hp.objs.size + 1) = some (PySem.HandSPX.excO C hp.objs.size) := by heap_get
  have kb : ∀ b o, X.base.get? b = some o → hp.get? b = some o := I1.bk
  have hKe : X.K.lookup (hp.objs.size + 1) = none := by
    cases z : X.K.lookup (hp.objs.size + 1) with
    | none => rfl
    | some o => exact absurd (Heap.lt_size (I1.kIn _ _ z)) (Nat.not_lt.mpr hsz)
  obtain ⟨mb, hb1, hb2⟩ := I1.mod.blt
  refine wpAny_call (PySem.HandSPX.call_own F.excBase_Exception hT hC (PySem.W.looks_findIn I1.kIn f1) (fun self => PySem.W.bind_fn I1.kIn self f2) (by show 1 ≤ sizeLine; rw [sizeLine_eq]; decide)
    (init_run (C := C) T (I1.kIn.keeps kk) (I1.nolimit.keeps kk) (hr.make C [u] []).depth hget hKe ((I1.mod.glob.keeps kb).keeps kk) ((hb1.keeps kb).keeps kk) hb2 f1 (fun h' t' dx t1 k' g' ne' he' hn' => ⟨rfl, ?_⟩)))
  have hge : hp.objs.size ≤ dx := by
    have z : ((hp.push (PySem.W.kdv_tup [u])).push (PySem.HandSPX.excO C hp.objs.size)).objs.size = hp.objs.size + 2 := by simp [Heap.size_push]
    omega
  obtain ⟨G, g1, g2⟩ := restrict h' fun b => decide (b ≠ hp.objs.size + 1)
  have gk : ∀ b, b ≠ hp.objs.size + 1 → G.get? b = h'.get? b := fun b hb => g1 b (decide_eq_true hb)
  have gn : G.get? (hp.objs.size + 1) = none := g2 _ (by simp)
  have hnd : H1 dx = none := I1.hok.fresh hge
  have J : Inv X pins σ (upd H1 dx (.xd [(W.f, y)])) ⟨G, g, dr, t', os⟩ := I1.laid (t' := t') (a := dx) (o := .xd [(W.f, y)]) (fun b o q => by
      have hb : b ≠ hp.objs.size + 1 := Nat.ne_of_lt (Nat.lt_of_lt_of_le (Heap.lt_size q) hsz)
      rw [gk b hb]
      exact k' b o hb (kk _ _ q)) hge ⟨_, hn'.at fun o q => (gk dx ne').trans q, relO_put (fs := []) ru fun _ => True.intro⟩
  refine ⟨hp.objs.size + 1, _, _, ⟨G, g, dr, t', os⟩, _, .ref C, some dx, rfl, J, fun b o z => ?_, gn, he', ⟨rfl, rfl, fun vs z => by cases z; rfl⟩, rfl, rfl, ?_, rfl, I1.bare, raises_own T.exC T.tyC, q1 dx hnd⟩
  · by_cases hb : b = hp.objs.size + 1
    · rw [hb, gn] at z
      cases z
    · exact (gk b hb).symm.trans z
  · rw [upd_ne (Ne.symm ne')]
    exact I1.hok.fresh hsz
/-- raise C(e) -/
def wRaise (c f : Str) (wa : WE) : WS := fun ρ M _ E => wa ρ M (fun d M1 => E ⟨c, f, d⟩ ρ M1) (fun x M1 => E x ρ M1)
theorem us_raise {X : Cx} {W : WX} {c : Str} {I : InitW} {wa : WE} {a : Expr} {p pos rpos : Pos} (T : ExI X.prog X.K X.mg (He.ga X.K c) I) (hr : Room 1 X.A) (hc : X.calm = true) (tk : L2N.Takes X W) (hg : Gl X c) (hm : X.mg c = some (.ref (He.ga X.K c))) (hdb : (c == ("__debug__" : Str)) = false)
    (ha : PE X a (upE X W wa)) (hs : noStar a = true) : PS X (.Raise (some (.Call (.Name c p) [a] [] pos)) none rpos) (upS X W (wRaise c I.f wa)) := (L2N.ps_raise hc tk (pmk_exi T hr hg hm hdb ha hs)).imp fun B σ H ⟨ρ, M, N, E0, r, m, z, g, xg⟩ =>
  ⟨ρ, M, _, _, r, m, z, fun d M1 z1 y H1 s1 rd m1 p hp => by
    have sN : Stb H1 (upd H1 p (.xd [(I.f, y)])) := Stb.new hp
    exact xg _ ρ M1 z1 _ _ σ _ (s1.trans sN) ((r.stb s1).stb sN) ⟨rfl, p, y, rfl, m1.fresh hp, upd_same, rd.stb sN⟩ (m1.laid hp), xg.at_ r⟩
end Fg
/-! Fg12: try with any number of clauses, each with a name or without; what a suite asks of the caught exception. -/
namespace Fg
open PySem PySem.Spec L2
open PyProof.Rows hiding St
/-- the exception at a is caught and lies over the ground B -/
structure Cau (X : Cx) (pins : List (Addr × Obj)) (a : Addr) (B : Heap) (sI : Shared) (σ : St) (H : Hp) (cls : Value) (d : Option Addr) (s : Shared) : Prop where
  J : Inv X pins σ H sI
  nb : ∀ b o, sI.heap.get? b = some o → b ∉ frs X.stack → B.get? b = some o
  up : sI.heap.UpToSlots s.heap
  fl : HandSPX.FlyingZ B (X.env :: X.outer) a (L2N.Zn cls d) s.heap
  na : H a = none
  os : s.os = sI.os
  ag : AllBare s.gens
section
variable {X : Cx} {pins : List (Addr × Obj)} {a : Addr} {B : Heap} {sI : Shared} {σ : St} {H : Hp} {cls : Value} {d : Option Addr} {s : Shared}
theorem Cau.inv (c : Cau X pins a B sI σ H cls d s) : Inv X pins σ H s := c.J.landed c.nb c.fl.1 c.up c.os c.ag
theorem Cau.re (c : Cau X pins a B sI σ H cls d s) {h' : Heap} (fl : HandSPX.FlyingZ B (X.env :: X.outer) a (L2N.Zn cls d) h') (up : s.heap.UpToSlots h') : Cau X pins a B sI σ H cls d { s with heap := h' } :=
  ⟨c.J, c.nb, c.up.trans up, fl, c.na, c.os, c.ag⟩
theorem Cau.nfr (c : Cau X pins a B sI σ H cls d s) : a ∉ frs (X.env :: X.outer) := fun hm => by
  obtain ⟨oe, vs, h1, h2, h3⟩ := c.fl.there
  obtain ⟨_, o, h4, h5⟩ := c.fl.2.2.1.mem hm
  rw [h1] at h4
  exact h5 _ (Option.some.inj h4 ▸ h3)
theorem Cau.suite (c : Cau X pins a B sI σ H cls d s) (hf : X.env.frame = some X.env.locals) : ∃ oe, L2N.Zn cls d oe ∧ (∃ vs, oe.data = .fields vs) ∧ Inv (X.suite a ((a, oe) :: (X.pn ++ pins))) [] σ H s := by
  obtain ⟨oe, vs, h1, h2, h3⟩ := c.fl.there
  have hn := c.nfr
  refine ⟨oe, h2, ⟨vs, h3⟩, c.inv.suite h1 h3 c.na (fun z => hn ?_) fun hm => hn ?_⟩
  · exact List.mem_filterMap.mpr ⟨X.env, List.mem_cons_self, by rw [hf, z]⟩
  · obtain ⟨e, he, q⟩ := List.mem_filterMap.mp hm
    exact List.mem_filterMap.mpr ⟨e, List.mem_cons_of_mem _ he, q⟩
/-- no clause is left -/
theorem hd_nil {W : WX} {D : Ends} (c : Cau X pins a B sI σ H cls d s) (hs : X.stack = X.env :: X.outer) (hf : X.env.frame = some X.env.locals) (tk : L2N.Takes X W) (w : W cls d σ H) :
    wpAny (model X.prog X.w) X.A (handleBy (.ref a) X.env []) (SP X pins D) X.xe s := by
  obtain ⟨_, _, _, oe, vs, T, oT, ts, he, _, hd, h1, _⟩ := id c.fl
  have go : wpAny (model X.prog X.w) X.A (setFlight (.ref a) X.env.frame) (fun _ s4 => wpAny (model X.prog X.w) X.A (throw (.ref a) : Sem Flow) (SP X pins D) X.xe s4) X.xe s := by
    rw [hf]
    exact HandSPX.setFlight_upZ c.fl fun h4 hh4 up4 => wpAny_throw (tk _ _ ⟨a, B, sI, pins, σ, H, cls, d, rfl, c.J, c.nb, c.up.trans up4, .inr (.inr (by rw [hs]; exact hh4)), c.na, c.os, c.ag, w⟩)
  refine wpAny_handleBy_nil ?_
  unfold PySem.passOn
  refine wpAny_bind (wpAny_field he hd h1 ?_)
  rw [if_neg (show ¬ ((Value.ref T == Value.none) = true) from by simp)]
  first
    | exact wpAny_bind (wpAny_pure (wpAny_bind go))
    | exact wpAny_bind go
/-- a clause's class is asked -/
theorem hd_test {x : Str} {c : Value} {np : Pos} {b : Bool} {R : Result → Shared → Prop} {ps : Pos} (k : Cau X pins a B sI σ H cls d s) (hf : X.env.frame = some X.env.locals) (hc : Names X x c) (hb : PySem.W.exmOne X.K cls c = some b) (h : R (.ok (if b then .brk else .next)) s) :
    codeAny (model X.prog X.w) (X.A.mark (some (.ref a))) (.handlers (.ref a) [.ExceptHandler (some (.Name x np)) none [] ps] X.env) R s := by
  obtain ⟨oe, hz, hv, S⟩ := k.suite hf
  obtain ⟨oe2, vs, he, hz2, _⟩ := k.fl.there
  have L1 : PySem.W.Looks (model X.prog X.w) s.heap (typeOf (.ref a)) cls := fun A Q E s' kp q => wpAny_typeOf_ref (kp _ _ he) (by rw [hz2.1]; exact q)
  have L2 := PySem.W.exm_one (M := model X.prog X.w) k.inv.kIn L1 hb
  refine codeAny_handlers_test ?_
  obtain ⟨hg, hdb, hm | ⟨hm, hv, hn⟩⟩ := hc
  · exact ld_glob (X := X.suite a ((a, oe) :: (X.pn ++ pins))) S hg hm (L2.here h) hdb
  · exact ld_blt (X := X.suite a ((a, oe) :: (X.pn ++ pins))) S hg hm hv (L2.here h) hn hdb
/-- the ends of a suite that has a name -/
def clrE (D : Ends) (i : Nat) : Ends := { nx := fun σ H => D.nx (σ.set i none) H, rt := D.rt, bk := fun σ H => D.bk (σ.set i none) H, ct := fun σ H => D.ct (σ.set i none) H }
abbrev SuT := Addr → Value → Option Addr → TS
/-- what the clauses ask of an exception -/
def wHds (K : PySem.W.Frag) (W : WX) (D : Ends) : List (Value × Option Nat × SuT) → WX
  | [] => W
  | (c, o, t) :: r => fun cls d σ H => ∃ b, PySem.W.exmOne K cls c = some b ∧ (b = true → ∀ a, H a = none → match o with
      | none => t a cls d D σ H
      | some i => t a cls d (clrE D i) (σ.set i (some (.ref a))) H) ∧ (b = false → wHds K W D r cls d σ H)
def SuOk (X : Cx) (b : List Stmt) (t : SuT) : Prop := ∀ (a : Addr) (oe : Obj) (cls : Value) (d : Option Addr) (pn : List (Addr × Obj)), L2N.Zn cls d oe → (∃ vs, oe.data = .fields vs) → PSs (X.suite a ((a, oe) :: pn)) b (t a cls d)
inductive Hds (X : Cx) : List ExceptHandler → List (Value × Option Nat × SuT) → Prop
  | nil : Hds X [] []
  | bare {x : Str} {c : Value} {t : SuT} {b : Stmt} {bs : List Stmt} {p q : Pos} {hs : List ExceptHandler} {l : List (Value × Option Nat × SuT)} (hc : Names X x c) (hu : SuOk X (b :: bs) t) (r : Hds X hs l) :
      Hds X (.ExceptHandler (some (.Name x p)) none (b :: bs) q :: hs) ((c, none, t) :: l)
  | named {x n : Str} {i : Nat} {c : Value} {t : SuT} {b : Stmt} {bs : List Stmt} {p q : Pos} {hs : List ExceptHandler} {l : List (Value × Option Nat × SuT)} (hc : Names X x c) (hi : X.N[i]? = some n) (hn : X.env.kindOf n = some .local) (hu : SuOk X (b :: bs) t) (r : Hds X hs l) :
      Hds X (.ExceptHandler (some (.Name x p)) (some n) (b :: bs) q :: hs) ((c, some i, t) :: l)
/-- the clauses, one after another -/
theorem hds_run {W : WX} {D : Ends} (hs : X.stack = X.env :: X.outer) (hf : X.env.frame = some X.env.locals) (hN : X.N.Nodup) (tk : L2N.Takes X W) {hds : List ExceptHandler} {l : List (Value × Option Nat × SuT)} (hh : Hds X hds l) (k : Cau X pins a B sI σ H cls d s) (ok : X.Ok) (w : wHds X.K W D l cls d σ H) :
    wpAny (model X.prog X.w) X.A (handleBy (.ref a) X.env hds) (SP X pins D) X.xe s := by
  induction hh with
  | nil => exact hd_nil k hs hf tk w
  | bare hc hu r ih =>
    obtain ⟨b, h1, h2, h3⟩ := w
    refine wpAny_handleBy_cons (hd_test k hf hc h1 ?_) (by intro q; cases q)
    cases b with
    | false => exact ih (h3 rfl)
    | true =>
      refine codeAny_handlers_suite (HandSPX.lands_againZ k.fl fun h4 fl4 up4 => ?_)
      obtain ⟨oe, hz, hv, S⟩ := (k.re fl4 up4).suite hf
      refine wpAny_mono ((hu a oe cls d (X.pn ++ pins) hz hv).run [] _ _ H _ S (h2 rfl a k.na)) (fun f s6 z => ?_) fun _ _ z => z.elim
      cases f with
      | ret u => obtain ⟨v, σ6, H6, S6, r6, q6⟩ := z; exact ⟨v, σ6, H6, S6.unsuite ok, r6, q6⟩
      | _ => obtain ⟨σ6, H6, S6, q6⟩ := z; exact ⟨σ6, H6, S6.unsuite ok, q6⟩
  | @named x n i c t b0 bs p q hs' l' hc hi hn hu r ih =>
    obtain ⟨b, h1, h2, h3⟩ := w
    refine wpAny_handleBy_cons (hd_test k hf hc h1 ?_) (by intro q; cases q)
    cases b with
    | false => exact ih (h3 rfl)
    | true =>
      refine codeAny_handlers_suite_as (HandSPX.lands_againZ k.fl fun h4 fl4 up4 => ?_)
      obtain ⟨oe, hz, hv, S⟩ := (k.re fl4 up4).suite hf
      refine store_ok (X := X.suite a ((a, oe) :: (X.pn ++ pins))) (v := .ref a) S hN hi (.inl hn) rfl (fun s5 S5 => ?_) (.inr hn)
      refine wpAny_mono ((hu a oe cls d (X.pn ++ pins) hz hv).run [] s5 _ H _ S5 (h2 rfl a k.na)) (fun f s6 z => ?_) fun _ _ z => z.elim
      cases f with
      | ret u => obtain ⟨v, σ6, H6, S6, r6, q6⟩ := z; exact gone_ok (S6.unsuite ok) hN hi hn fun s7 J7 => ⟨v, _, H6, J7, r6, q6⟩
      | _ => obtain ⟨σ6, H6, S6, q6⟩ := z; exact gone_ok (S6.unsuite ok) hN hi hn fun s7 J7 => ⟨_, H6, J7, q6⟩
/-- try: body, its clauses -/
theorem ps_tryA {W : WX} {body : List Stmt} {h0 : ExceptHandler} {hds : List ExceptHandler} {l : List (Value × Option Nat × SuT)} {pos : Pos} {tb : WX → TS} (hs : X.stack = X.env :: X.outer) (hf : X.env.frame = some X.env.locals) (hN : X.N.Nodup) (tk : L2N.Takes X W)
    (hb : ∀ (W' : WX) (pn : List (Addr × Obj)) (xe : Value → Shared → Prop), L2N.Takes (X.tr pn xe) W' → PassesOwn (model X.prog X.w) X.A X.env xe → PSs (X.tr pn xe) body (tb W')) (hh : Hds X (h0 :: hds) l) :
    PS X (.Try body (h0 :: hds) [] [] pos) (fun D σ H => tb (wHds X.K W D l) D σ H) := ⟨fun pins s σ H D I h => by
  have ok := I.ok
  have run := (hb (wHds X.K W D l) (X.pn ++ pins) (fun e s1 => wpAny (model X.prog X.w) X.A (noteFrame e X.env) (fun _ s2 => wpAny (model X.prog X.w) X.A (setFlight e none) (fun _ s3 =>
    wpAny (model X.prog X.w) X.A (handleBy e X.env (h0 :: hds)) (SP X pins D) X.xe s3) X.xe s2) X.xe s1) (fun u s' xx => by
      obtain ⟨a, B, sI, pins', σ', H', cls, d, rfl, J, nb, up, sky, na, os, ag, w⟩ := xx
      show wpAny (model X.prog X.w) X.A (noteFrame (.ref a) X.env) _ _ _
      exact L2N.Sky.land L2N.Zn.steady (by rw [ok.frames, hs]) hf (by rw [← hs]; exact sky) fun h3 fl3 up3 => hds_run hs hf hN tk hh ⟨J.ofTry ok, nb, up.trans up3, fl3, na, os, ag⟩ ok w) PassesOwn.looking).run [] s σ H D (I.toTry _) h
  refine wpAny_Try_except (wpAny_mono run (fun f s1 z => ?_) fun e s1 he => he)
  cases f with
  | next => obtain ⟨σ', H', J', q⟩ := z; exact wpAny_execs_nil ⟨σ', H', J'.ofTry ok, q⟩
  | ret u => obtain ⟨v, σ', H', J', r, q⟩ := z; exact ⟨v, σ', H', J'.ofTry ok, r, q⟩
  | _ => obtain ⟨σ', H', J', q⟩ := z; exact ⟨σ', H', J'.ofTry ok, q⟩⟩
end
end Fg
/-! Fg13: raise and try by form; a suite's questions. -/
namespace Fg
open PySem PySem.Spec L2
open PyProof.Rows hiding St
/-- the fields that errors hold -/
def xflds : List Str := ["at", "name", "word"]
/-- one error class under another -/
def xsb (c d : Str) : Bool := c == d || d == "FigureError"
structure XcK (K : PySem.W.Frag) (xs : List Str) : Prop where
  fld : ∀ c ∈ xs, XfC K (He.ga K c)
  noat : ∀ c ∈ xs, ∀ f ∈ xflds, PySem.W.findIn K (.ref (He.ga K c)) f = some none
  isC : ∀ c ∈ xs, ExcC K (He.ga K c)
  ex : ∀ c ∈ xs, ∀ d ∈ xs, PySem.W.exmOne K (.ref (He.ga K c)) (.ref (He.ga K d)) = some (xsb c d)
  kit : ∀ c ∈ xs, ∀ d ∈ xs, PySem.W.kitOne K (.ref (He.ga K c)) (.ref (He.ga K d)) = some (xsb c d)
  alien : ∀ c ∈ xs, ∀ T ∈ (["ValueError", "LookupError", "ArithmeticError"] : List String), PySem.W.kitOne K (.ref (He.ga K c)) (.type T) = some false
/-- a global class -/
def GCl (U : Ud) (c : Str) : Prop := U.mg c = some (.ref (He.ga U.K c))
section
variable {U : Ud} {k : Nat} {n : Nm} {e a : Expr} {pos p rpos : Pos} {c : Str} {wa : WE}
theorem s_raise {I : InitW} {f : Str} (T : ExI U.P U.K U.mg (He.ga U.K c) I) (hfe : I.f = f) (hk : 1 ≤ k) (hh : n.hot = false) (hg : n.sc.names.lookup c = some .globalImplicit) (hm : GCl U c) (hdb : (c == ("__debug__" : Str)) = false) (ha : JE U k n a wa) (hs : noStar a = true) :
    JS U k n (.Raise (some (.Call (.Name c p) [a] [] pos)) none rpos) (wRaise c f wa) := fun X W g => by
  subst hfe
  have hK := g.eK
  have T' : ExI X.prog X.K X.mg (He.ga X.K c) I := by rw [g.eP, g.eK, g.eM]; exact T
  exact us_raise T' ((g.room hh).mono hk) (g.calm hh) g.tk (g.gl hg) (by rw [g.eM, g.eK]; exact hm) hdb (ha X W g) hs
/-! ### e.f of the exception that the suite holds -/
def wXAtt (xs : List Str) (f : Str) (ad : Addr) (x : Xn) (dd : Addr) (wo : WE) : WE := fun ρ M Q E => wo ρ M (fun o M1 => o = .ref ad ∧ x.c ∈ xs ∧ f ∈ xflds ∧ ∃ v, M1 dd = some (.xd f v) ∧ Q v M1) E
theorem n_xatt {xs : List Str} {f : Str} {ad dd : Addr} {x : Xn} (T : XcK U.K xs) (hx : n.ex = some (ad, x, dd)) (ha : JE U k n e wa) (hb : isCall0 e = false) : JE U k n (.Attribute e f pos) (wXAtt xs f ad x dd wa) := fun X W g => by
  obtain ⟨oe, hz, ⟨vs, hv⟩, hp⟩ := g.xc ad x dd hx
  refine ⟨fun pins s σ H Q I h => ?_⟩
  obtain ⟨ρ, M, Q0, E0, r, m, t, q, xg⟩ := h
  refine attr_of (base_of hb) (thn ((ha X W g).run pins s σ H (fun y H1 => y = .ref ad ∧ x.c ∈ xs ∧ f ∈ xflds ∧ ∃ y1 v M1, H1 dd = some (.xd [(f, y1)]) ∧ RD X.K H1 v y1 ∧ RMx X H1 M1 ∧ Stb H H1 ∧ Q0 v M1) I ⟨ρ, M, _, E0, r, m, t, fun d M1 t1 y H1 s1 rd m1 => ?_, xg⟩) fun u s1 hh => ?_)
  · obtain ⟨rfl, h1, h2, v, h3, h4⟩ := t1
    cases rd
    obtain ⟨y1, h5, h6⟩ := m1 dd _ h3
    exact ⟨rfl, h1, h2, y1, v, M1, h5, h6, m1, s1, h4⟩
  · obtain ⟨y, H1, I1, ry, rfl, h1, h2, y1, v, M1, h3, h4, m1, s1', q1⟩ := hh
    obtain rfl : u = Value.ref ad := ry
    have F := T.fld _ h1
    have hno := T.noat _ h1 f h2
    obtain ⟨hget, _⟩ := I1.pin (ad, oe) (List.mem_append_left _ hp)
    obtain ⟨mA, hns, hr⟩ : ObjOk X.prog X.w H1 s1.heap dd (.xd [(f, y1)]) := I1.hok dd _ h3
    obtain ⟨od, ho, hl⟩ := lookIn_ns hns
    obtain ⟨u1, hu, ru⟩ := RelO.some_of (v := y1) (o := mA f) (by
      have z := hr f
      rw [lookup_put, if_pos rfl] at z
      exact z)
    rw [← g.eK] at F hno hz
    have J : PySem.W.InstAt s1.heap ad oe (He.ga X.K x.c) (some od) := ⟨hget, hz.1, by unfold PySem.W.notCls; rw [hv] <;> rfl, by rw [hz.2.1]; exact ho⟩
    exact HandSPX.exc_get I1.kIn J F.ga F.gg F.exC (PySem.W.findObj_own F.hdC hno rfl (by rw [hl, hu])) (handed_of ru) ⟨y1, H1, I1.tok _, ru, q _ M1 q1 _ H1 s1' h4 m1⟩
end
/-! ### try -/
def clrD (N : EndsD) (i : Nat) : EndsD := { nx := fun ρ M => N.nx (ρ.set i none) M, rt := N.rt, bk := fun ρ M => N.bk (ρ.set i none) M, ct := fun ρ M => N.ct (ρ.set i none) M }
abbrev noQ : QS := fun _ _ _ => False
abbrev SuD := Xn → Addr → Addr → WS
def wHdD (xs : List Str) (N : EndsD) (E : QS) : List (Str × Option Nat × SuD) → QS
  | [] => E
  | (c, o, t) :: r => fun x ρ M => x.c ∈ xs ∧ if xsb x.c c = true then ∀ a dd, M a = none → M dd = none → a ≠ dd → (match o with
      | none => t x a dd ρ (up M dd (.xd x.f x.v)) N noQ
      | some i => t x a dd (ρ.set i (some (.ref a))) (up M dd (.xd x.f x.v)) (clrD N i) noQ)
    else wHdD xs N E r x ρ M
def wTry (xs : List Str) (tb : WS) (l : List (Str × Option Nat × SuD)) : WS := fun ρ M N E => tb ρ M N (wHdD xs N E l)
def suT (X : Cx) (t : SuD) : SuT := fun a cls d D σ H => ∃ x dd, cls = .ref (He.ga X.K x.c) ∧ d = some dd ∧ upS X W0 (t x a dd) D σ H
def hdsL (X : Cx) (l : List (Str × Option Nat × SuD)) : List (Value × Option Nat × SuT) := l.map fun q => (.ref (He.ga X.K q.1), q.2.1, suT X q.2.2)
theorem XGoS.noQ {X : Cx} {H : Hp} : XGoS X W0 H noQ := fun _ _ _ h => h.elim
section
variable {X : Cx} {W : WX} {xs : List Str} {l : List (Str × Option Nat × SuD)} {D : Ends} {N : EndsD} {E0 : QS}
theorem go_hds (T : XcK X.K xs) : ∀ {l : List (Str × Option Nat × SuD)}, (∀ q ∈ l, q.1 ∈ xs) → ∀ {H : Hp}, GoE X H N D → XGoS X W H E0 → XGoS X (wHds X.K W D (hdsL X l)) H (wHdD xs N E0 l)
  | [], _, H, g, xg => xg
  | (c, o, t) :: r, hl, H, g, xg => fun x ρ M z cls d σ H' s' r' rx m' => by
    obtain ⟨h1, z⟩ := z
    have hc := hl (c, o, t) (List.mem_cons_self ..)
    obtain ⟨rfl, dd, y, rfl, h2, h3, h4⟩ := id rx
    refine ⟨xsb x.c c, T.ex _ h1 _ hc, fun hb a ha => ?_, fun hb => ?_⟩
    · rw [if_pos hb] at z
      have hne : a ≠ dd := fun e => by rw [e, h3] at ha; cases ha
      have z2 := z a dd (m'.fresh ha) h2 hne
      have m2 : RMx X H' (up M dd (.xd x.f x.v)) := fun b ob e => by
        by_cases hb : b = dd
        · subst hb
          rw [up_same] at e
          cases e
          exact ⟨y, h3, h4⟩
        · rw [up_ne hb] at e
          exact m' b ob e
      have g2 := g.stb s'
      cases o with
      | none => exact ⟨x, dd, rfl, rfl, ρ, _, N, noQ, r', m2, z2, g2, XGoS.noQ⟩
      | some i => exact ⟨x, dd, rfl, rfl, _, _, clrD N i, noQ, r'.set (.ref a), m2, z2, ⟨fun ρ1 M1 p1 σ1 H1 s1 r1 m1 => g2.nx _ M1 p1 _ H1 s1 (r1.clear i) m1, g2.rt, fun ρ1 M1 p1 σ1 H1 s1 r1 m1 => g2.bk _ M1 p1 _ H1 s1 (r1.clear i) m1, fun ρ1 M1 p1 σ1 H1 s1 r1 m1 => g2.ct _ M1 p1 _ H1 s1 (r1.clear i) m1⟩, XGoS.noQ⟩
    · rw [if_neg (by rw [hb]; exact Bool.false_ne_true)] at z
      exact go_hds T (fun q hq => hl q (List.mem_cons_of_mem _ hq)) g xg x ρ M z _ _ σ H' s' r' rx m'
end
section
variable {U : Ud} {k : Nat} {n : Nm} {body : List Stmt} {tb : WS} {xs : List Str}
/-- the names within a suite -/
def Nm.su (n : Nm) (q : Addr × Xn × Addr) : Nm := { n with hot := true, ex := some q }
theorem Gd.suite {X : Cx} {W : WX} (g : Gd U k n X W) (hh : n.hot = false) {a dd : Addr} {x : Xn} {oe : Obj} {pn : List (Addr × Obj)} (hz : L2N.Zn (.ref (He.ga U.K x.c)) (some dd) oe) (hv : ∃ vs, oe.data = .fields vs) : Gd U k (n.su (a, x, dd)) (X.suite a ((a, oe) :: pn)) W0 :=
  ⟨g.eP, g.eW, g.eK, g.eM, g.eB, g.eN, g.eS, g.nd, fun h => (nomatch h), fun h => (nomatch h), g.hu, takes0N, fun h => (nomatch h), fun a' x' dd' h => by cases h; exact ⟨oe, hz, hv, List.mem_cons_self ..⟩, fun _ => ⟨⟨(a, oe), ⟨rfl, let ⟨vs, h⟩ := hv; ⟨vs, h, hz.2.2 vs h⟩⟩, List.mem_cons_self ..⟩, ⟨(g.room hh).dp, (g.room hh).un⟩⟩, g.stk, g.fn⟩
theorem Gd.tr {X : Cx} {W W' : WX} (g : Gd U k n X W) (hh : n.hot = false) (hx : n.ex = none) {pn : List (Addr × Obj)} {xe : Value → Shared → Prop} (tk : L2N.Takes (X.tr pn xe) W') (po : PassesOwn (model X.prog X.w) X.A X.env xe) : Gd U k n (X.tr pn xe) W' :=
  ⟨g.eP, g.eW, g.eK, g.eM, g.eB, g.eN, g.eS, g.nd, g.calm, g.room, g.hu, tk, fun _ => po, fun a x dd h => (by rw [hx] at h; cases h), fun h => (by rw [hh] at h; cases h), g.stk, g.fn⟩
/-- the clauses by form -/
inductive JHds (U : Ud) (k : Nat) (n : Nm) (xs : List Str) : List ExceptHandler → List (Str × Option Nat × SuD) → Prop
  | nil : JHds U k n xs [] []
  | bare {c : Str} {t : SuD} {b : Stmt} {bs : List Stmt} {p q : Pos} {hs : List ExceptHandler} {l : List (Str × Option Nat × SuD)} (hc : c ∈ xs) (hg : n.sc.names.lookup c = some .globalImplicit) (hd : (c == ("__debug__" : Str)) = false) (hm : GCl U c)
      (hu : ∀ a x dd, JSs U k (n.su (a, x, dd)) (b :: bs) (t x a dd)) (r : JHds U k n xs hs l) : JHds U k n xs (.ExceptHandler (some (.Name c p)) none (b :: bs) q :: hs) ((c, none, t) :: l)
  | named {c y : Str} {i : Nat} {t : SuD} {b : Stmt} {bs : List Stmt} {p q : Pos} {hs : List ExceptHandler} {l : List (Str × Option Nat × SuD)} (hc : c ∈ xs) (hg : n.sc.names.lookup c = some .globalImplicit) (hd : (c == ("__debug__" : Str)) = false) (hm : GCl U c)
      (hi : n.N[i]? = some y) (hy : n.sc.names.lookup y = some .local) (hu : ∀ a x dd, JSs U k (n.su (a, x, dd)) (b :: bs) (t x a dd)) (r : JHds U k n xs hs l) : JHds U k n xs (.ExceptHandler (some (.Name c p)) (some y) (b :: bs) q :: hs) ((c, some i, t) :: l)
theorem upS_to {X Y : Cx} {W : WX} {t : WS} {D : Ends} {σ : St} {H : Hp} (hK : Y.K = X.K) (hw : Y.w = X.w) (h : upS X W t D σ H) : upS Y W t D σ H := by
  obtain ⟨ρ, M, N, E0, r, m, z, g, xg⟩ := h
  have rm : ∀ {H' : Hp} {M' : MM}, RMx Y H' M' → RMx X H' M' := fun m' => by
    have m2 : RM Y.K Y.w _ _ := m'
    rw [hK, hw] at m2
    exact m2
  refine ⟨ρ, M, N, E0, by rw [hK]; exact r, by show RM Y.K Y.w H M; rw [hK, hw]; exact m, z, ⟨fun ρ' M' p σ' H' s' r' m' => g.nx ρ' M' p σ' H' s' (hK ▸ r') (rm m'), fun d M' p y H' s' r' m' => g.rt d M' p y H' s' (hK ▸ r') (rm m'), fun ρ' M' p σ' H' s' r' m' => g.bk ρ' M' p σ' H' s' (hK ▸ r') (rm m'), fun ρ' M' p σ' H' s' r' m' => g.ct ρ' M' p σ' H' s' (hK ▸ r') (rm m')⟩,
    fun x ρ' M' p cls d σ' H' s' r' rx m' => xg x ρ' M' p cls d σ' H' s' (hK ▸ r') (hK ▸ rx) (rm m')⟩
theorem su_ok {X : Cx} {W : WX} (g : Gd U k n X W) (hh : n.hot = false) {b : Stmt} {bs : List Stmt} {t : SuD} (hu : ∀ a x dd, JSs U k (n.su (a, x, dd)) (b :: bs) (t x a dd)) : SuOk X (b :: bs) (suT X t) := fun a oe cls d pn hz hv =>
  ⟨fun pins s σ H D I ⟨x, dd, h1, h2, h3⟩ => by
    subst h1 h2
    have hz' : L2N.Zn (.ref (He.ga U.K x.c)) (some dd) oe := by rw [← g.eK]; exact hz
    exact (hu a x dd _ W0 (g.suite hh (pn := pn) hz' hv)).run pins s σ H D I (upS_to (X := X) rfl rfl h3)⟩
theorem hds_ok {X : Cx} {W : WX} (g : Gd U k n X W) (hh : n.hot = false) {hs : List ExceptHandler} {l : List (Str × Option Nat × SuD)} (h : JHds U k n xs hs l) : Hds X hs (hdsL X l) ∧ ∀ q ∈ l, q.1 ∈ xs := by
  have cl : ∀ {c : Str}, n.sc.names.lookup c = some .globalImplicit → (c == ("__debug__" : Str)) = false → GCl U c → Names X c (.ref (He.ga X.K c)) := fun hg hd hm => ⟨g.gl hg, hd, .inl (by rw [g.eM, g.eK]; exact hm)⟩
  induction h with
  | nil => exact ⟨.nil, fun _ h => nomatch h⟩
  | bare hc hg hd hm hu r ih => exact ⟨.bare (cl hg hd hm) (su_ok g hh hu) ih.1, fun q hq => (List.mem_cons.mp hq).elim (fun e => e ▸ hc) (ih.2 q)⟩
  | named hc hg hd hm hi hy hu r ih => exact ⟨.named (cl hg hd hm) (g.ix hi) (by unfold PySem.Env.kindOf; rw [g.eS]; exact hy) (su_ok g hh hu) ih.1, fun q hq => (List.mem_cons.mp hq).elim (fun e => e ▸ hc) (ih.2 q)⟩
/-- try -/
theorem s_try {h0 : ExceptHandler} {hs : List ExceptHandler} {l : List (Str × Option Nat × SuD)} {pos : Pos} (T : XcK U.K xs) (hh : n.hot = false) (hx : n.ex = none) (ht : n.top = true) (hb : JSs U k n body tb) (hd : JHds U k n xs (h0 :: hs) l) :
    JS U k n (.Try body (h0 :: hs) [] [] pos) (wTry xs tb l) := fun X W g => by
  obtain ⟨h1, h2⟩ := hds_ok g hh hd
  obtain ⟨h3, h4⟩ := g.stk ht
  have T' : XcK X.K xs := by rw [g.eK]; exact T
  exact (ps_tryA (tb := fun W' => upS X W' tb) h3 h4 g.nm g.tk (fun W' pn xe tk po => (hb (X.tr pn xe) W' (g.tr hh hx tk po)).imp fun B σ H z => upS_to (X := X) rfl rfl z) h1).imp fun B σ H ⟨ρ, M, N, E0, r, m, z, gg, xg⟩ =>
    ⟨ρ, M, N, _, r, m, z, gg, go_hds T' h2 gg xg⟩
end
end Fg
/-! Fg14: what the head tells: defs, classes, errors. -/
namespace Fg
open PySem PySem.Spec L2
open PyProof.Rows hiding St
/-! ### an error class read off the written part -/
def initW? (fd : FuncData) : Option (InitW × Addr × Addr) := match fd with
  | { name := nm, qualname := q, params := { posonlyargs := [], args := [a1, a2], vararg := none, kwonlyargs := [], kw_defaults := [], kwarg := none, defaults := [] },
      body := .stmts [.Expr (.Call (.Attribute (.Call (.Name su p0) [] [] p1) ini p2) [.Constant (.str z) j p3] [] p4) p5, .Assign [.Attribute (.Name s1 p6) f p7] (.Name s2 p8) p9],
      scope := sc, globals := gl, closure := [(cl, cc)], defaults := .none, kwdefaults := _, doc := _, pyModule := _, annotations := _, code := .ref cda, closureTuple := _, builtins := bl } =>
    if nm = "__init__" ∧ su = "super" ∧ ini = "__init__" ∧ s1 = a1.arg ∧ s2 = a2.arg ∧ cl = "__class__" ∧ gl = mainGlobals ∧ bl = builtinsNs then some (⟨q, a1, a2, p0, p1, p2, p3, p4, p5, p6, p7, p8, p9, z, j, f, sc⟩, cc, cda) else none
  | _ => none
theorem initW?_ok {fd : FuncData} {W : InitW} {cc cda : Addr} (h : initW? fd = some (W, cc, cda)) : ∃ kV doc pm an ct, fd = PySem.W.ksFn "__init__" W.qual W.params W.body W.scope .none kV doc pm an (.ref cda) ct cc := by
  unfold initW? at h
  split at h
  · split at h
    · rename_i hc
      obtain ⟨rfl, rfl, rfl, rfl, rfl, rfl, rfl, rfl⟩ := hc
      cases h
      exact ⟨_, _, _, _, _, rfl⟩
    · cases h
  · cases h
def scB (sc : Scope) (a b : Str) : Bool := decide (sc.kind = .function) && (!sc.isCoroutine && (!sc.isGenerator && (sc.names.all (fun y => !decide (y.2 = .cell)) && (decide (sc.names.lookup a = some .local) && (decide (sc.names.lookup b = some .local) &&
  (decide (sc.names.lookup ("super" : Str) = some .globalImplicit) && (decide (sc.names.lookup ("__class__" : Str) = some .free) && (decide (a ≠ b) && (!(a == ("__debug__" : Str)) && !(b == ("__debug__" : Str)))))))))))
def clB (K : PySem.W.Frag) (C : Addr) (f : Str) : Bool := PySem.W.excInitIn K C PySem.ESX.exTail "Exception.__new__" && ((PySem.W.clsIn K C).any (·.hasDict) && (decide (PySem.W.findIn K (.ref C) "__setattr__" = some (some (.builtin "object.__setattr__"))) && (decide (PySem.W.findIn K (.ref C) f = some none) &&
  (decide (PySem.W.subIn K (.ref C) (.type "BaseException") = some true) && (decide (PySem.W.subIn K (.ref C) (.type "Exception") = some true) && (decide (PySem.W.mroIn K C (.ref C) = some true) && (decide (PySem.W.typeIn K (.ref C) = some (.type "type")) && (PySem.W.keepIn K (.ref C) &&
  (decide (PySem.W.ks_superIn K C C "__init__" = some (some (.builtin "Exception.__init__"))) && decide (PySem.W.nsIn K cStatics "thirdparty.any" = some none))))))))))
def cellB (K : PySem.W.Frag) (cc C : Addr) : Bool := match K.lookup cc with
  | some ⟨_, _, .cell (some (.ref D)), _⟩ => decide (D = C)
  | _ => false
def fileB (K : PySem.W.Frag) (cda : Addr) (file : Str) : Bool := match K.lookup cda with
  | some ⟨_, _, .fields vs, _⟩ => (match (vs[2]? : Option Value) with
    | some (Value.str fl _) => file == fl
    | _ => false)
  | _ => false
def exiB (K : PySem.W.Frag) (file c f : Str) : Bool := match K.lookup (He.ma K (He.ga K c) "__init__") with
  | some ⟨_, _, .func fd, _⟩ => (match initW? fd with
    | some (W, cc, cda) => decide (W.f = f) && (W.p2.endLine == W.p4.line && (scB W.scope W.sf.arg W.ar.arg && (clB K (He.ga K c) f && (cellB K cc (He.ga K c) && (fileB K cda file && (PySem.W.codeIn K (.ref cda) W.qual &&
      (decide (PySem.W.findIn K (.ref (He.ga K c)) "__init__" = some (some (.ref (He.ma K (He.ga K c) "__init__")))) && decide (PySem.W.typeIn K (.ref (He.ma K (He.ga K c) "__init__")) = some (.type "function")))))))))
    | none => false)
  | _ => false
theorem nb {a : Bool} (h : (!a) = true) : a = false := by cases a <;> simp_all
theorem exi_ok {P : Program} {K : PySem.W.Frag} {mg : Str → Option Value} {c f : Str} (h : exiB K P.main.file c f = true) (hs : mg "super" = none) (ht : (P.main.scope.names.lookup ("super" : Str)).isSome = false) : ∃ W : InitW, W.f = f ∧ ExI P K mg (He.ga K c) W := by
  unfold exiB at h
  split at h
  · rename_i oc od fd osl lk
    split at h
    · rename_i W cc cda hW
      obtain ⟨kV, doc, pm, an, ct, rfl⟩ := initW?_ok hW
      obtain ⟨h1, h⟩ := He.ba h
      obtain ⟨h2, h⟩ := He.ba h
      obtain ⟨h3, h⟩ := He.ba h
      obtain ⟨h4, h⟩ := He.ba h
      obtain ⟨h5, h⟩ := He.ba h
      obtain ⟨h6, h⟩ := He.ba h
      obtain ⟨h7, h⟩ := He.ba h
      obtain ⟨h8, h9⟩ := He.ba h
      obtain ⟨c1, h4⟩ := He.ba h4
      obtain ⟨c2, h4⟩ := He.ba h4
      obtain ⟨c3, h4⟩ := He.ba h4
      obtain ⟨c4, h4⟩ := He.ba h4
      obtain ⟨c5, h4⟩ := He.ba h4
      obtain ⟨c6, h4⟩ := He.ba h4
      obtain ⟨c7, h4⟩ := He.ba h4
      obtain ⟨c8, h4⟩ := He.ba h4
      obtain ⟨c9, h4⟩ := He.ba h4
      obtain ⟨c10, c11⟩ := He.ba h4
      obtain ⟨s1, h3⟩ := He.ba h3
      obtain ⟨s2, h3⟩ := He.ba h3
      obtain ⟨s3, h3⟩ := He.ba h3
      obtain ⟨s4, h3⟩ := He.ba h3
      obtain ⟨s5, h3⟩ := He.ba h3
      obtain ⟨s6, h3⟩ := He.ba h3
      obtain ⟨s7, h3⟩ := He.ba h3
      obtain ⟨s8, h3⟩ := He.ba h3
      obtain ⟨s9, h3⟩ := He.ba h3
      obtain ⟨s10, s11⟩ := He.ba h3
      have e1 : W.f = f := of_decide_eq_true h1
      obtain ⟨ocl, odl, osk, k5⟩ : ∃ ocl odl osk, K.lookup cc = some ⟨ocl, odl, .cell (some (.ref (He.ga K c))), osk⟩ := by
        unfold cellB at h5
        split at h5
        · rename_i o1 o2 D o3 e
          exact ⟨o1, o2, o3, (of_decide_eq_true h5) ▸ e⟩
        · cases h5
      obtain ⟨occ, odc, vs, osc, fl, tf, k6, k7, k8⟩ : ∃ occ odc vs osc fl tf, K.lookup cda = some ⟨occ, odc, .fields vs, osc⟩ ∧ vs[2]? = some (.str fl tf) ∧ ((P.main.file : Str) == fl) = true := by
        unfold fileB at h6
        split at h6
        · rename_i o1 o2 vs o3 e
          split at h6
          · rename_i fl tf e2
            exact ⟨o1, o2, vs, o3, fl, tf, e, e2, h6⟩
          · cases h6
        · cases h6
      refine ⟨W, e1, c1, c2, of_decide_eq_true c3, by rw [e1]; exact of_decide_eq_true c4, of_decide_eq_true c5, of_decide_eq_true c6, of_decide_eq_true c7, of_decide_eq_true c8, c9, of_decide_eq_true c10, hs, of_decide_eq_true c11, ht,
        of_decide_eq_true s1, nb s2, nb s3, fun y hy => of_decide_eq_false (nb (List.all_eq_true.mp s4 y hy)), of_decide_eq_true s5, of_decide_eq_true s6, of_decide_eq_true s7, of_decide_eq_true s8, of_decide_eq_true s9, nb s10, nb s11, h2, ?_⟩
      exact ⟨_, cc, cda, kV, doc, pm, ct, oc, occ, ocl, an, od, odc, odl, osl, osc, osk, vs, fl, tf, of_decide_eq_true h8, of_decide_eq_true h9, lk, h7, k5, k6, k7, k8⟩
    · cases h
  · cases h
/-! ### all error classes -/
def xcB (K : PySem.W.Frag) (c : Str) : Bool := xfB K (He.ga K c) && (xflds.all (fun f => decide (PySem.W.findIn K (.ref (He.ga K c)) f = some none)) && (decide (PySem.W.findIn K (.ref (He.ga K c)) "__class__" = some (some (.builtin "object.__class__"))) &&
  (decide (PySem.W.specialIn K (.builtin "object.__class__") "__get__" = some (some (.builtin "getset_descriptor.__get__"))) && (decide (PySem.W.takesIn K (.builtin "object.__class__") = some true) && decide (PySem.W.mroIn K (He.ga K c) (.type "object") = some true)))))
def xcAll (K : PySem.W.Frag) (xs : List Str) : Bool := xs.all fun c => xcB K c && ((xs.all fun d => decide (PySem.W.exmOne K (.ref (He.ga K c)) (.ref (He.ga K d)) = some (xsb c d)) && decide (PySem.W.kitOne K (.ref (He.ga K c)) (.ref (He.ga K d)) = some (xsb c d))) &&
  ((["ValueError", "LookupError", "ArithmeticError"] : List String).all fun T => decide (PySem.W.kitOne K (.ref (He.ga K c)) (.type T) = some false)))
theorem xc_ok {K : PySem.W.Frag} {xs : List Str} (h : xcAll K xs = true) : XcK K xs := by
  have q : ∀ c ∈ xs, _ := fun c hc => List.all_eq_true.mp h c hc
  have q1 : ∀ c ∈ xs, xcB K c = true := fun c hc => (He.ba (q c hc)).1
  have q2 : ∀ c ∈ xs, ∀ d ∈ xs, _ := fun c hc d hd => He.ba (List.all_eq_true.mp (He.ba (He.ba (q c hc)).2).1 d hd)
  have q3 : ∀ c ∈ xs, _ := fun c hc => List.all_eq_true.mp (He.ba (He.ba (q c hc)).2).2
  refine ⟨fun c hc => xfB_ok (He.ba (q1 c hc)).1, fun c hc f hf => of_decide_eq_true (List.all_eq_true.mp (He.ba (He.ba (q1 c hc)).2).1 f hf), fun c hc => ?_, fun c hc d hd => of_decide_eq_true (q2 c hc d hd).1, fun c hc d hd => of_decide_eq_true (q2 c hc d hd).2, fun c hc T hT => of_decide_eq_true (q3 c hc T hT)⟩
  obtain ⟨a1, z⟩ := He.ba (q1 c hc)
  obtain ⟨a2, z⟩ := He.ba z
  obtain ⟨a3, z⟩ := He.ba z
  obtain ⟨a4, z⟩ := He.ba z
  obtain ⟨a5, a6⟩ := He.ba z
  have F := xfB_ok a1
  exact ⟨F.ga, F.gg, F.exC, F.hdC, of_decide_eq_true a3, of_decide_eq_true a4, of_decide_eq_true a5, of_decide_eq_true a6⟩
/-! ### the hook -/
structure Hd where
  n : Nat
  fa : List He.Fa
  fn : List He.DefD
  xs : List Str
  xi : List (Str × Str)
  file : Str
def asF (g : Addr → Option Obj) : Nat → List Addr
  | 0 => [mainGlobals, cStatics]
  | n + 1 => He.growD g (asF g n)
def Hd.more (h : Hd) (K : PySem.W.Frag) : Bool := xcAll K h.xs && h.xi.all fun q => exiB K h.file q.1 q.2
abbrev AlF : Type := He.AlD × Bool
def Hd.obs (h : Hd) (g : Addr → Option Obj) : AlF := (He.obsD h.fa h.fn (He.frG g (asF g h.n)), h.more (He.frG g (asF g h.n)))
def Hd.says (h : Hd) (K : PySem.W.Frag) : Prop := He.SaysD h.fa h.fn K ∧ h.more K = true
def Hd.hook (h : Hd) : PySem.W.Hook where
  α := AlF
  obs := fun s => h.obs s.heap.get?
  val := fun _ => (He.valD h.fn, true)
  says := fun _ hp => ∃ K : PySem.W.Frag, K.In hp ∧ h.says K
  of := fun _ s e => ⟨He.frG s.heap.get? (asF s.heap.get? h.n), He.frG_in, congrArg (fun z : AlF => z.1) e, congrArg (fun z : AlF => z.2) e⟩
  keeps := fun _ _ _ ⟨K, inn, c⟩ k => ⟨K, PySem.W.Frag.In.keeps inn k, c⟩
theorem Hd.obs_eq (h : Hd) (s : PySem.W.SharedT) : h.obs (HandSHeadRun.getT s) = h.hook.obs s.abs := by
  have e : HandSHeadRun.getT s = s.abs.heap.get? := funext (HandSHeadRun.getT_eq s)
  rw [e] <;> rfl
end Fg
/-! Fg15: the forms with one Boolean side condition each, for printed proofs. -/
namespace Fg
open PySem PySem.Spec L2
open PyProof.Rows hiding St
def visB (sc : Scope) (x : Str) : Bool := match sc.names.lookup x with
  | some .local => true
  | some .cell => true
  | some .free => true
  | _ => false
theorem vis_ok {sc : Scope} {x : Str} (h : visB sc x = true) : Vis sc x := by
  unfold visB at h
  split at h
  · exact .inl (by assumption)
  · exact .inr (.inl (by assumption))
  · exact .inr (.inr (by assumption))
  · cases h
def dbg (x : Str) : Bool := !(x == ("__debug__" : Str))
theorem dbg_ok {x : Str} (h : dbg x = true) : (x == ("__debug__" : Str)) = false := nb h
def vB (n : Nm) (i : Nat) (x : Str) : Bool := decide (n.N[i]? = some x) && (visB n.sc x && (dbg x && !(x == ("__classdict__" : Str))))
def gB (n : Nm) (x : Str) : Bool := decide (n.sc.names.lookup x = some .globalImplicit) && dbg x
def stoB (n : Nm) (i : Nat) (x : Str) : Bool := decide (n.N[i]? = some x) && (match n.sc.names.lookup x with
  | some .local => true
  | some .cell => n.F x
  | _ => false)
theorem sto_ok {n : Nm} {i : Nat} {x : Str} (h : stoB n i x = true) : n.N[i]? = some x ∧ Sto n x := by
  obtain ⟨h1, h2⟩ := He.ba h
  refine ⟨of_decide_eq_true h1, ?_⟩
  split at h2
  · exact .inl (by assumption)
  · exact .inr ⟨by assumption, h2⟩
  · cases h2
/-- what the head tells of the module -/
structure Fct (h : Hd) (U : Ud) : Prop where
  K : U.K.In U.base
  G : U.base.Ns mainGlobals U.mg
  says : h.says U.K
  file : U.P.main.file = h.file
  top : (U.P.main.scope.names.lookup ("super" : Str)).isSome = false
section
variable {hd : Hd} {U : Ud}
theorem Fct.glo (F : Fct hd U) (i : Nat) {x : Str} (h : hd.fa[i]? = some (.glo x)) : U.mg x = some (.ref (He.ga U.K x)) := He.glo_ok F.K F.G (F.says.1.fact i h)
theorem Fct.free (F : Fct hd U) (i : Nat) {x : Str} (h : hd.fa[i]? = some (.free x)) : U.mg x = none := He.free_ok F.K F.G (F.says.1.fact i h)
theorem Fct.int (F : Fct hd U) (i : Nat) {x : Str} {j : Int} (h : hd.fa[i]? = some (.int x j)) : GC U x (.int j) := by
  obtain ⟨t, e⟩ := He.int_ok F.K F.G (F.says.1.fact i h)
  exact ⟨_, .int j, e, ⟨t, rfl⟩, fun _ => .int j⟩
theorem Fct.str (F : Fct hd U) (i : Nat) {x z : Str} (h : hd.fa[i]? = some (.str x z)) : GC U x (.str z) := by
  obtain ⟨t, e⟩ := He.str_ok F.K F.G (F.says.1.fact i h)
  exact ⟨_, .str z, e, ⟨t, rfl⟩, fun _ => .str z⟩
theorem Fct.xc (F : Fct hd U) : XcK U.K hd.xs := xc_ok (He.ba F.says.2).1
theorem Fct.exi (F : Fct hd U) {c f : Str} (i : Nat) (h : hd.xi[i]? = some (c, f)) (hs : U.mg "super" = none) : ∃ W : InitW, W.f = f ∧ ExI U.P U.K U.mg (He.ga U.K c) W := by
  have q := List.all_eq_true.mp (He.ba F.says.2).2 (c, f) (List.mem_of_getElem? h)
  rw [← F.file] at q
  exact exi_ok q hs F.top
/-- a global def keeps what its body does -/
theorem Fct.fn (F : Fct hd U) {k : Nat} {N ps : List Str} {w : WS} (i j : Nat) {d : He.DefD} {x : Str} (h : hd.fn[i]? = some d) (ha : d.at_ = (x, none)) (hf : d.dfl = [] ∧ d.kwd = []) (hg : hd.fa[j]? = some (.glo x)) (S : FnScope N ps d.scope)
    (hb : ∀ (kV doc pm : Value) (an : Option Addr) (cdv ct : Value) (us : List Value), us.length = ps.length → bindArgs (PySem.W.fnOf d.name d.qual d.params d.body d.scope .none kV doc pm an cdv ct) ⟨us, []⟩ = pure (ps.zip us))
    (hk : JSs U k ⟨N, d.scope, fun _ => true, false, none, true⟩ d.body w) : FnHas U.P U.w U.K U.mg U.base (k + 1) x (spW N ps.length w) := by
  obtain ⟨fd, D⟩ := F.says.1.def_ i h
  have e1 : d.dvs U.K = [] := by unfold He.DefD.dvs; rw [hf.1]; rfl
  have e2 : d.kws U.K = [] := by unfold He.DefD.kws; rw [hf.2]; rfl
  rw [e1, e2, ha] at D
  exact ⟨_, F.glo j hg, fn_at D S hb hk⟩
/-- .. that never is called -/
theorem Fct.fn0 (F : Fct hd U) {k : Nat} {ps : List Str} (i j : Nat) {d : He.DefD} {x : Str} (h : hd.fn[i]? = some d) (ha : d.at_ = (x, none)) (hf : d.dfl = [] ∧ d.kwd = []) (hg : hd.fa[j]? = some (.glo x))
    (hb : ∀ (kV doc pm : Value) (an : Option Addr) (cdv ct : Value) (us : List Value), us.length = ps.length → bindArgs (PySem.W.fnOf d.name d.qual d.params d.body d.scope .none kV doc pm an cdv ct) ⟨us, []⟩ = pure (ps.zip us)) :
    FnHas U.P U.w U.K U.mg U.base k x (fun _ _ _ _ => False) := by
  obtain ⟨fd, D⟩ := F.says.1.def_ i h
  have e1 : d.dvs U.K = [] := by unfold He.DefD.dvs; rw [hf.1]; rfl
  have e2 : d.kws U.K = [] := by unfold He.DefD.kws; rw [hf.2]; rfl
  rw [e1, e2, ha] at D
  refine ⟨_, F.glo j hg, fd, ps, ⟨fun vs H Q E z => ?_, fun A outer s H args us vs Q E _ _ _ _ z => ?_⟩, D.kp, D.bindsN hb⟩
  · obtain ⟨_, _, _, _, _, _, z, _⟩ := z
    exact z.elim
  · obtain ⟨_, _, _, _, _, _, z, _⟩ := z
    exact z.elim
end
section
variable {U : Ud} {k : Nat} {n : Nm} {e a b c tg iter elt : Expr} {es : List Expr} {pos pos' p apos : Pos} {x m : Str} {wa wb wc w : WE} {ws : WA} {g : WG} {wi : WI} {t u : WS} {sts body : List Stmt}
theorem m_var (i : Nat) (h : vB n i x = true) : JE U k n (.Name x pos) (wVar i) := by
  obtain ⟨h1, h⟩ := He.ba h
  obtain ⟨h2, h⟩ := He.ba h
  obtain ⟨h3, h4⟩ := He.ba h
  exact n_var i (of_decide_eq_true h1) (vis_ok h2) (dbg_ok h3) (nb h4)
theorem m_gc {d : D} (f : GC U x d) (h : gB n x = true) : JE U k n (.Name x pos) (wCst d) := n_gc f (of_decide_eq_true (He.ba h).1) (dbg_ok (He.ba h).2)
def tyB (n : Nm) (x : Str) (T : String) : Bool := gB n x && (decide (bootBuiltins x = some (.type T)) && decide (x ≠ "__name__"))
theorem m_ty (T : String) (f : U.mg x = none) (h : tyB n x T = true) : JE U k n (.Name x pos) (wCst (.ty T)) := by
  obtain ⟨h1, h⟩ := He.ba h
  obtain ⟨h2, h3⟩ := He.ba h
  exact n_ty (of_decide_eq_true (He.ba h1).1) f (of_decide_eq_true h2) (of_decide_eq_true h3) (dbg_ok (He.ba h1).2)
def caB (n : Nm) (x : Str) (es : List Expr) : Bool := gB n x && (es.all noStar && !n.hot)
theorem m_call {sp : SpD} {j : Nat} (f : FnHas U.P U.w U.K U.mg U.base j x sp) (hj : j ≤ k) (h : caB n x (e :: es) = true) (ha : JA U k n (e :: es) ws) : JE U k n (.Call (.Name x p) (e :: es) [] pos) (wCall sp ws) := by
  obtain ⟨h1, h⟩ := He.ba h
  obtain ⟨h2, h3⟩ := He.ba h
  exact n_call f (nb h3) hj (of_decide_eq_true (He.ba h1).1) (dbg_ok (He.ba h1).2) ha h2
theorem m_call0 {sp : SpD} {j : Nat} (f : FnHas U.P U.w U.K U.mg U.base j x sp) (hj : j ≤ k) (h : caB n x [] = true) : JE U k n (.Call (.Name x p) [] [] pos) (wCall sp wNil) := by
  obtain ⟨h1, h⟩ := He.ba h
  exact n_call0 f (nb (He.ba h).2) hj (of_decide_eq_true (He.ba h1).1) (dbg_ok (He.ba h1).2)
def bfB (n : Nm) (x : Str) (v : Value) (es : List Expr) : Bool := gB n x && (decide (bootBuiltins x = some v) && (decide (x ≠ "__name__") && es.all noStar))
theorem m_blt {id : String} {o : CD} (hc : ∀ X W, Gd U k n X W → CallR X (.builtin id) (upC X o)) (f : U.mg x = none) (h : bfB n x (.builtin id) (e :: es) = true) (ha : JA U k n (e :: es) ws) : JE U k n (.Call (.Name x p) (e :: es) [] pos) (wCl o ws) := by
  obtain ⟨h1, h⟩ := He.ba h
  obtain ⟨h2, h⟩ := He.ba h
  obtain ⟨h3, h4⟩ := He.ba h
  exact n_blt hc (of_decide_eq_true (He.ba h1).1) f (of_decide_eq_true h2) (of_decide_eq_true h3) (dbg_ok (He.ba h1).2) ha h4
theorem m_bty {T : String} {o : CD} (hc : ∀ X W, Gd U k n X W → CallR X (.type T) (upC X o)) (f : U.mg x = none) (h : bfB n x (.type T) (e :: es) = true) (ha : JA U k n (e :: es) ws) : JE U k n (.Call (.Name x p) (e :: es) [] pos) (wCl o ws) := by
  obtain ⟨h1, h⟩ := He.ba h
  obtain ⟨h2, h⟩ := He.ba h
  obtain ⟨h3, h4⟩ := He.ba h
  exact n_bty hc (of_decide_eq_true (He.ba h1).1) f (of_decide_eq_true h2) (of_decide_eq_true h3) (dbg_ok (He.ba h1).2) ha h4
theorem f_abs : ∀ X W, Gd U k n X W → CallR X (.builtin "abs") (upC X cAbs) := fun _ _ _ => cr_cAbs
theorem f_len : ∀ X W, Gd U k n X W → CallR X (.builtin "len") (upC X cLen) := fun _ _ _ => cr_cLen
theorem f_isi : ∀ X W, Gd U k n X W → CallR X (.builtin "isinstance") (upC X cIsi) := fun _ _ _ => cr_cIsi
theorem f_int : ∀ X W, Gd U k n X W → CallR X (.type "int") (upC X cInt) := fun _ _ _ => cr_cInt
theorem f_str : ∀ X W, Gd U k n X W → CallR X (.type "str") (upC X cStr) := fun _ _ _ => cr_cStr
theorem f_list : ∀ X W, Gd U k n X W → CallR X (.type "list") (upC X cList) := fun _ _ _ => cr_cList
theorem f_tuple : ∀ X W, Gd U k n X W → CallR X (.type "tuple") (upC X cTuple) := fun _ _ _ => cr_cTuple
theorem f_max (h : n.hot = false) : ∀ X W, Gd U k n X W → CallR X (.builtin "max") (upC X cMax) := fun _ _ g => cr_cMax (g.calm h)
theorem f_min (h : n.hot = false) : ∀ X W, Gd U k n X W → CallR X (.builtin "min") (upC X cMin) := fun _ _ g => cr_cMin (g.calm h)
theorem f_all (h : n.hot = false) : ∀ X W, Gd U k n X W → CallR X (.builtin "all") (upC X cAll) := fun _ _ g => cr_cAll (g.calm h)
theorem f_any (h : n.hot = false) : ∀ X W, Gd U k n X W → CallR X (.builtin "any") (upC X cAny) := fun _ _ g => cr_cAny (g.calm h)
theorem f_sum (h : n.hot = false) : ∀ X W, Gd U k n X W → CallR X (.builtin "sum") (upC X cSum) := fun _ _ g => cr_cSum (g.calm h)
theorem m_acons (ha : JE U k n e wa) (hr : JA U k n es ws) (h : noStar e = true) : JA U k n (e :: es) (wCons wa ws) := a_cons ha hr h
theorem m_rng1 (f : U.mg "range" = none) (h : caB n "range" [a] = true) (ha : JA U k n [a] ws) : JI U k n tg (.Call (.Name "range" p) [a] [] pos) (wRng1 ws) := by
  obtain ⟨h1, h⟩ := He.ba h
  obtain ⟨h2, h3⟩ := He.ba h
  rw [List.all_cons, Bool.and_eq_true] at h2
  exact i_rng1 (of_decide_eq_true (He.ba h1).1) f ha h2.1
theorem m_rng2 (f : U.mg "range" = none) (h : caB n "range" [a, b] = true) (ha : JA U k n [a, b] ws) : JI U k n tg (.Call (.Name "range" p) [a, b] [] pos) (wRng2 ws) := by
  obtain ⟨h1, h⟩ := He.ba h
  obtain ⟨h2, h3⟩ := He.ba h
  rw [List.all_cons, List.all_cons, Bool.and_eq_true, Bool.and_eq_true] at h2
  exact i_rng2 (of_decide_eq_true (He.ba h1).1) f ha h2.1 h2.2.1
theorem m_set (i : Nat) (h : (stoB n i x && !isComp e) = true) (he : JE U k n e w) : JS U k n (.Assign [.Name x pos'] e pos) (wAsg w (gNm i)) := by
  obtain ⟨h1, h2⟩ := He.ba h
  exact s_set (sto_ok h1).1 (sto_ok h1).2 he (nb h2)
theorem m_gnm (i : Nat) {R : SR} (h : stoB n i x = true) (hR : ∀ σ v, R σ (σ.set i v)) : JG U k n R (.Name x pos) (gNm i) := g_nm (sto_ok h).1 (sto_ok h).2 hR
theorem m_for (h : (!n.hot && !isSet iter) = true) (hi : JI U k n tg iter wi) (hg : JG U k n anyR tg g) (hb : JSs U k n body t) : JS U k n (.For tg iter body [] pos) (wFor wi g t) := s_for (nb (He.ba h).1) hi hg hb (nb (He.ba h).2)
section
variable {scope : Scope} {own : List (Str × Nat)} {tt : WB}
theorem m_lc (own : List (Str × Nat)) (h : (!n.hot && (blkC n.N n.sc scope own && !isSet iter)) = true) (hi : JI U k n tg iter wi) (hg : JG U k (n.blk scope) (ownR (own.map (·.2))) tg g) (ht : JTs U k (n.blk scope) es tt) (he : JE U k (n.blk scope) elt w) :
    JE U k n (.ListComp elt [⟨tg, iter, es, 0⟩] scope pos) (wLc wi (own.map (·.2)) g tt w) := n_lc (nb (He.ba h).1) (He.ba (He.ba h).2).1 hi hg ht he (nb (He.ba (He.ba h).2).2)
/-- whether name = [..] is stored ahead of the block's end or behind it, the same -/
theorem m_slc (own : List (Str × Nat)) (i : Nat) {py spos : Pos} (h : ((!n.hot && (blkC n.N n.sc scope own && !isSet iter)) && stoB n i x) = true) (hi : JI U k n tg iter wi) (hg : JG U k (n.blk scope) (ownR (own.map (·.2))) tg g)
    (ht : JTs U k (n.blk scope) es tt) (he : JE U k (n.blk scope) elt w) : JS U k n (.Assign [.Name x py] (.ListComp elt [⟨tg, iter, es, 0⟩] scope pos) spos) (wAsg (wLc wi (own.map (·.2)) g tt w) (gNm i)) := by
  obtain ⟨h, h3⟩ := He.ba h
  obtain ⟨s1, s2⟩ := sto_ok h3
  cases q : swB n.sc scope x py pos with
  | false => exact s_lc' s1 s2 q (m_lc own h hi hg ht he)
  | true =>
    have hl : n.sc.names.lookup x = some .local := by
      unfold swB at q
      simp only [Bool.and_eq_true, beq_iff_eq] at q
      exact q.1.1.2
    exact s_lc (nb (He.ba h).1) s1 hl q (He.ba (He.ba h).2).1 hi hg ht he (nb (He.ba (He.ba h).2).2)
end
end
end Fg
/-! Fg16: a list comprehension within an except suite; isinstance of the caught error. -/
namespace Fg
open PySem PySem.Spec L2
open PyProof.Rows hiding St
open L2H (HotC Hot1 PIH TurnH)
abbrev blkP (X : Cx) (s : Shared) (H : Hp) (scope : Scope) (cenv : PySem.Env) (fp : List Addr) (p : Addr × Obj) : Cx := { X.blk s H scope cenv fp with pn := [p] }
abbrev Loc3 := List (Str × Addr)
section
variable {X : Cx} {pins : List (Addr × Obj)} {σ : St} {H : Hp} {s : Shared} {p : Addr × Obj} {scope : Scope} {own : List (Str × Nat)} {fp : List Addr}
abbrev cloC (X : Cx) (s : Shared) (scope : Scope) : Loc3 := cellsFrom (s.heap.objs.size + 1) scope.names (cloFrom X.env.cells scope.names [])
abbrev envC (X : Cx) (s : Shared) (scope : Scope) : PySem.Env := compEnvC scope (cloC X s scope) s.heap.objs.size X.env
abbrev heapC (s : Shared) (scope : Scope) : Shared := { s with heap := pushCells (s.heap.push { cls := .type "dict", data := .dict #[] }) scope.names }
theorem heapC_keeps {b : Addr} {o : Obj} (e : s.heap.get? b = some o) : (heapC s scope).heap.get? b = some o := pushCells_keeps _ _ _ _ (Heap.get?_push_of_some _ e)
theorem blkP_start (I : Inv X pins σ H s) (hm : p ∈ X.pn) (ok : BlkOk X.N X.env.scope scope own) (hN : X.N.Nodup) (hfp : ∀ b ∈ fp, FpOk X pins H b ∧ b < s.heap.objs.size) :
    Inv (blkP X s H scope (envC X s scope) fp p) [] (wipe σ (own.map (·.2))) H (heapC s scope) := by
  have B := block_start I ok hN hfp
  obtain ⟨g1, g2, g3, g4, g5⟩ := I.pin p (List.mem_append_left _ hm)
  have k := B.ok
  refine ⟨⟨k.mod, k.kind, k.glob, k.blt, k.above, k.inj, k.has, k.cab, k.hd, k.frames, k.stk, k.exf, k.bs, k.bsz, k.noex, k.exfs, k.funs, k.frf⟩, B.os, B.bare, B.base, B.loc, B.cell, B.free, B.freeC, fun r hr => ?_, B.hok, B.len⟩
  have er : r = p := by simpa using hr
  subst er
  refine ⟨heapC_keeps g1, g2, Nat.ne_of_lt (Heap.lt_size g1), fun hf => ?_, g5⟩
  rcases I.ok.stk with e | ⟨e, f⟩
  · exact g4 (by show r.1 ∈ frs X.outer; rw [← e]; exact hf)
  · have hf : r.1 ∈ frs X.stack := hf
    rw [e] at hf
    unfold frs at hf
    rw [List.filterMap_cons, f] at hf
    rcases List.mem_cons.mp hf with z | z
    · exact g3 z
    · exact g4 z
variable {elt tg iter : Expr} {ifs : List Expr} {pos : Pos} {wi : TI} {g : TG} {tt : TT} {te : TE} {Q : VK}
theorem lc_hot (hp : Hot1 X.A p) (hm : p ∈ X.pn) (hN : X.N.Nodup) (I : Inv X pins σ H s) (hi : PIH X tg iter wi) (ok : BlkOk X.N X.env.scope scope own)
    (hg : ∀ (s : Shared) (H : Hp) (C : Addr) (cl : Loc3) (fp : List Addr), PG (blkP X s H scope (compEnvC scope cl C X.env) fp p) tg g) (ht : ∀ (s : Shared) (H : Hp) (C : Addr) (cl : Loc3) (fp : List Addr), PTs (blkP X s H scope (compEnvC scope cl C X.env) fp p) ifs tt)
    (he : ∀ (s : Shared) (H : Hp) (C : Addr) (cl : Loc3) (fp : List Addr), PE (blkP X s H scope (compEnvC scope cl C X.env) fp p) elt te) (hs : ∀ x, foldedSetIterable iter X.env x = pure x) (h : tLc wi g tt te (own.map (·.2)) σ H Q) :
    wpAny (model X.prog X.w) X.A (eval (.ListComp elt [⟨tg, iter, ifs, 0⟩] scope pos) X.env) (EP X pins σ Q) X.xe s := by
  have cellOf : ∀ y ∈ scope.names, y.2 = .free → ∃ c, X.env.cells.lookup y.1 = some c := fun y hy e => (ok.free y hy e).elim (fun k => I.ok.has _ (.inl k)) fun k => I.ok.has _ (.inr k)
  rw [eval_ListComp]
  refine wpAny_comprehension_free (use := none) rfl hs (closure_ok cellOf) ok.kind (fun y hy e => (ok.uniq y hy).trans (by rw [e])) (thn (hi.run pins s σ H _ I h) fun xv s1 hx => thn hx fun itv s2 h2 => ?_)
  obtain ⟨it, fp, tn, J, H2, rfl, I2, T, st2, f2, q⟩ := h2
  refine wpAny_newObj_type (newEnv_comp ?_) (Nat.zero_le sizeLine)
  have fresh : H2 s2.heap.objs.size = none := I2.hok.fresh (Nat.le_refl _)
  obtain ⟨Wm, ⟨m0, w0⟩, turn⟩ := q _ fresh
  generalize eD : s2.heap.objs.size = D at *
  generalize e3 : ({ s2 with heap := s2.heap.push { cls := .type "list", data := .seq ([] : List Value).toArray } } : Shared) = s3
  have p3 : s3.heap = s2.heap.push { cls := .type "list", data := .seq ([] : List Value).toArray } := by rw [← e3]
  have I3 : Inv X pins σ (upd H2 D (.lst [])) s3 := by
    subst e3 eD
    exact I2.laid (t' := s2.toks) (fun b o e => Heap.get?_push_of_some _ e) (Nat.le_refl _) ⟨Nat.zero_le _, [], 0, .nil, Heap.get?_push_size _ rfl⟩
  have fr3 : ∀ b ∈ fp, FpOk X pins (upd H2 D (.lst [])) b ∧ b < s3.heap.objs.size := fun b hb => by
    obtain ⟨o, e, _⟩ := T.obj _ _ st2 b hb
    have hl := Heap.lt_size e
    have z := f2 b hb
    exact ⟨⟨by rw [upd_ne (by rw [← eD]; exact Nat.ne_of_lt hl)]; exact z.1, z.2⟩, by rw [p3, Heap.size_push]; exact Nat.lt_succ_of_lt hl⟩
  generalize eH : upd H2 D (.lst []) = H3 at *
  have I4 := blkP_start I3 hm ok hN fr3
  have Lg := hg s3 H3 s3.heap.objs.size (cloC X s3 scope) fp
  have Lt := ht s3 H3 s3.heap.objs.size (cloC X s3 scope) fp
  have Le := he s3 H3 s3.heap.objs.size (cloC X s3 scope) fp
  have st4 : tn 0 (heapC s3 scope).heap := T.keep _ _ _ st2 fun b _ o e => heapC_keeps (by rw [p3]; exact Heap.get?_push_of_some _ e)
  have hotY : HotC (blkP X s3 H3 scope (envC X s3 scope) fp p) := ⟨p, hp, List.mem_singleton.mpr rfl⟩
  have hpn : ∀ b ∈ fp, p.1 ≠ b := fun b hb => (fr3 b hb).1.2.2.2.2.2 p (List.mem_append_left _ hm)
  have fpY : ∀ {σ' : St} {H' : Hp} {s' : Shared}, Inv (blkP X s3 H3 scope (envC X s3 scope) fp p) [] σ' H' s' → (∀ b ∈ fp, H' b = none) → ∀ b ∈ fp, FpOk (blkP X s3 H3 scope (envC X s3 scope) fp p) [] H' b := fun {σ' H' s'} K n b hb =>
    ⟨n b hb, (K.ok.exf b hb).1, K.ok.exfs b hb, .inl hb, fun x c e => (K.ok.exf b hb).2 x c e, fun r hr => by
      have er : r = p := by simpa using hr
      rw [er]; exact hpn b hb⟩
  show codeAny _ _ (.compStart _ 0 (.ref it) (.ref D) (envC X s3 scope)) (compPost _ _ _ none _ (.ref D) s3.heap.objs.size) (heapC s3 scope)
  have loop : codeAny (model X.prog X.w) X.A (.compLoop (.ListComp elt [⟨tg, iter, ifs, 0⟩] scope pos) 0 (.ref it) (.ref D) (envC X s3 scope)) (compPost (model X.prog X.w) X.A X.xe none (EP X pins σ Q) (.ref D) s3.heap.objs.size) (heapC s3 scope) := by
    refine compLoop_any (fun m s' => ∃ i H', Inv (blkP X s3 H3 scope (envC X s3 scope) fp p) [] (wipe σ (own.map (·.2))) H' s' ∧ tn i s'.heap ∧ (∀ b ∈ fp, H' b = none) ∧ Wm i m H') ?_ m0 ⟨0, H3, I4, st4, fun b hb => (fr3 b hb).1.1, w0⟩
    rintro m s5 ⟨i, H5, I5, st5, n5, w5⟩
    rcases turn i m H5 w5 with ⟨stop, qq⟩ | ⟨go, Nx, hNx, step⟩
    · refine thnF (T.done (blkP X s3 H3 scope (envC X s3 scope) fp p) rfl rfl rfl hotY i [] s5 _ H5 (fun _ _ => False) I5 (fpY I5 n5) st5 stop) fun r s6 ⟨hr, I6⟩ => ?_
      subst hr
      have I7 : Inv X pins σ H5 s6 := I3.call' (ch := fp) I6.os I6.base I6.hok I6.bare fun b hb => let z := (fr3 b hb).1.2; ⟨z.2.2.1, z.1, z.2.2.2.1, z.2.2.2.2⟩
      have nC : H5 s3.heap.objs.size = none := I6.free
      obtain ⟨mm, hn, _⟩ := I6.loc
      obtain ⟨a0, a1, a2, a3, a4, a5⟩ := I3.fpOk (Nat.le_refl _) nC
      exact ⟨mm, hn, fun h'' sb => ⟨.ref D, H5, I7.turned (t' := s6.toks) (fun b o hb e => (sb.2 b hb).trans e) a0 a1 a3 a4 a5, rfl, qq⟩⟩
    · refine thnF (T.item (blkP X s3 H3 scope (envC X s3 scope) fp p) rfl rfl rfl hotY i [] s5 _ H5 (fun _ _ => False) I5 (fpY I5 n5) st5 go) fun r s6 ⟨u, hr, h6⟩ => ?_
      subst hr
      refine thnF h6 fun _ s7 ⟨x, H7, I7, r7, yl7, st7, n7⟩ => ?_
      have I7' := I7.pinned (fpY I7 n7) (T.obj _ _ st7)
      refine thnF (Lg.run _ s7 _ H7 x u _ I7' r7 (step x H7 yl7)) fun _ s8 ⟨σ8, H8, I8, hw8, q8⟩ => ?_
      have close : ∀ {s' : Shared} {H' : Hp}, Inv (blkP X s3 H3 scope (envC X s3 scope) fp p) ([] ++ pinsAt fp s7.heap) σ8 H' s' → Nx H' → ∃ m', m' < m ∧ ∃ i H', Inv (blkP X s3 H3 scope (envC X s3 scope) fp p) [] (wipe σ (own.map (·.2))) H' s' ∧ tn i s'.heap ∧ (∀ b ∈ fp, H' b = none) ∧ Wm i m' H' := fun {s' H'} K nx => by
        obtain ⟨m', lt, w'⟩ := hNx H' nx
        have kp : ∀ b ∈ fp, ∀ o, s7.heap.get? b = some o → s'.heap.get? b = some o ∧ H' b = none := fun b hb o e =>
          let z := K.pin (b, o) (List.mem_append_right _ (List.mem_append_right _ (mem_pinsAt hb e))); ⟨z.1, z.2.1⟩
        refine ⟨m', lt, i + 1, H', (K.unpinned (pins := [])).weak (by rw [← hw8, wipe_length]) (fun j v e => ?_), T.keep _ _ _ st7 fun b hb o e => (kp b hb o e).1, fun b hb => ?_, w'⟩
        · rw [← hw8] at e; exact (wipe_some e).1
        · obtain ⟨o, e, _⟩ := T.obj _ _ st7 b hb
          exact (kp b hb o e).2
      refine thnF (Lt.run _ s8 σ8 H8 _ I8 q8) fun b s9 ⟨H9, I9, q9⟩ => ?_
      cases b with
      | false => exact close I9 q9
      | true => exact thnF (Le.run _ s9 σ8 H9 _ I9 q9) fun z s10 ⟨yv, H10, I10, r10, acc, hD, hz, nx⟩ => app_ok (X := blkP X s3 H3 scope (envC X s3 scope) fp p) I10 hD hz r10 fun s11 I11 => close I11 nx
  refine codeAny_compStart_list loop ?_
  exact T.self X.A 0 _ _ _ st4 loop
end
theorem PIH_imp {X : Cx} {tg e : Expr} {t t' : TI} (h : PIH X tg e t) (q : ∀ σ H R, t' σ H R → t σ H R) : PIH X tg e t' := ⟨fun pins s σ H R I z => h.run pins s σ H R I (q σ H R z)⟩
def JIH (U : Ud) (k : Nat) (n : Nm) (tg e : Expr) (w : WI) : Prop := ∀ X W, Gd U k n X W → PIH X tg e (upI X W w)
/-- a block within a suite -/
def Nm.blkH (n : Nm) (scope : Scope) : Nm := ⟨n.N, relS scope n.sc, fun x => scope.names.lookup x == some .cell, true, none, false⟩
section
variable {U : Ud} {k : Nat} {n : Nm} {a elt tg iter : Expr} {es : List Expr} {pos p : Pos} {ws : WA} {wi : WI} {g : WG} {tt : WB} {w : WE} {scope : Scope} {own : List (Str × Nat)}
theorem Gd.blkH {X : Cx} {W : WX} (g : Gd U k n X W) (hh : n.hot = true) {p : Addr × Obj} (hp : Hot1 X.A p) (s : Shared) (H : Hp) (scope : Scope) (C : Addr) (cl : Loc3) (fp : List Addr) : Gd U k (n.blkH scope) (blkP X s H scope (compEnvC scope cl C X.env) fp p) W0 := by
  have e : (compEnvC scope cl C X.env).scope = relS scope X.env.scope := rfl
  exact ⟨g.eP, g.eW, g.eK, g.eM, g.eB, g.eN, by rw [e, g.eS]; rfl, g.nd, fun h => (nomatch h), fun h => (nomatch h), g.hu, takes0N, fun h => (nomatch h), fun _ _ _ h => (nomatch h), fun _ => ⟨⟨p, hp, List.mem_singleton.mpr rfl⟩, (g.hotc hh).2⟩, fun h => (nomatch h), fun _ h => h⟩
theorem h_rng1 (f : U.mg "range" = none) (hg : gB n "range" = true) (hs : noStar a = true) (ha : JA U k n [a] ws) : JIH U k n tg (.Call (.Name "range" p) [a] [] pos) (wRng1 ws) := fun X W g =>
  PIH_imp (L2H.pi_range1H (g.gl (of_decide_eq_true (He.ba hg).1)) (g.mgN f) (ha X W g) (star_cons hs)) rng1_up
theorem n_lcH (hh : n.hot = true) (ok : blkC n.N n.sc scope own = true) (hi : JIH U k n tg iter wi) (hg : JG U k (n.blkH scope) (ownR (own.map (·.2))) tg g) (ht : JTs U k (n.blkH scope) es tt) (he : JE U k (n.blkH scope) elt w) (hs : isSet iter = false) :
    JE U k n (.ListComp elt [⟨tg, iter, es, 0⟩] scope pos) (wLc wi (own.map (·.2)) g tt w) := fun X W g' => by
  obtain ⟨⟨p, hp, hm⟩, _⟩ := g'.hotc hh
  have hb : BlkOk X.N X.env.scope scope own := by have := blkOk_by ok; rw [← g'.eN, ← g'.eS] at this; exact this
  refine ⟨fun pins s σ H Q I z => ?_⟩
  exact lc_hot (g := upGR X W0 (ownR (own.map fun (p : Str × Nat) => p.2)) g) (tt := upB X W0 tt) (te := upE X W0 w) hp hm g'.nm I (hi X W g') hb (fun s H C cl fp => hg _ _ (g'.blkH hh hp s H scope C cl fp)) (fun s H C cl fp => ht _ _ (g'.blkH hh hp s H scope C cl fp)) (fun s H C cl fp => he _ _ (g'.blkH hh hp s H scope C cl fp)) (fold_no hs) (tLc_of z)
end
end Fg
/-! Fg17: isinstance of the caught error. -/
namespace Fg
open PySem PySem.Spec L2
open PyProof.Rows hiding St
section
variable {prog : Program} {w : World} {A : Around} {E : Value → Shared → Prop} {s : Shared} {K : PySem.W.Frag} {x D : Addr} {ox : Obj} {od : Option Obj}
theorem err_find (F : ExcC K D) : PySem.W.findObj K D od "__class__" = some (.bind (.builtin "getset_descriptor.__get__") (.builtin "object.__class__")) := by
  obtain ⟨cd, hc, _⟩ := PySem.W.any_some F.hd
  have e : PySem.W.findObj K D od "__class__" = (PySem.W.clsIn K D).bind fun cd => _ := rfl
  rw [e, hc, Option.bind_some, F.ha, Option.bind_some]
  simp [F.hn, F.ht]
theorem err_class {Q : Option Value → Shared → Prop} (F : ExcC K D) (X : K.In s.heap) (I : PySem.W.InstAt s.heap x ox D od) (h : Q (some (.ref D)) { s with toks := s.toks + 1 }) : wpAny (model prog w) A (getAttr? (.ref x) "__class__") Q E s := by
  have fo := err_find (od := od) F
  obtain ⟨hp, g, d, t, os⟩ := s
  have ty := I.type (M := model prog w)
  have up : PySem.W.Looks (model prog w) hp (isInstance (.ref x) (.type "BaseException")) true := ty.andThen (PySem.W.looks_subIn X F.hs)
  have n0 : (Value.builtin "BaseException.__getattribute__" == Value.builtin "object.__getattribute__") = false := by decide +kernel
  have n1 : (onTheHeap (Value.ref D) && Value.builtin "BaseException.__getattribute__" == Value.builtin "object.__getattribute__") = false := by rw [n0]; rfl
  have n2 : (false && onTheHeap (Value.builtin "BaseException.__getattribute__")) = false := rfl
  have inner : ∀ {R : Result → Shared → Prop}, R (.ok (.ret (.ref D))) ⟨hp, g, d, t + 1, os⟩ → codeAny (model prog w) A (.call (.builtin "BaseException.__getattribute__") ⟨[.ref x, .str "__class__" t], []⟩) R ⟨hp, g, d, t + 1, os⟩ := fun {R} q => by
    refine codeAny_call_builtin PySem.F.excAttr_ValueError.ga.plain PySem.F.entry_bexc_ga (@PySem.W.check_slot (model prog w) _ _ ⟨hp, g, d, t + 1, os⟩ "BaseException.__getattribute__" "BaseException" "__getattribute__" (.ref x) [.str "__class__" t] [] _ (by decide +kernel) (by decide +kernel) up (PySem.F.args_bexc_ga (.ref x) (.str "__class__" t)) ?_)
    unfold Builtin.«object.__getattribute__»
    refine wpAny_bind (wpAny_of_eq (a := ((Value.ref x : Value), [Value.str "__class__" t])) (by first | rfl | (simp only [slotArgs]; rfl)) (wpAny_bind (wpAny_pure (wpAny_bind (ty.at (wpAny_bind ((PySem.W.looks_find X I fo).at ?_)))))))
    show wpAny (model prog w) _ (holding [Value.builtin "object.__class__"] (call (.builtin "getset_descriptor.__get__") [.builtin "object.__class__", .ref x, .ref D]) >>= ret) _ _ _
    exact wpAny_bind (wpAny_holding (wpAny_call (PySem.W.class_get (s := ⟨hp, g, d, t + 1, os⟩) (ox := ox) (od := od) X I F.hm (wpAny_pure q))))
  unfold getAttr? getAttrBy? getAttrBy
  refine wpAny_bind (wpAny_mkText (wpAny_bind (wpAny_attempt (wpAny_holding (wpAny_bind (ty.at (wpAny_bind ((PySem.W.looks_findIn X F.hg).at ?_))))))))
  show wpAny (model prog w) _ (if (onTheHeap (Value.ref D) && Value.builtin "BaseException.__getattribute__" == Value.builtin "object.__getattribute__") = true then _ else _) _ _ _
  rw [n1, if_neg Bool.false_ne_true]
  unfold getAttrByItsOwn hookBefore
  refine wpAny_bind ?_
  rw [if_pos (show onTheHeap (Value.ref D) = true from rfl)]
  refine (PySem.W.looks_findIn X F.hk).at (wpAny_bind (wpAny_attempt (wpAny_holding ?_)))
  unfold callGetattribute boundAndCalled
  rw [n2, if_neg Bool.false_ne_true, PySem.F.excAttr_ValueError.ga.bind (.ref x)]
  refine wpAny_bind (wpAny_pure ?_)
  show wpAny (model prog w) _ (call (.builtin "BaseException.__getattribute__") [.ref x, .str "__class__" t]) _ _ _
  refine wpAny_call (inner ?_)
  show wpAny _ _ (handedOut (.ref D)) _ _ _
  rw [PySem.W.handedOut_of (v := .ref D) rfl]
  first
    | exact wpAny_pure (wpAny_pure h)
    | exact wpAny_pure h
    | exact wpAny_pure (wpAny_bind (wpAny_pure (wpAny_pure h)))
theorem err_kit (F : ExcC K D) : PySem.W.KitX K (.ref x) (.ref D) (fun h => ∃ ox od, PySem.W.InstAt h x ox D od) := by
  have cl : ∀ {h : Heap}, K.In h → ∃ o cd, h.get? D = some o ∧ o.data = .cls cd := fun X => by
    obtain ⟨cd, hc, _⟩ := PySem.W.any_some F.hd
    unfold PySem.W.clsIn at hc
    split at hc
    · rename_i c' d' cd' sl' ho
      exact ⟨_, _, X _ _ ho, rfl⟩
    · cases hc
  refine ⟨fun M h _ ⟨_, _, I⟩ => I.type, fun M h X _ => ?_, fun h tp dd its n sl X htp => Bool.eq_false_iff.mpr fun q => ?_, fun X ⟨_, _, I⟩ k => err_class F X I k⟩
  · obtain ⟨o, cd, h1, h2⟩ := cl X
    intro A' Q' E' s' k q
    unfold isType loadHead
    exact wpAny_bind (wpAny_loadPart (k _ _ h1) (by rw [h2]; exact wpAny_pure q))
  · obtain ⟨o, cd, h1, h2⟩ := cl X
    have e : D = tp := Value.ref.inj (beq_iff_eq.mp q)
    rw [e, htp] at h1
    cases h1
    cases h2
end
/-- a class as the text names it -/
inductive Cn where
  | own (c : Str)
  | blt (T : String)
def aliens : List String := ["ValueError", "LookupError", "ArithmeticError"]
def Cn.v (K : PySem.W.Frag) : Cn → V
  | .own c => .ref (He.ga K c)
  | .blt T => .ty T
def Cn.u (K : PySem.W.Frag) : Cn → Value
  | .own c => .ref (He.ga K c)
  | .blt T => .type T
def Cn.ok (xs : List Str) : Cn → Bool
  | .own c => xs.contains c
  | .blt T => aliens.contains T
def Cn.b (c0 : Str) : Cn → Bool
  | .own d => xsb c0 d
  | .blt _ => false
section
variable {K : PySem.W.Frag} {xs : List Str} {c0 : Str}
theorem cn_rel {c : Cn} {u : Value} (h : RelV (c.v K) u) : u = c.u K := by cases c <;> exact h
theorem cn_one (T : XcK K xs) (h0 : c0 ∈ xs) {c : Cn} (h : c.ok xs = true) : PySem.W.kitOne K (.ref (He.ga K c0)) (c.u K) = some (c.b c0) := by
  cases c with
  | own d => exact T.kit _ h0 _ (by simpa [Cn.ok] using h)
  | blt t => exact T.alien _ h0 _ (by simpa [Cn.ok, aliens] using h)
theorem cn_any (T : XcK K xs) (h0 : c0 ∈ xs) : ∀ {cs : List Cn}, cs.all (Cn.ok xs) = true → PySem.W.kitAny K (.ref (He.ga K c0)) (cs.map (Cn.u K)) = some (cs.any (Cn.b c0))
  | [], _ => rfl
  | c :: cs, h => by
    rw [List.all_cons, Bool.and_eq_true] at h
    rw [List.map_cons]
    unfold PySem.W.kitAny
    rw [cn_one T h0 h.1, List.any_cons]
    cases c.b c0 with
    | true => rfl
    | false => exact cn_any T h0 h.2
theorem cn_vals : ∀ {cs : List Cn} {us : List Value}, Vals (cs.map (Cn.v K)) us → us = cs.map (Cn.u K)
  | [], _, .nil => rfl
  | c :: cs, _, .cons r t => by rw [cn_rel r, cn_vals t]; rfl
end
section
variable {U : Ud} {k : Nat} {n : Nm} {e : Expr} {es : List Expr} {pos p : Pos} {c : Str} {wa : WE}
/-- names of classes -/
inductive CnEs (U : Ud) (n : Nm) : List Expr → List Cn → Prop
  | nil : CnEs U n [] []
  | own {c : Str} {p : Pos} {es : List Expr} {cs : List Cn} (hm : GCl U c) (hg : gB n c = true) (r : CnEs U n es cs) : CnEs U n (.Name c p :: es) (.own c :: cs)
  | blt {c : Str} {T : String} {p : Pos} {es : List Expr} {cs : List Cn} (hm : U.mg c = none) (hg : tyB n c T = true) (r : CnEs U n es cs) : CnEs U n (.Name c p :: es) (.blt T :: cs)
def tVs (vs : List V) : TA := fun _ H Q => Q vs H
theorem cn_pa {X : Cx} {W : WX} (g : Gd U k n X W) {es : List Expr} {cs : List Cn} (h : CnEs U n es cs) : PA X es (tVs (cs.map (Cn.v X.K))) := by
  induction h with
  | nil => exact pa_nil
  | own hm hg r ih => exact pa_cons (pe_glob (v := .ref _) (g.gl (of_decide_eq_true (He.ba hg).1)) (by rw [g.eM, g.eK]; exact hm) rfl (dbg_ok (He.ba hg).2)) ih (star_cons rfl)
  | @blt c T p es cs hm hg r ih =>
    obtain ⟨h1, h2⟩ := He.ba hg
    obtain ⟨h3, h4⟩ := He.ba h2
    exact pa_cons (pe_bltn (v := .ty T) (g.gl (of_decide_eq_true (He.ba h1).1)) (g.mgN hm) (of_decide_eq_true h3) rfl (of_decide_eq_true h4) (dbg_ok (He.ba h1).2)) ih (star_cons rfl)
def wXIs (xs : List Str) (ad : Addr) (x : Xn) (dd : Addr) (cs : List Cn) (wa : WE) : WE := fun ρ M Q E => wa ρ M (fun o M1 => o = .ref ad ∧ x.c ∈ xs ∧ (∃ f v, M1 dd = some (.xd f v)) ∧ Q (.bl (cs.any (Cn.b x.c))) M1) E
def isB (n : Nm) (xs : List Str) (cs : List Cn) (e : Expr) : Bool := bfB n "isinstance" (.builtin "isinstance") [e] && cs.all (Cn.ok xs)
theorem err_inst {X : Cx} {pins : List (Addr × Obj)} {σ : St} {H : Hp} {s : Shared} {ad dd : Addr} {oe : Obj} {C : Addr} {vs : Array Value} {fs : List (Str × V)} (I : Inv X pins σ H s) (hz : L2N.Zn (.ref C) (some dd) oe) (hv : oe.data = .fields vs) (hp : (ad, oe) ∈ X.pn) (hx : H dd = some (.xd fs)) :
    ∃ od, PySem.W.InstAt s.heap ad oe C od := by
  obtain ⟨hget, _⟩ := I.pin (ad, oe) (List.mem_append_left _ hp)
  obtain ⟨mA, hns, hr⟩ : ObjOk X.prog X.w H s.heap dd (.xd fs) := I.hok dd _ hx
  obtain ⟨od, ho, hl⟩ := lookIn_ns hns
  exact ⟨some od, hget, hz.1, by unfold PySem.W.notCls; rw [hv] <;> rfl, by rw [hz.2.1]; exact ho⟩
/-- isinstance(e, C) -/
theorem n_xis1 {xs : List Str} {ad dd : Addr} {x : Xn} {e2 : Expr} {cn : Cn} (T : XcK U.K xs) (hx : n.ex = some (ad, x, dd)) (f : U.mg "isinstance" = none) (hb : isB n xs [cn] e = true) (hs2 : noStar e2 = true) (hc : CnEs U n [e2] [cn]) (ha : JE U k n e wa) :
    JE U k n (.Call (.Name "isinstance" p) [e, e2] [] pos) (wXIs xs ad x dd [cn] wa) := fun X W g => by
  obtain ⟨b1, b2⟩ := He.ba hb
  obtain ⟨h1, h⟩ := He.ba b1
  obtain ⟨h2, h⟩ := He.ba h
  obtain ⟨h3, h4⟩ := He.ba h
  rw [List.all_cons, Bool.and_eq_true] at h4 b2
  obtain ⟨oe, hz, ⟨vs, hv⟩, hp⟩ := g.xc ad x dd hx
  have T' : XcK X.K xs := by rw [g.eK]; exact T
  rw [← g.eK] at hz
  have cr : CallR X (.builtin "isinstance") fun vs H Q => vs = [.ref ad, cn.v X.K] ∧ x.c ∈ xs ∧ (∃ fs, H dd = some (.xd fs)) ∧ Q (.bl (cn.b x.c)) H := fun pins s σ H vs us Q I r ⟨e1, hm, ⟨fs, hx1⟩, q⟩ => by
    subst e1
    cases r with
    | cons r1 r2 => cases r2 with
      | cons r2 r3 =>
        cases r3
        obtain rfl := cn_rel r2
        cases r1
        obtain ⟨od, J⟩ := err_inst I hz hv hp hx1
        exact PySem.W.kia_one (err_kit (T'.isC _ hm)) I.kIn ⟨_, _, J⟩ (cn_one T' hm b2.1) (fun z => nomatch z) fun tk => ⟨.bl _, H, I.kept (t' := tk) fun _ _ z => z, rfl, q⟩
  refine (pe_callB cr (g.gl (of_decide_eq_true (He.ba h1).1)) (g.mgN f) (of_decide_eq_true h2) (pa_cons (ha X W g) (cn_pa g hc) (star_cons h4.1)) (of_decide_eq_true h3) (dbg_ok (He.ba h1).2) (star_cons h4.1) (star_plain (by rw [List.all_cons, hs2]; rfl))).imp fun σ H Q z => ?_
  obtain ⟨ρ, M, Q0, E0, r, m, t, q, xg⟩ := z
  exact ⟨ρ, M, _, E0, r, m, t, fun d M1 t1 y H1 s1 rd m1 => by
    obtain ⟨rfl, h5, ⟨f1, v1, h7⟩, h6⟩ := t1
    cases rd
    obtain ⟨y1, h8, _⟩ := m1 dd _ h7
    exact ⟨rfl, h5, ⟨_, h8⟩, q _ M1 (by simpa using h6) _ H1 s1 (.bl _) m1⟩, xg⟩
/-- isinstance(e, (C, ..)) -/
theorem n_xis2 {xs : List Str} {ad dd : Addr} {x : Xn} {cs : List Cn} {tp : Pos} {kk : Nat} (T : XcK U.K xs) (hx : n.ex = some (ad, x, dd)) (f : U.mg "isinstance" = none) (hb : isB n xs cs e = true) (hz : cs.length ≤ 100) (hc : CnEs U n es cs) (ha : JE U k n e wa) :
    JE U k n (.Call (.Name "isinstance" p) [e, .Tuple es kk tp] [] pos) (wXIs xs ad x dd cs wa) := fun X W g => by
  obtain ⟨b1, b2⟩ := He.ba hb
  obtain ⟨h1, h⟩ := He.ba b1
  obtain ⟨h2, h⟩ := He.ba h
  obtain ⟨h3, h4⟩ := He.ba h
  rw [List.all_cons, Bool.and_eq_true] at h4
  obtain ⟨oe, hz', ⟨vs, hv⟩, hp⟩ := g.xc ad x dd hx
  have T' : XcK X.K xs := by rw [g.eK]; exact T
  rw [← g.eK] at hz'
  have cr : CallR X (.builtin "isinstance") fun vs H Q => ∃ q, vs = [.ref ad, .ref q] ∧ H q = some (.tup (cs.map (Cn.v X.K))) ∧ x.c ∈ xs ∧ (∃ fs, H dd = some (.xd fs)) ∧ Q (.bl (cs.any (Cn.b x.c))) H := fun pins s σ H vs us Q I r ⟨q0, e1, hq, hm, ⟨fs, hx1⟩, q⟩ => by
    subst e1
    cases r with
    | cons r1 r2 => cases r2 with
      | cons r2 r3 =>
        cases r3
        cases r2
        cases r1
        obtain ⟨od, J⟩ := err_inst I hz' hv hp hx1
        obtain ⟨_, its, rv, ⟨o, g1, g2, m, g3⟩⟩ : ObjOk X.prog X.w H s.heap q0 (.tup _) := I.hok q0 _ hq
        obtain rfl := cn_vals rv
        obtain ⟨oc, od2, dt, sl⟩ := o
        dsimp only at g2 g3
        subst g2 g3
        exact PySem.W.kia_tup (err_kit (T'.isC _ hm)) I.kIn ⟨_, _, J⟩ g1 (cn_any T' hm b2) (fun z => nomatch z) fun tk => ⟨.bl _, H, I.kept (t' := tk) fun _ _ z => z, rfl, q⟩
  refine (pe_callB cr (g.gl (of_decide_eq_true (He.ba h1).1)) (g.mgN f) (of_decide_eq_true h2) (pa_cons (ha X W g) (pa_cons (pe_tup (cn_pa g hc)) pa_nil (star_cons rfl)) (star_cons h4.1)) (of_decide_eq_true h3) (dbg_ok (He.ba h1).2) (star_cons h4.1) (star_plain rfl)).imp fun σ H Q z => ?_
  obtain ⟨ρ, M, Q0, E0, r, m, t, q, xg⟩ := z
  exact ⟨ρ, M, _, E0, r, m, t, fun d M1 t1 y H1 s1 rd m1 => by
    obtain ⟨rfl, h5, ⟨f1, v1, h7⟩, h6⟩ := t1
    cases rd
    obtain ⟨y1, h8, _⟩ := m1 dd _ h7
    refine ⟨by rw [List.length_map, sizeLine_eq]; omega, fun q0 hq => ⟨q0, rfl, upd_same, h5, ⟨[(f1, y1)], ?_⟩, q _ M1 h6 _ _ (s1.trans (Stb.new hq)) (.bl _) (m1.laid hq)⟩⟩
    · rw [upd_ne (fun z => by rw [z, hq] at h8; cases h8)]
      exact h8, xg⟩
end
end Fg
/-! Fg18: a law's end. -/
namespace Fg
open PySem PySem.Spec L2
open PyProof.Rows hiding St
/-- what a def lets out, in any world -/
def CXa (P : Program) : CXT := fun outer H s E u s' => ∃ w, L2N.CX P w outer H s E u s'
theorem fn_any {P : Program} {w : World} {K : PySem.W.Frag} {mg : Str → Option Value} {base : Heap} {k : Nat} {f : Addr} {fd : FuncData} {ps : List Str} {sp : Sp} (F : FnOk P w K mg base (L2N.CX P w) k f fd ps sp) : FnOk P w K mg base (CXa P) k f fd ps sp :=
  ⟨F.len, fun A outer s H args us vs Q E hr e0 hb hv hs => codeAny_mono (F.run A outer s H args us vs Q E hr e0 hb hv hs) fun r s' z => by
    cases r with
    | error e => exact ⟨w, z⟩
    | ok fl => cases fl <;> exact z⟩
/-- the script as data -/
def script (ns : List Int) : D := .rol (ns.map D.int)
theorem walk_law {l : PySem.W.OpenLaw} {hd : Hd} {k i j : Nat} {x : Str} {N : List Str} {wl : WS} {q : Program} {loose : List Str} {XP : (Str → Option Value) → Heap → Prop} {dr : DefRec} {d : He.DefD}
    (hn : l.most = some 63) (hdf : dr.params.defaults = []) (hr : Room (k + 1) callerA) (hdn : dr.name = ("law" : Str)) (hfn : hd.fn[i]? = some d) (ha : d.at_ = (("law" : Str), none)) (hdk : d.dfl = [] ∧ d.kwd = []) (hgl : hd.fa[j]? = some (.glo "law"))
    (S : FnScope N [x] d.scope) (hb : ∀ (kV doc pm : Value) (an : Option Addr) (cdv ct : Value) (us : List Value), us.length = 1 → bindArgs (PySem.W.fnOf d.name d.qual d.params d.body d.scope .none kV doc pm an cdv ct) ⟨us, []⟩ = pure ([x].zip us))
    (hfile : l.prog.main.file = hd.file) (htop : (l.prog.main.scope.names.lookup ("super" : Str)).isSome = false) (hk : ∀ U, Fct hd U → JSs U k ⟨N, d.scope, fun _ => true, false, none, true⟩ d.body wl)
    (law : ∀ ns : List Int, ns.length ≤ 63 → spW N 1 wl [script ns] (fun _ => none) (fun d _ => d = .bl true) noX) :
    PySem.W.WalkO q loose XP hd.hook.says l.row.toRowW dr [] (fun f vs => PySem.call f vs) := by
  refine L2.walk_ofE (l := l) (n := 63) (k := k + 1) (x := x) (CX := CXa l.prog) hn (by rw [sizeLine_eq]; decide) hdf hr ?_ ?_
  · intro w mg fa h Y G hmg
    obtain ⟨K, KX, c⟩ := Y
    obtain ⟨fd, FD⟩ := c.1.def_ i hfn
    have e1 : d.dvs K = [] := by unfold He.DefD.dvs; rw [hdk.1]; rfl
    have e2 : d.kws K = [] := by unfold He.DefD.kws; rw [hdk.2]; rfl
    rw [e1, e2, ha] at FD
    have efa : fa = He.fAd K (("law" : Str), none) := by
      rw [hdn] at hmg
      have z := hmg.symm.trans (He.glo_ok KX G (c.1.fact j hgl))
      injection z with z
      injection z
    subst efa
    have bA := FunD.bindsA (ps := [x]) FD hb
    refine ⟨K, fd, upSp K w (spW N 1 wl), KX, fun s v => bA s [v] rfl, fun H a ns hl hO hS => ?_, fun base KB GB => ?_⟩
    · have hz : Fz K H a (ns.map V.int) := by
        rcases hS with (h | ⟨o, h⟩) | h
        · rcases hO a with z | ⟨o, xs, z⟩
          · rw [z] at h; cases h
          · rw [z] at h; cases h
        · exact .inl ⟨o, h⟩
        · exact .inr h
      exact ⟨[script ns], fun _ => none, fun d _ => d = .bl true, noX, .cons (.rol hz RDs.ints) .nil, fun a o e => (nomatch e), law ns hl, fun d M' e y H' _ r _ => (by subst e; cases r; rfl), fun _ _ z => z.elim⟩
    · have U : Fct hd ⟨l.prog, w, K, mg, base⟩ := ⟨KB, GB, c, hfile, htop⟩
      exact fn_any (fn_okD (U := ⟨l.prog, w, K, mg, base⟩) (ps := [x]) FD S (hk _ U))
  · intro H s e s' ⟨w, a, B, H', cls, d, _, _, _, _, _, _, _, z⟩
    exact z
end Fg
/-! Fg19: methods of built-in types. -/
namespace Fg
open PySem PySem.Spec L2
open PyProof.Rows hiding St
/-- a receiver's type -/
def tyR (M : MM) : D → Option String
  | .str _ => some "str"
  | .int _ => some "int"
  | .rol _ => some "list"
  | .ref a => match M a with
    | some (.lst _) => some "list"
    | some (.dct _ _) => some "dict"
    | _ => none
  | _ => none
abbrev MD := D → List D → MM → QD → Prop
def upM (X : Cx) (o : MD) : V → List V → Hp → VK → Prop := fun x xs H Q => ∃ d ds M Q0, RD X.K H d x ∧ RDs X.K H ds xs ∧ RMx X H M ∧ o d ds M Q0 ∧ ∀ z M', Q0 z M' → ∀ v H', Stb H H' → RD X.K H' z v → RMx X H' M' → Q v H'
def wBm (T : String) (o : MD) (wo : WE) (wa : WA) : WE := fun ρ M Q E => wo ρ M (fun d M1 => tyR M1 d = some T ∧ wa ρ M1 (fun ds M2 => o d ds M2 Q) E) E
section
variable {X : Cx} {W : WX} {pins : List (Addr × Obj)} {σ : St} {H : Hp} {s : Shared}
theorem tyR_is {M : MM} {d : D} {x : V} {v : Value} {T : String} (I : Inv X pins σ H s) (m : RMx X H M) (r : RD X.K H d x) (rv : RelV x v) (h : tyR M d = some T) : s.TypeIs v T ∧ ∀ a, v = .ref a → ∃ ob, s.heap.get? a = some ob ∧ ob.dict = none := by
  cases r with
  | str y =>
    cases h
    exact tyV_is (T := "str") (x := .str y) I rv rfl
  | int i =>
    cases h
    exact tyV_is (T := "int") (x := .int i) I rv rfl
  | @rol a vs ds hz q =>
    cases h
    exact tyV_is (T := "list") (x := .ref a) I rv (.inl ⟨rfl, vs, hz.sq⟩)
  | ref a =>
    have h' : (match M a with
      | some (.lst _) => some "list"
      | some (.dct _ _) => some "dict"
      | _ => none) = some T := h
    cases e : M a with
    | none => rw [e] at h'; cases h'
    | some o =>
      rw [e] at h'
      cases o with
      | lst ds =>
        cases h'
        obtain ⟨vs, h1, _⟩ := m a _ e
        exact tyV_is (T := "list") (x := .ref a) I rv (.inl ⟨rfl, vs, SqL.of h1⟩)
      | dct ob kvs =>
        cases h'
        obtain ⟨es, ep, h1, ⟨g2, g3⟩, _⟩ := m a _ e
        have g1 := raw_get I h1
        cases rv
        exact ⟨⟨ob, g1, g2⟩, fun b eb => by cases eb; exact ⟨ob, g1, g3.1⟩⟩
      | ins _ _ => cases h'
      | xd _ _ => cases h'
  | _ => cases h
variable {o e : Expr} {es : List Expr} {name : Str} {apos cpos : Pos} {T id : String} {md : MD} {wo : WE} {wa : WA}
theorem ue_bm (pa : PlainAttrs T) (slot : Slot T name id) (hty : typeOf (.builtin id) = pure (.type "method_descriptor")) (hm : MtR X id (upM X md)) (ho : PE X o (upE X W wo)) (ha : PA X (e :: es) (upA X W wa)) (hb : isCall0 o = false) (hs : (e :: es).all noStar = true)
    (hn : (e :: es).length < 29) (hl : (apos.endLine == cpos.line) = true) : PE X (.Call (.Attribute o name apos) (e :: es) [] cpos) (upE X W (wBm T md wo wa)) := by
  have hs' := hs
  rw [List.all_cons, Bool.and_eq_true] at hs
  refine ⟨fun pins s σ H Q I ⟨ρ, M, Q0, E0, r, m, t, q, xg⟩ => ?_⟩
  refine wpAny_Call_method_late (base_of hb) ?_ hl rfl (thn (ho.run pins s σ H (fun y H1 => ∃ d M1, RD X.K H1 d y ∧ RMx X H1 M1 ∧ Stb H H1 ∧ tyR M1 d = some T ∧ wa ρ M1 (fun ds M2 => md d ds M2 Q0) E0) I ⟨ρ, M, _, E0, r, m, t, fun d M1 t1 y H1 s1 rd m1 => ⟨d, M1, rd, m1, s1, t1.1, t1.2⟩, xg⟩) fun v s1 hh => ?_)
  · rw [star_allN hs']
    simp [keywordEach, backToKw]
    simp only [List.length_cons] at hn
    omega
  · obtain ⟨y, H1, I1, ry, d, M1, rd, m1, s1', ty, t1⟩ := hh
    obtain ⟨h1, h2⟩ := tyR_is I1 m1 rd ry ty
    refine ⟨T, id, pa, slot, hty, h1, h2, ?_⟩
    have hA := ha.run cpos pins s1 σ H1 (fun ys H2 => upM X md y ys H2 Q) I1 ⟨ρ, M1, _, E0, r.stb s1', m1, t1, fun ds M2 t2 ys H2 s2 rds m2 => ⟨d, ds, M2, Q0, rd.stb s2, rds, m2, t2, fun z M' qz v H' s' rz mz => q z M' qz v H' ((s1'.trans s2).trans s') rz mz⟩, xg.stb s1'⟩
    rw [star_cons hs.1] at hA ⊢
    refine Calls.callWith_builtin (by show (false || (backTo cpos (starEach es X.env)).any (·.1)) = false; rw [star_plain hs.2] <;> rfl) (Calls.evalArgs_plain (thn hA fun us s2 ⟨vs, H2, I2, r2, q2⟩ => ?_))
    exact hm pins s2 σ H2 y vs v us Q I2 ry r2 q2
theorem ue_bm0 (pa : PlainAttrs T) (slot : Slot T name id) (hty : typeOf (.builtin id) = pure (.type "method_descriptor")) (hm : MtR X id (upM X md)) (ho : PE X o (upE X W wo)) (hb : isCall0 o = false) (hl : (apos.endLine == cpos.line) = true) :
    PE X (.Call (.Attribute o name apos) [] [] cpos) (upE X W (wBm T md wo wNil)) := by
  refine ⟨fun pins s σ H Q I ⟨ρ, M, Q0, E0, r, m, t, q, xg⟩ => ?_⟩
  refine wpAny_Call_method0_late (base_of hb) hl (thn (ho.run pins s σ H (fun y H1 => ∃ d M1, RD X.K H1 d y ∧ RMx X H1 M1 ∧ Stb H H1 ∧ tyR M1 d = some T ∧ md d [] M1 Q0) I ⟨ρ, M, _, E0, r, m, t, fun d M1 t1 y H1 s1 rd m1 => ⟨d, M1, rd, m1, s1, t1.1, t1.2⟩, xg⟩) fun v s1 hh => ?_)
  obtain ⟨y, H1, I1, ry, d, M1, rd, m1, s1', ty, t1⟩ := hh
  obtain ⟨h1, h2⟩ := tyR_is I1 m1 rd ry ty
  exact ⟨T, id, pa, slot, hty, h1, h2, Calls.callWith_builtin rfl (PySem.evalArgs_none (hm pins s1 σ H1 y [] v [] Q I1 ry .nil ⟨d, [], M1, Q0, rd, .nil, m1, t1, fun z M' qz v H' s' rz mz => q z M' qz v H' (s1'.trans s') rz mz⟩))⟩
end
end Fg
/-! Fg20: list's, str's, dict's methods. -/
namespace Fg
open PySem PySem.Spec L2
open PyProof.Rows hiding St
section
variable {X : Cx} {pins : List (Addr × Obj)} {σ : St} {H : Hp} {s : Shared}
def mApp : MD := fun o xs M Q => ∃ a ds d, o = .ref a ∧ xs = [d] ∧ M a = some (.lst ds) ∧ ds.length < sizeLine ∧ Q .non (up M a (.lst (ds ++ [d])))
def mIns : MD := fun o xs M Q => ∃ a ds i d, o = .ref a ∧ xs = [.int i, d] ∧ M a = some (.lst ds) ∧ ds.length < sizeLine ∧ 0 ≤ i ∧ i < 2 ^ 63 ∧ Q .non (up M a (.lst (ds.take i.toNat ++ [d] ++ ds.drop i.toNat)))
def mPop : MD := fun o xs M Q => ∃ a ds d, o = .ref a ∧ xs = [] ∧ M a = some (.lst ds) ∧ ds[ds.length - 1]? = some d ∧ Q d (up M a (.lst ds.dropLast))
def mRev : MD := fun o xs M Q => ∃ a ds, o = .ref a ∧ xs = [] ∧ M a = some (.lst ds) ∧ Q .non (up M a (.lst ds.reverse))
def mJoin : MD := fun o xs M Q => ∃ a d ys, o = .str a ∧ xs = [d] ∧ itemsOf M d = some (ys.map D.str) ∧ (ys.map (·.length)).sum + ys.length * a.length ≤ 16777216 ∧ Q (.str (Txt.join a ys)) M
def mGet2 : MD := fun o xs M Q => ∃ a ob kvs i k e, o = .ref a ∧ xs = [i, e] ∧ M a = some (.dct ob kvs) ∧ KOk kvs i k ∧ Q ((lookK kvs k).getD e) M
theorem mut_lst {a : Addr} {vs : List V} (h : H a = some (.lst vs)) : Mut (H a) := by rw [h]; trivial
theorem RDs.rev {K : PySem.W.Frag} : ∀ {ds : List D} {vs : List V}, RDs K H ds vs → RDs K H ds.reverse vs.reverse
  | _, _, .nil => .nil
  | _, _, .cons r t => by rw [List.reverse_cons, List.reverse_cons]; exact (RDs.rev t).append (.cons r .nil)
theorem RDs.dropLast {K : PySem.W.Frag} {ds : List D} {vs : List V} (h : RDs K H ds vs) : RDs K H ds.dropLast vs.dropLast := by
  rw [List.dropLast_eq_take, List.dropLast_eq_take, h.length]
  exact h.take _
theorem md_app : MtR X "list.append" (upM X mApp) := fun pins s σ H x xs v us Q I rx rv ⟨d, ds, M, Q0, rd, rds, m, ⟨a, es, e, e1, e2, h1, h2, t⟩, q⟩ => by
  subst e1 e2
  cases rd
  obtain ⟨y, rfl, ry⟩ := rds1 rds
  obtain ⟨vs, h3, h4⟩ := m a _ h1
  have mu := mut_lst h3
  have s1 : Stb H (upd H a (.lst (vs ++ [y]))) := Stb.mut mu
  exact mt_append pins s σ H _ _ v us Q I rx rv ⟨a, vs, y, rfl, rfl, h3, by rw [← h4.length]; exact h2, q _ _ t _ _ s1 .non (m.mut (o := .lst (es ++ [e])) mu ⟨_, upd_same, RDs.stb s1 (h4.append (.cons ry .nil))⟩)⟩
theorem md_ins : MtR X "list.insert" (upM X mIns) := fun pins s σ H x xs v us Q I rx rv ⟨d, ds, M, Q0, rd, rds, m, ⟨a, es, i, e, e1, e2, h1, h2, g1, g2, t⟩, q⟩ => by
  subst e1 e2
  cases rd
  obtain ⟨y0, y, rfl, ry0, ry⟩ := rds2 rds
  cases ry0
  obtain ⟨vs, h3, h4⟩ := m a _ h1
  have mu := mut_lst h3
  have s1 : Stb H (upd H a (.lst (vs.take i.toNat ++ [y] ++ vs.drop i.toNat))) := Stb.mut mu
  exact mt_insert pins s σ H _ _ v us Q I rx rv ⟨a, vs, i, y, rfl, rfl, h3, by rw [← h4.length]; exact h2, g1, g2, q _ _ t _ _ s1 .non (m.mut (o := .lst (es.take i.toNat ++ [e] ++ es.drop i.toNat)) mu ⟨_, upd_same, RDs.stb s1 (((h4.take _).append (.cons ry .nil)).append (h4.drop _))⟩)⟩
theorem md_pop : MtR X "list.pop" (upM X mPop) := fun pins s σ H x xs v us Q I rx rv ⟨d, ds, M, Q0, rd, rds, m, ⟨a, es, e, e1, e2, h1, h2, t⟩, q⟩ => by
  subst e1 e2
  cases rd
  cases rds
  obtain ⟨vs, h3, h4⟩ := m a _ h1
  have mu := mut_lst h3
  obtain ⟨y, h5, ry⟩ := h4.get h2
  have s1 : Stb H (upd H a (.lst vs.dropLast)) := Stb.mut mu
  exact mt_pop pins s σ H _ _ v us Q I rx rv ⟨a, vs, y, rfl, rfl, h3, by rw [← h4.length]; exact h5, q _ _ t _ _ s1 (ry.stb s1) (m.mut (o := .lst es.dropLast) mu ⟨_, upd_same, RDs.stb s1 h4.dropLast⟩)⟩
theorem md_rev : MtR X "list.reverse" (upM X mRev) := fun pins s σ H x xs v us Q I rx rv ⟨d, ds, M, Q0, rd, rds, m, ⟨a, es, e1, e2, h1, t⟩, q⟩ => by
  subst e1 e2
  cases rd
  cases rds
  obtain ⟨vs, h3, h4⟩ := m a _ h1
  have mu := mut_lst h3
  have s1 : Stb H (upd H a (.lst vs.reverse)) := Stb.mut mu
  exact mt_reverse pins s σ H _ _ v us Q I rx rv ⟨a, vs, rfl, rfl, h3, q _ _ t _ _ s1 .non (m.mut (o := .lst es.reverse) mu ⟨_, upd_same, RDs.stb s1 h4.rev⟩)⟩
theorem md_get2 (hu : X.A.units + 64 < cLine) : MtR X "dict.get" (upM X mGet2) := fun pins s σ H x xs v us Q I rx rv ⟨d, ds, M, Q0, rd, rds, m, ⟨a, ob, kvs, i, k, e, e1, e2, h1, ok, t⟩, q⟩ => by
  subst e1 e2
  cases rd
  obtain ⟨y, z, rfl, ry, rz⟩ := rds2 rds
  cases rx
  cases rv with
  | cons r1 rv => cases rv with
    | cons r2 rv =>
      cases rv
      obtain ⟨es, ep, da, _⟩ := dct_at m h1
      exact g_get hu I da ok ry r1 rz r2 fun z' u' s' J ru rd => ⟨z', H, J, ru, q _ M t _ H (Stb.refl H) rd m⟩
def mGet1 : MD := fun o xs M Q => ∃ a ob kvs i k, o = .ref a ∧ xs = [i] ∧ M a = some (.dct ob kvs) ∧ KOk kvs i k ∧ Q ((lookK kvs k).getD .non) M
theorem md_get1 (hu : X.A.units + 64 < cLine) : MtR X "dict.get" (upM X mGet1) := fun pins s σ H x xs v us Q I rx rv ⟨d, ds, M, Q0, rd, rds, m, ⟨a, ob, kvs, i, k, e1, e2, h1, ok, t⟩, q⟩ => by
  subst e1 e2
  cases rd
  obtain ⟨y, rfl, ry⟩ := rds1 rds
  cases rx
  cases rv with
  | cons r1 rv =>
    cases rv
    obtain ⟨es, ep, da, _⟩ := dct_at m h1
    exact g_get1 hu I da ok ry r1 fun z' u' s' J ru rd => ⟨z', H, J, ru, q _ M t _ H (Stb.refl H) rd m⟩
theorem md_join : MtR X "str.join" (upM X mJoin) := fun pins s σ H x xs v us Q I rx rv ⟨d, ds, M, Q0, rd, rds, m, ⟨a, d1, ys, e1, e2, h1, h2, t⟩, q⟩ => by
  subst e1 e2
  cases rd
  obtain ⟨y, rfl, ry⟩ := rds1 rds
  obtain ⟨p, vs, rfl, hs, hr⟩ := items_sq m ry h1
  have ev := RDs.strs hr
  subst ev
  exact mt_join pins s σ H _ _ v us Q I rx rv ⟨a, p, ys, rfl, rfl, hs.imp (fun h => h) SqN.t, h2, q _ M t _ H (Stb.refl H) (.str _) m⟩
end
/-! ### by form -/
section
variable {U : Ud} {k : Nat} {n : Nm} {a e : Expr} {es : List Expr} {apos cpos : Pos} {wo : WE} {ws : WA} {T id : String} {name : Str} {md : MD}
structure Mth (T : String) (name : Str) (id : String) : Prop where
  pa : PlainAttrs T
  slot : Slot T name id
  ty : typeOf (.builtin id) = pure (.type "method_descriptor")
theorem f_app : Mth "list" "append" "list.append" := ⟨F.plainAttrs_list, F.slot_list_append, F.type_list_append⟩
theorem f_ins : Mth "list" "insert" "list.insert" := ⟨F.plainAttrs_list, F.slot_list_insert, F.type_list_insert⟩
theorem f_pop : Mth "list" "pop" "list.pop" := ⟨F.plainAttrs_list, F.slot_list_pop, F.type_list_pop⟩
theorem f_rev : Mth "list" "reverse" "list.reverse" := ⟨F.plainAttrs_list, F.slot_list_reverse, F.type_list_reverse⟩
theorem f_join : Mth "str" "join" "str.join" := ⟨F.plainAttrs_str, F.slot_str_join, F.type_str_join⟩
theorem f_get : Mth "dict" "get" "dict.get" := ⟨F.plainAttrs_dict, F.slot_dict_get, F.type_dict_get⟩
def bmB (a : Expr) (es : List Expr) (apos cpos : Pos) : Bool := !isCall0 a && (es.all noStar && (decide (es.length < 29) && apos.endLine == cpos.line))
theorem m_bm (f : Mth T name id) (hm : ∀ X W, Gd U k n X W → MtR X id (upM X md)) (h : bmB a (e :: es) apos cpos = true) (ho : JE U k n a wo) (ha : JA U k n (e :: es) ws) : JE U k n (.Call (.Attribute a name apos) (e :: es) [] cpos) (wBm T md wo ws) := fun X W g => by
  obtain ⟨h1, h⟩ := He.ba h
  obtain ⟨h2, h⟩ := He.ba h
  obtain ⟨h3, h4⟩ := He.ba h
  exact ue_bm f.pa f.slot f.ty (hm X W g) (ho X W g) (ha X W g) (nb h1) h2 (of_decide_eq_true h3) h4
theorem m_bm0 (f : Mth T name id) (hm : ∀ X W, Gd U k n X W → MtR X id (upM X md)) (h : bmB a [] apos cpos = true) (ho : JE U k n a wo) : JE U k n (.Call (.Attribute a name apos) [] [] cpos) (wBm T md wo wNil) := fun X W g => by
  obtain ⟨h1, h⟩ := He.ba h
  obtain ⟨h2, h⟩ := He.ba h
  obtain ⟨h3, h4⟩ := He.ba h
  exact ue_bm0 f.pa f.slot f.ty (hm X W g) (ho X W g) (nb h1) h4
end
end Fg
/-! Fg21: slices. -/
namespace Fg
open PySem PySem.Spec L2
open PyProof.Rows hiding St
/-- a slice's part -/
abbrev WO := En → MM → (Option Int → MM → Prop) → QX → Prop
def wNoP : WO := fun _ M Q _ => Q none M
def wSoP (w : WE) : WO := fun ρ M Q E => w ρ M (fun d M1 => ∃ i, d = .int i ∧ Q (some i) M1) E
def upO' (X : Cx) (W : WX) (t : WO) : TO := fun σ H Q => ∃ ρ M Q0 E0, RE X.K H ρ σ ∧ RMx X H M ∧ t ρ M Q0 E0 ∧ (∀ l M', Q0 l M' → ∀ H', Stb H H' → RMx X H' M' → Q l H') ∧ XGo X W σ H E0
def wSl (wo : WE) (wl wh : WO) : WE := fun ρ M Q E => wo ρ M (fun d M1 => wl ρ M1 (fun l M2 => wh ρ M2 (fun h M3 => dSl d l h M3 Q) E) E) E
section
variable {X : Cx} {W : WX} {e : Expr} {lo hi : Option Expr} {wo w : WE} {wl wh : WO} {pos p2 : Pos}
theorem uo_none : PO X none (upO' X W wNoP) := ⟨fun pins s σ H Q I ⟨ρ, M, Q0, E0, r, m, t, q, xg⟩ => po_none.run pins s σ H Q I (q none M t H (Stb.refl H) m)⟩
theorem uo_some (h : PE X e (upE X W w)) : PO X (some e) (upO' X W (wSoP w)) := ⟨fun pins s σ H Q I ⟨ρ, M, Q0, E0, r, m, t, q, xg⟩ => (po_some h).run pins s σ H Q I ⟨ρ, M, _, E0, r, m, t, fun d M1 t1 y H1 s1 rd m1 => by
  obtain ⟨i, rfl, t1⟩ := t1
  cases rd
  exact ⟨i, rfl, q _ M1 t1 H1 s1 m1⟩, xg⟩⟩
theorem ue_sl (ho : PE X e (upE X W wo)) (hl : PO X lo (upO' X W wl)) (hh : PO X hi (upO' X W wh)) : PE X (.Subscript e (.Slice lo hi none p2) pos) (upE X W (wSl wo wl wh)) := (pe_slice sl_dSl ho hl hh).imp fun σ H Q ⟨ρ, M, Q0, E0, r, m, t, q, xg⟩ =>
  ⟨ρ, M, _, E0, r, m, t, fun d M1 t1 y H1 s1 rd m1 => ⟨ρ, M1, _, E0, r.stb s1, m1, t1, fun l M2 t2 H2 s2 m2 => ⟨ρ, M2, _, E0, (r.stb s1).stb s2, m2, t2, fun h M3 t3 H3 s3 m3 => ⟨d, M3, Q0, (rd.stb s2).stb s3, m3, t3, fun z M' qz v H' s' rz mz => q z M' qz v H' (((s1.trans s2).trans s3).trans s') rz mz⟩, (xg.stb s1).stb s2⟩, xg.stb s1⟩, xg⟩
end
section
variable {U : Ud} {k : Nat} {n : Nm} {a e : Expr} {lo hi : Option Expr} {pos p2 : Pos} {wo w : WE} {wl wh : WO}
def JO (U : Ud) (k : Nat) (n : Nm) (e : Option Expr) (w : WO) : Prop := ∀ X W, Gd U k n X W → PO X e (upO' X W w)
theorem o_none : JO U k n none wNoP := fun X W g => uo_none
theorem o_some (h : JE U k n e w) : JO U k n (some e) (wSoP w) := fun X W g => uo_some (h X W g)
theorem n_sl (ho : JE U k n a wo) (hl : JO U k n lo wl) (hh : JO U k n hi wh) : JE U k n (.Subscript a (.Slice lo hi none p2) pos) (wSl wo wl wh) := fun X W g => ue_sl (ho X W g) (hl X W g) (hh X W g)
end
end Fg
/-! Fg22: calls by keywords. -/
namespace Fg
open PySem PySem.Spec L2
open PyProof.Rows hiding St
/-- the values at these places -/
def ord {α : Type} (l : List Nat) (xs : List α) : List α := l.filterMap fun i => xs[i]?
theorem ord_rel {α β : Type} {R : α → β → Prop} {xs : List α} {ys : List β} (h : Paired R xs ys) (get : ∀ (i : Nat) (x : α), xs[i]? = some x → ∃ y, ys[i]? = some y ∧ R x y) (none_ : ∀ i : Nat, xs[i]? = none → ys[i]? = none) : ∀ l : List Nat, Paired R (ord l xs) (ord l ys)
  | [] => .nil
  | i :: l => by
    unfold ord
    rw [List.filterMap_cons, List.filterMap_cons]
    cases e : xs[i]? with
    | none => rw [none_ i e]; exact ord_rel h get none_ l
    | some x =>
      obtain ⟨y, e2, r⟩ := get i x e
      rw [e2]
      exact .cons r (ord_rel h get none_ l)
theorem ord_vals {vs : List V} {us : List Value} (h : Vals vs us) (l : List Nat) : Vals (ord l vs) (ord l us) := ord_rel h (fun _ _ e => h.get e) (fun _ e => h.none_of e) l
theorem ord_rds {K : PySem.W.Frag} {H : Hp} {ds : List D} {vs : List V} (h : RDs K H ds vs) : ∀ l : List Nat, RDs K H (ord l ds) (ord l vs)
  | [] => .nil
  | i :: l => by
    unfold ord
    rw [List.filterMap_cons, List.filterMap_cons]
    cases e : ds[i]? with
    | none =>
      have z : vs[i]? = none := List.getElem?_eq_none_iff.mpr (by rw [← h.length]; exact List.getElem?_eq_none_iff.mp e)
      rw [z]; exact ord_rds h l
    | some d =>
      obtain ⟨y, e2, r⟩ := h.get e
      rw [e2]
      exact .cons r (ord_rds h l)
/-- a def of the text that may be called by these keywords -/
def FnHasK (P : Program) (w : World) (K : PySem.W.Frag) (mg : Str → Option Value) (base : Heap) (k : Nat) (x : Str) (ks : List Str) (m : Nat) (l : List Nat) (sp : SpD) : Prop :=
  ∃ f fd ps, mg x = some (.ref f) ∧ FnOk P w K mg base (L2N.CX P w) k f fd ps (upSp K w sp) ∧ PySem.W.keepIn K (.ref f) = true ∧ ∀ us ws : List Value, us.length = m → ws.length = ks.length → bindArgs fd ⟨us, ks.zip ws⟩ = pure (ps.zip (ord l (us ++ ws)))
def wCallK (sp : SpD) (m n : Nat) (l : List Nat) (wa wk : WA) : WE := fun ρ M Q E => wa ρ M (fun ds M1 => wk ρ M1 (fun zs M2 => ds.length = m ∧ zs.length = n ∧ sp (ord l (ds ++ zs)) M2 Q E) E) E
def upK (X : Cx) (W : WX) (t : WA) : TA := upA X W t
section
variable {X : Cx} {W : WX} {k m : Nat} {x : Str} {ks : List Str} {l : List Nat} {sp : SpD} {e : Expr} {es : List Expr} {kws : List Keyword} {wa wk : WA} {p pos kpos : Pos} {we : WE} {nm : Option Str}
theorem uk_nil : PK X [] (upA X W wNil) := ⟨fun pos pins s σ H Q I ⟨ρ, M, Q0, E0, r, m, t, q, xg⟩ => pk_nil.run pos pins s σ H Q I (q [] M t [] H (Stb.refl H) .nil m)⟩
theorem uk_cons (ha : PE X e (upE X W we)) (hr : PK X kws (upA X W wk)) : PK X (⟨nm, e, kpos⟩ :: kws) (upA X W (wCons we wk)) := ⟨fun pos pins s σ H Q I ⟨ρ, M, Q0, E0, r, m, t, q, xg⟩ =>
  (pk_cons ha hr).run pos pins s σ H Q I ⟨ρ, M, _, E0, r, m, t, fun d M1 t1 y H1 s1 rd m1 => ⟨ρ, M1, _, E0, r.stb s1, m1, t1, fun ds M2 t2 ys H2 s2 rds m2 => q _ M2 t2 _ H2 (s1.trans s2) (.cons (rd.stb s2) rds) m2, xg.stb s1⟩, xg⟩⟩
/-- the callee, its values put in the parameters' order -/
theorem run_key {pins : List (Addr × Obj)} {σ : St} {H : Hp} {s : Shared} {Q : VK} {us ws : List Value} {vs zs : List V} {f : Addr} {fd : FuncData} {ps : List Str} (F : FnOk X.prog X.w X.K X.mg X.base (L2N.CX X.prog X.w) k f fd ps (upSp X.K X.w sp)) (hr : Room k X.A) (tk : L2N.Takes X W)
    (hb : ∀ us ws : List Value, us.length = m → ws.length = ks.length → bindArgs fd ⟨us, ks.zip ws⟩ = pure (ps.zip (ord l (us ++ ws)))) (hm : us.length = m) (hn : ws.length = ks.length) (I : Inv X pins σ H s) (r : Vals vs us) (rz : Vals zs ws) (h : upSp X.K X.w sp (ord l (vs ++ zs)) H Q (L2.WE W σ)) :
    wpAny (model X.prog X.w) X.A (call (.ref f) us (ks.zip ws)) (EP X pins σ Q) X.xe s := by
  refine wpAny_call (codeAny_mono (F.run X.A X.stack s H ⟨us, ks.zip ws⟩ (ord l (us ++ ws)) _ Q (L2.WE W σ) hr I.env0 (.of_eq (hb us ws hm hn)) (ord_vals (r.append rz) l) h) fun res s' hq => ?_)
  cases res with
  | error er => exact L2N.passAt tk σ pins H s er s' I hq
  | ok fl => cases fl with
    | ret u => exact I.after hq
    | next => exact hq.elim
    | brk => exact hq.elim
    | cont => exact hq.elim
theorem ue_callK0 (hf : FnHasK X.prog X.w X.K X.mg X.base k x ks 0 l sp) (hr : Room k X.A) (tk : L2N.Takes X W) (hg : Gl X x) (hdb : (x == ("__debug__" : Str)) = false) (hkw : PK X kws (upA X W wk)) (hall : (backToKw pos (keywordEach kws X.env)).all (·.1.isSome) = true)
    (hks : (backToKw pos (keywordEach kws X.env)).filterMap (·.1) = ks) (hpl : (backToKw pos (keywordEach kws X.env)).any (·.1.isNone) = false) : PE X (.Call (.Name x p) [] kws pos) (upE X W (wCallK sp 0 ks.length l wNil wk)) := by
  obtain ⟨f, fd, ps, hm, F, kp, hb⟩ := hf
  refine ⟨fun pins s σ H Q I ⟨ρ, M, Q0, E0, r, m, t, q, xg⟩ => wpAny_Call_Name_kw (ld_glob I hg hm ?_ hdb)⟩
  refine PySem.W.callWith_KW0 (h₀ := X.base) I.ok.mod.kin kp hall (thn (hkw.run pos pins s σ H (fun zs H1 => zs.length = ks.length ∧ upSp X.K X.w sp (ord l ([] ++ zs)) H1 Q (L2.WE W σ)) I ⟨ρ, M, _, E0, r, m, t, fun zs M1 t1 ys H1 s1 rd m1 => ⟨by rw [← rd.length]; exact t1.2.1, upSp_of (ord_rds rd l) m1 t1.2.2 (fun d M' qd y H' s' => q d M' qd y H' (s1.trans s')) (xg.stb s1)⟩, xg⟩) fun ws s2 ⟨zs, H2, I2, rz, hl, q2⟩ => ⟨I2.kIn, ?_⟩) (by show (false || _) = false; rw [hpl]; rfl)
  rw [hks]
  exact run_key F hr tk hb rfl (by rw [← rz.length]; exact hl) I2 .nil rz q2
theorem ue_callK (hf : FnHasK X.prog X.w X.K X.mg X.base k x ks m l sp) (hr : Room k X.A) (tk : L2N.Takes X W) (hg : Gl X x) (hdb : (x == ("__debug__" : Str)) = false) (ha : PA X (e :: es) (upA X W wa)) (hs : (e :: es).all noStar = true) (hkw : PK X kws (upA X W wk))
    (hall : (backToKw pos (keywordEach kws X.env)).all (·.1.isSome) = true) (hks : (backToKw pos (keywordEach kws X.env)).filterMap (·.1) = ks) (hpl : (backToKw pos (keywordEach kws X.env)).any (·.1.isNone) = false) : PE X (.Call (.Name x p) (e :: es) kws pos) (upE X W (wCallK sp m ks.length l wa wk)) := by
  obtain ⟨f, fd, ps, hm, F, kp, hb⟩ := hf
  have hs' := hs
  rw [List.all_cons, Bool.and_eq_true] at hs
  refine ⟨fun pins s σ H Q I ⟨ρ, M, Q0, E0, r, mm, t, q, xg⟩ => wpAny_Call_Name_kw (ld_glob I hg hm ?_ hdb)⟩
  refine PySem.W.callWith_KW (h₀ := X.base) I.ok.mod.kin kp hall (thn (ha.run pos pins s σ H (fun ys H1 => upA X W wk σ H1 fun zs H2 => ys.length = m ∧ zs.length = ks.length ∧ upSp X.K X.w sp (ord l (ys ++ zs)) H2 Q (L2.WE W σ)) I ⟨ρ, M, _, E0, r, mm, t, fun ds M1 t1 ys H1 s1 rd m1 =>
    ⟨ρ, M1, _, E0, r.stb s1, m1, t1, fun zs M2 t2 ys2 H2 s2 rd2 m2 => ⟨by rw [← rd.length]; exact t2.1, by rw [← rd2.length]; exact t2.2.1, upSp_of (ord_rds ((RDs.stb s2 rd).append rd2) l) m2 t2.2.2 (fun d M' qd y H' s' => q d M' qd y H' ((s1.trans s2).trans s')) ((xg.stb s1).stb s2)⟩, xg.stb s1⟩, xg⟩)
    fun us s1 ⟨vs, H1, I1, r1, q1⟩ => thn (hkw.run pos pins s1 σ H1 _ I1 q1) fun ws s2 ⟨zs, H2, I2, rz, h1, h2, q2⟩ => ⟨I2.kIn, ?_⟩) (by rw [star_plain hs', hpl]; rfl) (star_cons hs.1)
  rw [hks]
  exact run_key F hr tk hb (by show us.length = m; rw [← r1.length]; exact h1) (by rw [← rz.length]; exact h2) I2 r1 rz q2
end
end Fg
/-! Fg23: calls by keywords, over any context. -/
namespace Fg
open PySem PySem.Spec L2
open PyProof.Rows hiding St
theorem kw_names (kws : List Keyword) (pos : Pos) (env : Env) : (backToKw pos (keywordEach kws env)).map (·.1) = kws.map (·.1) := by
  induction kws with
  | nil => rfl
  | cons kw kws ih =>
    obtain ⟨nm, e, p⟩ := kw
    exact congrArg (nm :: ·) ih
theorem kw_all (kws : List Keyword) (ks : List Str) (h : kws.map (·.1) = ks.map some) (pos : Pos) (env : Env) :
    (backToKw pos (keywordEach kws env)).all (·.1.isSome) = true ∧ (backToKw pos (keywordEach kws env)).filterMap (·.1) = ks ∧ (backToKw pos (keywordEach kws env)).any (·.1.isNone) = false := by
  have e := (kw_names kws pos env).trans h
  generalize backToKw pos (keywordEach kws env) = l at e
  clear h
  induction l generalizing ks with
  | nil =>
    cases ks with
    | nil => exact ⟨rfl, rfl, rfl⟩
    | cons k ks => cases e
  | cons a l ih =>
    cases ks with
    | nil => cases e
    | cons k ks =>
      obtain ⟨nm, t⟩ := a
      rw [List.map_cons, List.map_cons, List.cons.injEq] at e
      obtain ⟨e1, e2⟩ := e
      obtain ⟨i1, i2, i3⟩ := ih ks e2
      have e1' : nm = some k := e1
      subst e1'
      refine ⟨?_, ?_, ?_⟩
      · rw [List.all_cons, i1]; rfl
      · rw [List.filterMap_cons, i2]
      · rw [List.any_cons, i3]; rfl
def JK (U : Ud) (k : Nat) (n : Nm) (ks : List Keyword) (w : WA) : Prop := ∀ X W, Gd U k n X W → PK X ks (upA X W w)
section
variable {U : Ud} {k : Nat} {n : Nm} {e : Expr} {es : List Expr} {pos p kpos : Pos} {x : Str} {ks : List Str} {kws : List Keyword} {we : WE} {wa wk : WA} {m : Nat} {l : List Nat} {nm : Option Str}
theorem k_nil : JK U k n [] wNil := fun X W g => uk_nil
theorem k_cons (ha : JE U k n e we) (hr : JK U k n kws wk) : JK U k n (⟨nm, e, kpos⟩ :: kws) (wCons we wk) := fun X W g => uk_cons (ha X W g) (hr X W g)
def ckB (n : Nm) (x : Str) (es : List Expr) (kws : List Keyword) (ks : List Str) : Bool := caB n x es && decide (kws.map (·.1) = ks.map some)
theorem m_callK {sp : SpD} {j : Nat} (f : FnHasK U.P U.w U.K U.mg U.base j x ks m l sp) (hj : j ≤ k) (h : ckB n x (e :: es) kws ks = true) (ha : JA U k n (e :: es) wa) (hk : JK U k n kws wk) : JE U k n (.Call (.Name x p) (e :: es) kws pos) (wCallK sp m ks.length l wa wk) := fun X W g => by
  obtain ⟨h, h4⟩ := He.ba h
  obtain ⟨h1, h⟩ := He.ba h
  obtain ⟨h2, h3⟩ := He.ba h
  obtain ⟨i1, i2, i3⟩ := kw_all kws ks (of_decide_eq_true h4) pos X.env
  refine ue_callK (k := j) ?_ ((g.room (nb h3)).mono hj) g.tk (g.gl (of_decide_eq_true (He.ba h1).1)) (dbg_ok (He.ba h1).2) (ha X W g) h2 (hk X W g) i1 i2 i3
  rw [g.eP, g.eW, g.eK, g.eM, g.eB]; exact f
theorem m_callK0 {sp : SpD} {j : Nat} (f : FnHasK U.P U.w U.K U.mg U.base j x ks 0 l sp) (hj : j ≤ k) (h : ckB n x [] kws ks = true) (hk : JK U k n kws wk) : JE U k n (.Call (.Name x p) [] kws pos) (wCallK sp 0 ks.length l wNil wk) := fun X W g => by
  obtain ⟨h, h4⟩ := He.ba h
  obtain ⟨h1, h⟩ := He.ba h
  obtain ⟨h2, h3⟩ := He.ba h
  obtain ⟨i1, i2, i3⟩ := kw_all kws ks (of_decide_eq_true h4) pos X.env
  refine ue_callK0 (k := j) ?_ ((g.room (nb h3)).mono hj) g.tk (g.gl (of_decide_eq_true (He.ba h1).1)) (dbg_ok (He.ba h1).2) (hk X W g) i1 i2 i3
  rw [g.eP, g.eW, g.eK, g.eM, g.eB]; exact f
end
section
variable {hd : Hd} {U : Ud}
/-- a def of the text, called by keywords -/
theorem Fct.fnK (F : Fct hd U) {k : Nat} {N ps : List Str} {w : WS} (i j : Nat) {d : He.DefD} {x : Str} (ks : List Str) (m : Nat) (l : List Nat) (h : hd.fn[i]? = some d) (ha : d.at_ = (x, none)) (hf : d.dfl = [] ∧ d.kwd = []) (hg : hd.fa[j]? = some (.glo x)) (S : FnScope N ps d.scope)
    (hb : ∀ (kV doc pm : Value) (an : Option Addr) (cdv ct : Value) (us ws : List Value), us.length = m → ws.length = ks.length → bindArgs (PySem.W.fnOf d.name d.qual d.params d.body d.scope .none kV doc pm an cdv ct) ⟨us, ks.zip ws⟩ = pure (ps.zip (ord l (us ++ ws))))
    (hk : JSs U k ⟨N, d.scope, fun _ => true, false, none, true⟩ d.body w) : FnHasK U.P U.w U.K U.mg U.base (k + 1) x ks m l (spW N ps.length w) := by
  obtain ⟨fd, D⟩ := F.says.1.def_ i h
  have e1 : d.dvs U.K = [] := by unfold He.DefD.dvs; rw [hf.1]; rfl
  have e2 : d.kws U.K = [] := by unfold He.DefD.kws; rw [hf.2]; rfl
  rw [e1, e2, ha] at D
  refine ⟨_, fd, ps, F.glo j hg, fn_okD D S hk, D.kp, ?_⟩
  obtain ⟨oc, od, dV, kV, doc, pm, an, cdv, ct, osl, rfl, lk, hcd, hD, hK⟩ := D.ex
  rcases hD with ⟨_, rfl⟩ | ⟨e, _⟩
  · exact hb kV doc pm an cdv ct
  · exact absurd rfl e
end
end Fg
/-! Fg24: dicts and texts walked, list of anything, sorted of alike data. -/
namespace Fg
open PySem PySem.Spec L2
open PyProof.Rows hiding St
/-! ### a value's reading is one -/
def bk : Value → V
  | .none => .non
  | .bool b => .bl b
  | .int i _ => .int i
  | .str x _ => .str x
  | .bytes b _ => .byt b
  | .float b _ => .flt b
  | .ref a => .ref a
  | .type n => .ty n
  | _ => .non
theorem bk_of {x : V} {u : Value} (h : RelV x u) : bk u = x := by
  cases x <;> first | (cases h; rfl) | (obtain ⟨t, rfl⟩ := h; rfl)
theorem rel_one {x y : V} {u : Value} (h : RelV x u) (g : RelV y u) : x = y := (bk_of h).symm.trans (bk_of g)
/-! ### the keys of a dict -/
def Itx (a : Addr) (ob : Obj) (es : List DictEntry) : It :=
  ⟨fun i G => G a = some (rawO a ob) ∧ i < es.length, fun i G x G' => G' = G ∧ ∃ en, es[i]? = some en ∧ RelV x en.key, fun i G => G a = some (rawO a ob) ∧ es.length ≤ i⟩
theorem turn_raw {P : Program} {w : World} {K : PySem.W.Frag} {tg : Expr} {a : Addr} {ob : Obj} {es : List DictEntry} {ep : Nat} (it : Addr) (hod : ob.data = .dict es.toArray ep) (hk : ∀ en ∈ es, ∃ y, RelV y en.key) :
    Turn P w K tg (Itx a ob es) [it] it (fun i hp => hp.IsKeyIter it a i es.length ep) where
  mem := by simp
  obj := fun i hp q c hc => by
    obtain rfl : c = it := by simpa using hc
    obtain ⟨oi, e, cl, dd⟩ := q
    exact ⟨oi, e, fun v z => by rw [dd] at z; cases z⟩
  keep := fun i hp hp' q k => q.at fun oi e => k it (by simp) oi e
  item := by
    intro X e1 e2 e3 hc i pins s σ G E I hf q hg
    subst e1 e2 e3
    obtain ⟨hd, hi⟩ := hg
    obtain ⟨g0, g1, g2, g3, g4, g5⟩ := hf it (by simp)
    have hen : es[i]? = some es[i] := List.getElem?_eq_getElem hi
    obtain ⟨y, ry⟩ := hk es[i] (List.getElem_mem hi)
    refine next_key_item q (raw_get I hd) hod (by simp) (en := es[i]) (by simpa using hen) fun hp' q' sb => ?_
    have I1 : Inv X pins σ G { s with heap := hp' } := I.turned (t' := s.toks) (fun c oc hc e => (sb.2 c hc).trans e) g0 g1 g3 g4 g5
    obtain ⟨oi, e, cl, dd⟩ := id q'
    exact ⟨_, rfl, go_of (s := { s with heap := hp' }) e cl dd (by decide) ⟨y, G, I1, ry, ⟨rfl, es[i], hen, ry⟩, q', fun c hc => (hf c hc).1⟩⟩
  done := by
    intro X e1 e2 e3 hc i pins s σ G E I hf q hg
    subst e1 e2 e3
    obtain ⟨hd, hi⟩ := hg
    obtain ⟨g0, g1, g2, g3, g4, g5⟩ := hf it (by simp)
    exact next_key_end (I.ok.hd hc) q (raw_get I hd) hod (by simp) hi fun hp' eb => ⟨rfl, I.turned (t' := s.toks) (fun c oc hc e => eb c oc hc e) g0 g1 g3 g4 g5⟩
  self := fun A i s Q E q h => wpAny_pyIter_keyiter q h
/-! ### what is walked: its items, what must stay -/
def signs (z : Str) : List D := z.cps.toList.map fun c => .str ⟨#[c]⟩
def walkD (M : MM) : D → Option (List D × (MM → Prop))
  | .tup ds => some (ds, fun _ => True)
  | .rol ds => some (ds, fun _ => True)
  | .str z => some (signs z, fun _ => True)
  | .ref a => match M a with
    | some (.lst ds) => some (ds, fun M' => M' a = some (.lst ds))
    | some (.dct o kvs) => some (kvs.map (·.1), fun M' => M' a = some (.dct o kvs))
    | _ => none
  | _ => none
def wWk (w : WE) : WI := fun ρ M K E => w ρ M (fun x M1 => ∃ ds st, walkD M1 x = some (ds, st) ∧ K ds st M1) E
section
variable {X : Cx} {W : WX} {tg e : Expr} {w : WE}
theorem wk_sq {H : Hp} {a : Addr} {ds : List D} {st : MM → Prop} (h : ∀ (H' : Hp) (M' : MM), Stb H H' → RMx X H' M' → st M' → ∃ vs, SqL X.K H' a vs ∧ RDs X.K H' ds vs) : Wk X (Itl X.K a) H ds st := by
  intro i H' M' s m q
  obtain ⟨vs, h1, h2⟩ := h H' M' s m q
  refine ⟨fun e => ⟨vs, h1, by rw [← h2.length]; omega⟩, fun d hd => ?_⟩
  obtain ⟨y, h3, h4⟩ := h2.get hd
  refine ⟨⟨vs, y, h1, h3⟩, fun x' H2 hy => ?_⟩
  obtain ⟨e, hy⟩ := hy
  subst e
  have h5 := hy vs h1
  rw [h3] at h5
  cases h5
  exact ⟨Stb.refl _, m, h4⟩
theorem wk_str {H : Hp} {z : Str} {st : MM → Prop} : Wk X (Its z) H (signs z) st := by
  intro i H' M' s m q
  have hl : (signs z).length = z.cps.size := by unfold signs; simp
  refine ⟨fun e => by show z.cps.size ≤ i; omega, fun d hd => ?_⟩
  have hi : i < z.cps.size := by
    have := (List.getElem?_eq_some_iff.mp hd).1
    omega
  refine ⟨hi, fun x' H2 hy => ?_⟩
  obtain ⟨e, c, hc, e2⟩ := hy
  subst e e2
  have ed : d = .str ⟨#[c]⟩ := by
    unfold signs at hd
    rw [List.getElem?_map, Array.getElem?_toList, hc] at hd
    cases hd; rfl
  subst ed
  exact ⟨Stb.refl _, m, .str _⟩
theorem ren_key {K : PySem.W.Frag} {wd : World} {H : Hp} : ∀ {kvs : List (D × D)} {es : List DictEntry}, Paired (REn K wd H) kvs es → ∀ en ∈ es, ∃ y, RelV y en.key
  | _, _, .nil, _, h => nomatch h
  | _, _, .cons h t, en, hm => by
    rcases List.mem_cons.mp hm with rfl | hm
    · obtain ⟨⟨k, y, _, _, _, ry, _⟩, _⟩ := h
      exact ⟨y, ry⟩
    · exact ren_key t en hm
theorem wk_dct {H : Hp} {a : Addr} {ob : Obj} {kvs : List (D × D)} {es : List DictEntry} {ep : Nat} (hd : ob.data = .dict es.toArray ep) (hl : es.length = kvs.length) : Wk X (Itx a ob es) H (kvs.map (·.1)) (fun M' => M' a = some (.dct ob kvs)) := by
  intro i H' M' s m q
  obtain ⟨es', ep', h1, _, g2, _, _, _, _, h5⟩ := m a _ q
  obtain ⟨e1, _⟩ := dict_ep g2 hd
  have e2 : es = es' := by simpa using e1
  subst e2
  refine ⟨fun e => ⟨h1, by rw [hl]; simp at e; omega⟩, fun d hd' => ?_⟩
  rw [List.getElem?_map] at hd'
  obtain ⟨p, hp, ep2⟩ := Option.map_eq_some_iff.mp hd'
  obtain ⟨en, hen, re⟩ := paired_get h5 hp
  refine ⟨⟨h1, (List.getElem?_eq_some_iff.mp hen).1⟩, fun x' H2 hy => ?_⟩
  obtain ⟨e, en', hen', rx⟩ := hy
  subst e
  rw [hen] at hen'
  cases hen'
  obtain ⟨⟨k, y, _, _, _, ry, rd⟩, _⟩ := re
  rw [← rel_one ry rx, ← ep2]
  exact ⟨Stb.refl _, m, rd⟩
theorem ui_wk (he : PE X e (upE X W w)) : PI X tg e (upI X W (wWk w)) := by
  refine ⟨fun pins s σ H R I h => ?_⟩
  obtain ⟨ρ, M, K0, E0, r, m, t, q, xg⟩ := h
  refine thn (he.run pins s σ H (fun x H1 => ∃ d M1 ds st, RD X.K H1 d x ∧ RMx X H1 M1 ∧ walkD M1 d = some (ds, st) ∧ Stb H H1 ∧ K0 ds st M1) I ⟨ρ, M, _, E0, r, m, t, fun d M1 t1 y H1 s1 rd m1 => ?_, xg⟩) fun v s1 hh => ?_
  · obtain ⟨ds, st, h1, h2⟩ := t1
    exact ⟨d, M1, ds, st, rd, m1, h1, s1, h2⟩
  · obtain ⟨x, H1, I1, r1, d, M1, ds, st, rd, m1, h1, sH, h2⟩ := hh
    cases rd with
    | str z =>
      cases h1
      obtain ⟨t, rfl⟩ := r1
      cases ha : z.cps.all (· < 128)
      · exact wpAny_pyIter_wide ha (pi_one (tk := s1.toks) I1 _ (turn_str _ z t "str_iterator" (.inr rfl)) ⟨_, Heap.get?_push_size _ rfl, rfl, rfl⟩ (q _ _ _ h2 _ _ sH m1 wk_str))
      · exact wpAny_pyIter_ascii ha (pi_one (tk := s1.toks) I1 _ (turn_str _ z t "str_ascii_iterator" (.inl rfl)) ⟨_, Heap.get?_push_size _ rfl, rfl, rfl⟩ (q _ _ _ h2 _ _ sH m1 wk_str))
    | @tup a vs ds' g1 g2 =>
      cases h1
      cases r1
      obtain ⟨its, rv, p, hz⟩ := I1.tuple g1.t
      exact wpAny_pyIter_tuple (show s1.heap.IsTuple a its.toArray from p) (pi_one (tk := s1.toks) I1 _ (turn_tuple a _) ⟨_, Heap.get?_push_size _ rfl, rfl, rfl⟩ (q _ _ _ h2 _ _ sH m1 (wk_tup g1 g2)))
    | @rol a vs ds' g1 g2 =>
      cases h1
      cases r1
      obtain ⟨its, rv, p, hz⟩ := I1.list g1.sq
      exact wpAny_pyIter_list p.isList (pi_one (tk := s1.toks) I1 _ (turn_list a _) ⟨_, Heap.get?_push_size _ rfl, rfl, rfl⟩ (q _ _ _ h2 _ _ sH m1 (wk_sq fun H' M' s' m' _ => ⟨vs, (g1.stb s').sq, g2.stb s'⟩)))
    | ref a =>
      cases r1
      unfold walkD at h1
      cases em : M1 a with
      | none => simp only [em] at h1; cases h1
      | some ob =>
        cases ob with
        | lst es =>
          simp only [em] at h1
          cases h1
          obtain ⟨vs, g1, g2⟩ := m1 a _ em
          obtain ⟨its, rv, p, hz⟩ := I1.list (SqL.of g1)
          refine wpAny_pyIter_list p.isList (pi_one (tk := s1.toks) I1 _ (turn_list a _) ⟨_, Heap.get?_push_size _ rfl, rfl, rfl⟩ (q _ _ _ h2 _ _ sH m1 (wk_sq fun H' M' s' m' q' => ?_)))
          obtain ⟨vs3, k1, k2⟩ := m' a _ q'
          exact ⟨vs3, SqL.of k1, k2⟩
        | dct ob kvs =>
          simp only [em] at h1
          cases h1
          obtain ⟨es, ep, g1, g2, g3, g4, _, _, _, g5⟩ := m1 a _ em
          have hl := Paired.length g5
          refine iter_keys g4 (raw_get I1 g1) g2 g3 (pi_one (tk := s1.toks) I1 _ (turn_raw _ g3 (ren_key g5)) ⟨_, Heap.get?_push_size _ rfl, rfl, ?_⟩ (q _ _ _ h2 _ _ sH m1 (wk_dct g3 hl.symm)))
          rw [List.size_toArray] <;> rfl
        | ins _ _ => simp only [em] at h1; cases h1
        | xd _ _ => simp only [em] at h1; cases h1
    | _ => cases h1
/-! ### list(x) -/
def cLst : CD := fun xs M Q => ∃ x ds st, xs = [x] ∧ (∀ z, x ≠ .str z) ∧ walkD M x = some (ds, st) ∧ ∀ p, M p = none → Q (.ref p) (up M p (.lst ds))
theorem ren_keys {K : PySem.W.Frag} {wd : World} {H : Hp} : ∀ {kvs : List (D × D)} {es : List DictEntry}, Paired (REn K wd H) kvs es → ∃ vs, Vals vs (es.map (·.key)) ∧ RDs K H (kvs.map (·.1)) vs
  | _, _, .nil => ⟨[], .nil, .nil⟩
  | _, _, .cons h t => by
    obtain ⟨vs, h1, h2⟩ := ren_keys t
    obtain ⟨⟨k, y, _, _, _, ry, rd⟩, _⟩ := h
    exact ⟨y :: vs, .cons ry h1, .cons rd h2⟩
theorem keys_got {es : List DictEntry} {acc : Array Value} (h : ItemsOf (fun i v => ∃ en : DictEntry, es.toArray[i]? = some en ∧ v = en.key) acc es.toArray.size) : acc.toList = es.map (·.key) := by
  have hl : acc.toList.length = es.length := by rw [Array.length_toList, h.1, List.size_toArray]
  apply List.ext_getElem?
  intro j
  rw [List.getElem?_map]
  cases hj : acc.toList[j]? with
  | none =>
    have h1 := List.getElem?_eq_none_iff.mp hj
    rw [List.getElem?_eq_none (by omega)]
    rfl
  | some v =>
    obtain ⟨en, hen, hv⟩ := h.2 j v (by rw [← Array.getElem?_toList]; exact hj)
    have e : es[j]? = some en := by simpa using hen
    rw [e, hv]
    rfl
theorem cr_cLst (hc : X.calm = true) : CallR X (.type "list") (upC X cLst) := call_up fun pins s σ H M ds xs us Q Q0 I m rd rv ⟨x, es, st, e, hns, hw, t⟩ q => by
  subst e
  obtain ⟨v, rfl, h⟩ := rds1 rd
  have seq : ∀ {a : Addr} {vs : List V}, v = .ref a → (SqL X.K H a vs ∨ SqT X.K H a vs) → RDs X.K H es vs → wpAny (model X.prog X.w) X.A (call (.type "list") us) (EP X pins σ Q) X.xe s := fun {a vs} ev h1 h2 => by
    subst ev
    exact call_list_of pins s σ H _ us Q I rv ⟨a, vs, rfl, h1, fun p hp => q _ _ (t p (m.fresh hp)) _ _ (Stb.new hp) (.ref p) (m.new hp ⟨vs, upd_same, RDs.stb (Stb.new hp) h2⟩)⟩
  cases h with
  | str z => exact absurd rfl (hns z)
  | @tup a vs ds' g1 g2 => cases hw; exact seq rfl (.inr g1.t) g2
  | @rol a vs ds' g1 g2 => cases hw; exact seq rfl (.inl g1.sq) g2
  | ref a =>
    unfold walkD at hw
    cases em : M a with
    | none => simp only [em] at hw; cases hw
    | some ob =>
      cases ob with
      | lst ds' =>
        simp only [em] at hw
        cases hw
        obtain ⟨vs, g1, g2⟩ := m a _ em
        exact seq rfl (.inl (SqL.of g1)) g2
      | dct ob kvs =>
        simp only [em] at hw
        cases hw
        obtain ⟨des, ep, g1, g2, g3, g4, g6, _, _, g5⟩ := m a _ em
        have hl := Paired.length g5
        obtain ⟨u, rfl, ru⟩ := vals1 rv
        obtain rfl : u = Value.ref a := ru
        refine PySem.W.kdl_call (kdl_raw g4 g2 g3) (I.ok.hd hc) (raw_get I g1) (by rw [List.size_toArray]; omega) fun h' tk acc' c' kp e it => ?_
        have ea := keys_got it
        obtain ⟨vs, k1, k2⟩ := ren_keys g5
        have hp := I.hok.fresh (Nat.le_refl s.heap.objs.size)
        have hz : vs.length ≤ sizeLine := by rw [← k2.length, List.length_map]; exact g6
        refine ⟨.ref s.heap.objs.size, _, I.laid (t' := tk) (o := .lst vs) kp (Nat.le_refl _) ⟨hz, acc'.toList, c', by rw [ea]; exact k1, by rw [Array.toArray_toList]; exact e⟩, rfl, ?_⟩
        exact q _ _ (t _ (m.fresh hp)) _ _ (Stb.new hp) (.ref _) (m.new (o := .lst (kvs.map (·.1))) hp ⟨vs, upd_same, RDs.stb (Stb.new hp) k2⟩)
      | ins _ _ => simp only [em] at hw; cases hw
      | xd _ _ => simp only [em] at hw; cases hw
  | _ => cases hw
/-! ### sorted -/
def leD (x y : D) : Bool := PySem.W.dataLe false toP x y
structure SortOk (ds : List D) : Prop where
  dat : dats ds = true
  al : ∀ d ∈ ds, ∀ e ∈ ds, PySem.W.alike (toP d) (toP e) = true
  one : (∀ d ∈ ds, ∃ x r, d = .tup (x :: r)) ∨ ∀ d ∈ ds, isAt d = true
  dp : deps ds ≤ 50
def cSorted : CD := fun xs M Q => ∃ x ds, xs = [x] ∧ lstOf M x = some ds ∧ SortOk ds ∧ ∀ p, M p = none → Q (.ref p) (up M p (.lst (ds.mergeSort leD)))
open PySem.W (EachIs) in
theorem each_of {K : PySem.W.Frag} {H : Hp} : ∀ {ds : List D} {vs : List V} {us : List Value}, RDs K H ds vs → Vals vs us → EachIs (fun u d => ∃ y, RelV y u ∧ RD K H d y) us ds
  | _, _, _, .nil, .nil => .nil
  | _, _, _, .cons h t, .cons r rs => .cons ⟨_, r, h⟩ (each_of t rs)
open PySem.W (EachIs) in
theorem of_each {K : PySem.W.Frag} {H : Hp} : ∀ {ds : List D} {us : List Value}, EachIs (fun u d => ∃ y, RelV y u ∧ RD K H d y) us ds → ∃ vs, RDs K H ds vs ∧ Vals vs us
  | _, _, .nil => ⟨[], .nil, .nil⟩
  | _, _, .cons ⟨y, ry, rd⟩ t => let ⟨vs, h1, h2⟩ := of_each t; ⟨y :: vs, .cons rd h1, .cons ry h2⟩
theorem dat_of {ds : List D} (h : dats ds = true) {d : D} (hd : d ∈ ds) : dat d = true := by
  induction ds with
  | nil => cases hd
  | cons a r ih =>
    rw [dats, Bool.and_eq_true] at h
    rcases List.mem_cons.mp hd with rfl | hd
    · exact h.1
    · exact ih h.2 hd
theorem dep_of {ds : List D} {d : D} (hd : d ∈ ds) : dep d ≤ deps ds := by
  induction ds with
  | nil => cases hd
  | cons a r ih =>
    rw [deps]
    rcases List.mem_cons.mp hd with rfl | hd
    · omega
    · have := ih hd; omega
theorem mem_toPs {ds : List D} {p : PyData} (h : p ∈ toPs ds) : ∃ d ∈ ds, p = toP d := by
  rw [toPs_map] at h
  obtain ⟨d, hd, e⟩ := List.mem_map.mp h
  exact ⟨d, hd, e.symm⟩
theorem sortable_of {ds : List D} (h : SortOk ds) : PySem.W.AllAlike (toPs ds) ∧ PySem.W.Sortable (toPs ds) := by
  refine ⟨fun p hp q hq => ?_, ?_⟩
  · obtain ⟨d, hd, rfl⟩ := mem_toPs hp
    obtain ⟨e, he, rfl⟩ := mem_toPs hq
    exact h.al d hd e he
  · rcases h.one with o | o
    · refine .inl fun p hp => ?_
      obtain ⟨d, hd, rfl⟩ := mem_toPs hp
      obtain ⟨x, r, rfl⟩ := o d hd
      exact ⟨toP x, toPs r, by rw [toP, toPs]⟩
    · refine .inr fun p hp => ?_
      obtain ⟨d, hd, rfl⟩ := mem_toPs hp
      have := o d hd
      cases d <;> simp [isAt, toP] at this ⊢
theorem cr_cSorted (hu : X.A.units + 64 < cLine) : CallR X (.builtin "sorted") (upC X cSorted) := call_up fun pins s σ H M ds xs us Q Q0 I m rd rv ⟨x, es, e, hn, ok, t⟩ q => by
  subst e
  obtain ⟨v, rfl, h⟩ := rds1 rd
  obtain ⟨a, vs, rfl, h1, h2⟩ := lstOf_sq m h hn
  rw [Vals.ref1 rv]
  obtain ⟨its, rv', hl, hz⟩ := I.list h1
  have hz' : its.length ≤ sizeLine := by rw [← rv'.length]; exact hz
  have ea := each_of h2 rv'
  obtain ⟨al, so⟩ := sortable_of ok
  have er : PySem.W.EachIs (fun u d => ∃ as, PySem.Reads (PySem.W.sortingHeap (PySem.W.copyHeap s.heap its) (s.heap.objs.size + 1) its) u (toP d) as) its es := (PySem.W.each_mem ea).mono fun u d ⟨⟨y, ry, rdy⟩, hd⟩ => by
    obtain ⟨as, q1⟩ := reads_of I rdy (dat_of ok.dat hd) ry
    exact ⟨as, PyProof.Rows.Reads.keeps (fun b o e => PySem.W.sorting_copy_old e) q1⟩
  have eP := PySem.W.each_map (R := fun u d => ∃ as, PySem.Reads (PySem.W.sortingHeap (PySem.W.copyHeap s.heap its) (s.heap.objs.size + 1) its) u d as) toP er
  rw [← toPs_map] at eP
  refine PySem.W.sorted_vals hl.isList (PySem.W.SortsAt.data (s := { s with heap := PySem.W.sortingHeap (PySem.W.copyHeap s.heap its) (s.heap.objs.size + 1) its }) eP al so fun p hp => ?_) hz' ?_
  · obtain ⟨d, hd, rfl⟩ := mem_toPs hp
    have := dep_of hd
    have := ok.dp
    rw [dep_toP]
    show X.A.in1.in1.units + dep d < cLine
    show X.A.units + 1 + 1 + dep d < cLine
    omega
  · have so2 := PySem.W.sortVals_data (enc := toP) (bs := es) false ea er (by rw [← toPs_map]; exact al)
    rw [← toPs_map] at so2
    obtain ⟨vs2, k1, k2⟩ := of_each so2
    obtain ⟨ep, he'⟩ := PyProof.Rows.sortedAll_at s.heap its (PySem.W.sortVals (PySem.W.dataKind (PySem.W.sortingHeap (PySem.W.copyHeap s.heap its) (s.heap.objs.size + 1) its) (toPs es)) false its its).toArray
    have hp := I.hok.fresh (Nat.le_succ s.heap.objs.size)
    have hlen : vs2.length ≤ sizeLine := by
      rw [← k1.length, List.length_mergeSort, h2.length]
      exact hz
    refine ⟨.ref _, upd H (s.heap.objs.size + 1) (.lst vs2), I.laid (t' := s.toks) (fun _ _ => PyProof.Rows.sortedAll_old) (Nat.le_succ _) ⟨hlen, _, ep, k2, he'⟩, rfl, ?_⟩
    exact q _ _ (t _ (m.fresh hp)) _ _ (Stb.new hp) (.ref _) (m.new (o := .lst (es.mergeSort leD)) hp ⟨vs2, upd_same, RDs.stb (Stb.new hp) k1⟩)
end
end Fg
/-! Fg25: dicts made of pairs, displayed dicts. -/
namespace Fg
open PySem PySem.Spec L2
open PyProof.Rows hiding St
/-! ### pairs stored one behind another -/
def putP (kvs : List (D × D)) (p : D × D) : List (D × D) := match dkey p.1 with
  | some k => putKD kvs p.1 k p.2
  | none => kvs
def putAll (kvs ps : List (D × D)) : List (D × D) := ps.foldl putP kvs
structure PairsOk (ps : List (D × D)) : Prop where
  key : ∀ p ∈ ps, ∃ k, dkey p.1 = some k ∧ k.depth ≤ 8
  un : uni ps
theorem putP_eq {kvs : List (D × D)} {p : D × D} {k : NestedKey} (h : dkey p.1 = some k) : putP kvs p = putKD kvs p.1 k p.2 := by unfold putP; rw [h]
theorem putP_length (kvs : List (D × D)) (p : D × D) : (putP kvs p).length ≤ kvs.length + 1 := by
  unfold putP
  split
  · exact putKD_length _ _ _ _
  · omega
theorem putAll_length : ∀ (ps kvs : List (D × D)), (putAll kvs ps).length ≤ kvs.length + ps.length
  | [], _ => Nat.le_refl _
  | p :: r, kvs => by
    have h1 := putAll_length r (putP kvs p)
    have h2 := putP_length kvs p
    show (putAll (putP kvs p) r).length ≤ _
    rw [List.length_cons]; omega
theorem PairsOk.tail {p : D × D} {r : List (D × D)} (h : PairsOk (p :: r)) : PairsOk r := ⟨fun q hq => h.key q (List.mem_cons_of_mem _ hq), h.un.imp (fun u q hq => u q (List.mem_cons_of_mem _ hq)) fun u q hq => u q (List.mem_cons_of_mem _ hq)⟩
theorem putAll_nodup : ∀ {ps kvs : List (D × D)}, (kvs.map fun p => dkey p.1).Nodup → ((putAll kvs ps).map fun p => dkey p.1).Nodup
  | [], _, h => h
  | p :: r, kvs, h => by
    refine putAll_nodup (ps := r) (kvs := putP kvs p) ?_
    unfold putP
    split
    · rename_i k e
      exact put_nodup e h
    · exact h
theorem putAll_mem : ∀ {ps kvs : List (D × D)} {p : D × D}, p ∈ putAll kvs ps → (∃ q ∈ ps, q.1 = p.1) ∨ ∃ q ∈ kvs, q.1 = p.1
  | [], _, p, h => .inr ⟨p, h, rfl⟩
  | x :: r, kvs, p, h => by
    rcases putAll_mem (ps := r) (kvs := putP kvs x) h with ⟨q, hq, e⟩ | ⟨q, hq, e⟩
    · exact .inl ⟨q, List.mem_cons_of_mem _ hq, e⟩
    · unfold putP at hq
      split at hq
      · rename_i k ek
        rcases put_mem hq with e2 | ⟨z, hz, e2⟩
        · exact .inl ⟨x, List.mem_cons_self, e2.symm.trans e⟩
        · exact .inr ⟨z, hz, e2.trans e⟩
      · exact .inr ⟨q, hq, e⟩
theorem putAll_uni {ps : List (D × D)} (h : uni ps) : uni (putAll [] ps) := by
  rcases h with h | h
  · refine .inl fun p hp => ?_
    rcases putAll_mem hp with ⟨q, hq, e⟩ | ⟨q, hq, _⟩
    · rw [← e]; exact h q hq
    · cases hq
  · refine .inr fun p hp => ?_
    rcases putAll_mem hp with ⟨q, hq, e⟩ | ⟨q, hq, _⟩
    · rw [← e]; exact h q hq
    · cases hq
section
variable {X : Cx} {pins : List (Addr × Obj)} {σ : St} {H : Hp} {s : Shared}
theorem mergeA {K : PySem.W.Frag} : ∀ {ps : List (D × D)} {qs : List (Key × Value)} {kvs : List (D × D)} {vs : List (Key × Value)}, Paired (RA K H) ps qs → Paired (RA K H) kvs vs → Paired (RA K H) (putAll kvs ps) (merged vs qs)
  | _, _, _, _, .nil, h => h
  | _, _, kvs, vs, .cons (a := p) (b := q) ⟨e, y, ry, rd⟩ t, h => by
    refine mergeA (kvs := putP kvs p) (vs := stored vs q.1 q.2) t ?_
    rw [putP_eq (akey_dkey e)]
    exact put_A e ry rd h
theorem mergeT {w : World} {K : PySem.W.Frag} : ∀ {ps : List (D × D)} {qs : List (NestedKey × Addr × Value)} {kvs : List (D × D)} {xs : List (NestedKey × Addr × Value)}, Paired (RT w K H) ps qs → Paired (RT w K H) kvs xs → Paired (RT w K H) (putAll kvs ps) (storedAllH xs qs)
  | _, _, _, _, .nil, h => h
  | _, _, kvs, xs, .cons (a := p) (b := q) ⟨e, dp, rk, y, ry, rd⟩ t, h => by
    refine mergeT (kvs := putP kvs p) (xs := storedH xs q.1 q.2.1 q.2.2) t ?_
    rw [putP_eq e]
    exact put_T e dp rk ry rd h
/-- two values of a pair's tuple -/
theorem pair_vals {K : PySem.W.Frag} {H : Hp} {x y : D} {v : V} (r : RD K H (.tup [x, y]) v) : ∃ a vx vy, v = .ref a ∧ SqN K H a [vx, vy] ∧ RD K H x vx ∧ RD K H y vy := by
  cases r with
  | @tup a vs ds h1 h2 =>
    cases h2 with
    | cons h3 h4 => cases h4 with
      | cons h5 h6 =>
        cases h6
        exact ⟨a, _, _, rfl, h1, h3, h5⟩
/-- a row of pairs as the library has it -/
structure PRow (s : Shared) (H : Hp) (K : PySem.W.Frag) (ps : List (D × D)) (its : List Value) (Ts : List Addr) (qs : List (Value × Value)) : Prop where
  e : its = Ts.map Value.ref
  l : qs.length = ps.length
  at_ : ∀ (j : Nat) (k v : Value), qs[j]? = some (k, v) → ∃ T, Ts[j]? = some T ∧ PairAt s.heap T k v
  rel : Paired (fun p q => (∃ y, RelV y q.1 ∧ RD K H p.1 y) ∧ ∃ y, RelV y q.2 ∧ RD K H p.2 y) ps qs
theorem prow (I : Inv X pins σ H s) : ∀ {ps : List (D × D)} {vs : List V} {its : List Value}, RDs X.K H (ps.map fun p => .tup [p.1, p.2]) vs → Vals vs its → ∃ Ts qs, PRow s H X.K ps its Ts qs
  | [], _, _, r, rv => by
    cases r
    cases rv
    exact ⟨[], [], rfl, rfl, fun j k v h => by simp at h, .nil⟩
  | p :: ps, _, _, r, rv => by
    rw [List.map_cons] at r
    cases r with
    | cons r1 r2 => cases rv with
      | cons v1 v2 =>
        obtain ⟨Ts, qs, ih⟩ := prow I r2 v2
        obtain ⟨a, vx, vy, rfl, hs, rx, ry⟩ := pair_vals r1
        cases v1
        obtain ⟨us, ru, pt, _⟩ := I.tuple hs.t
        obtain ⟨ux, uy, rfl, e1, e2⟩ := vals2 ru
        refine ⟨a :: Ts, (ux, uy) :: qs, by rw [ih.e]; rfl, by rw [List.length_cons, List.length_cons, ih.l], fun j k v h => ?_, .cons ⟨⟨vx, e1, rx⟩, vy, e2, ry⟩ ih.rel⟩
        cases j with
        | zero =>
          simp at h
          obtain ⟨rfl, rfl⟩ := h
          exact ⟨a, rfl, .inl pt⟩
        | succ j =>
          obtain ⟨T, h1, h2⟩ := ih.at_ j k v (by simpa using h)
          exact ⟨T, by simpa using h1, h2⟩
theorem prowA {K : PySem.W.Frag} {P : Program} {w : World} : ∀ {ps : List (D × D)} {qs : List (Value × Value)}, Paired (fun p q => (∃ y, RelV y q.1 ∧ RD K H p.1 y) ∧ ∃ y, RelV y q.2 ∧ RD K H p.2 y) ps qs → (∀ p ∈ ps, isAt p.1 = true) →
    ∃ rs : List (Key × Value), rs.length = ps.length ∧ (∀ (i : Nat) (k v : Value), qs[i]? = some (k, v) → ∃ kk, rs[i]? = some (kk, v) ∧ (mixKind P w).is kk k = true) ∧ Paired (RA K H) ps rs
  | _, _, .nil, _ => ⟨[], rfl, fun i k v h => by simp at h, .nil⟩
  | _, _, .cons (a := p) (b := q) ⟨⟨y, ry, rd⟩, z, rz, dz⟩ t, a => by
    obtain ⟨rs, h1, h2, h3⟩ := prowA (P := P) (w := w) t fun p hp => a p (List.mem_cons_of_mem _ hp)
    obtain ⟨kk, e1, e2⟩ := akey_of (a p List.mem_cons_self)
    refine ⟨(kk, q.2) :: rs, by rw [List.length_cons, List.length_cons, h1], fun i k v h => ?_, .cons ⟨e1, z, rz, dz⟩ h3⟩
    cases i with
    | zero =>
      simp at h
      subst h
      exact ⟨kk, rfl, akey_rel rd e1 ry⟩
    | succ i =>
      obtain ⟨k2, g1, g2⟩ := h2 i k v (by simpa using h)
      exact ⟨k2, by simpa using g1, g2⟩
theorem prowT (I : Inv X pins σ H s) : ∀ {ps : List (D × D)} {qs : List (Value × Value)}, Paired (fun p q => (∃ y, RelV y q.1 ∧ RD X.K H p.1 y) ∧ ∃ y, RelV y q.2 ∧ RD X.K H p.2 y) ps qs → (∀ p ∈ ps, isTu p.1 = true) → (∀ p ∈ ps, ∃ k, dkey p.1 = some k ∧ k.depth ≤ 8) →
    ∃ rs : List (NestedKey × Addr × Value), rs.length = ps.length ∧ (∀ (i : Nat) (k v : Value), qs[i]? = some (k, v) → ∃ kk b, rs[i]? = some (kk, b, v) ∧ k = .ref b) ∧ (∀ x ∈ rs, NestedIs s.heap x.1 (.ref x.2.1) ∧ x.1.depth ≤ 8) ∧ Paired (RT X.w X.K H) ps rs
  | _, _, .nil, _, _ => ⟨[], rfl, fun i k v h => by simp at h, fun x h => by simp at h, .nil⟩
  | _, _, .cons (a := p) (b := q) ⟨⟨y, ry, rd⟩, z, rz, dz⟩ t, a, ky => by
    obtain ⟨rs, h1, h2, h3, h4⟩ := prowT I t (fun p hp => a p (List.mem_cons_of_mem _ hp)) fun p hp => ky p (List.mem_cons_of_mem _ hp)
    obtain ⟨kk, e1, dp⟩ := ky p List.mem_cons_self
    obtain ⟨b, rfl, eb⟩ := tu_ref rd (a p List.mem_cons_self) ry
    have hn := nested_of I rd e1 ry
    rw [eb] at hn
    refine ⟨(kk, b, q.2) :: rs, by rw [List.length_cons, List.length_cons, h1], fun i k v h => ?_, fun x hx => ?_, .cons ⟨e1, dp, rd, z, rz, dz⟩ h4⟩
    · cases i with
      | zero =>
        simp at h
        subst h
        exact ⟨kk, b, rfl, eb⟩
      | succ i =>
        obtain ⟨k2, b2, g1, g2⟩ := h2 i k v (by simpa using h)
        exact ⟨k2, b2, by simpa using g1, g2⟩
    · rcases List.mem_cons.mp hx with rfl | hx
      · exact ⟨hn, dp⟩
      · exact h3 x hx
/-! ### dict(pairs) -/
def cDict : CD := fun xs M Q => ∃ x ps, xs = [x] ∧ itemsOf M x = some (ps.map fun p => .tup [p.1, p.2]) ∧ PairsOk ps ∧ ∀ p o, M p = none → Q (.ref p) (up M p (.dct o (putAll [] ps)))
/-- a sequence that has no dict -/
theorem plain_of (I : Inv X pins σ H s) {a : Addr} {vs : List V} (h : SqL X.K H a vs ∨ SqN X.K H a vs) : ∃ its : List Value, Vals vs its ∧ (PlainSeq "list" s.heap a its.toArray ∨ PlainSeq "tuple" s.heap a its.toArray) ∧ vs.length ≤ sizeLine := by
  rcases h with h | ⟨o, h, hd⟩ | ⟨o, its, n, h1, h2, h3, h4, h5, r⟩
  · obtain ⟨its, rv, ⟨o, n, g1, g2, g3, g4⟩, hz⟩ := I.list h
    exact ⟨its, rv, .inl ⟨o, n, g1, g2, g3, g4⟩, hz⟩
  · obtain ⟨g1, hz, its, rv, ⟨o2, g2, g3, n, g4⟩⟩ := I.hok a _ h
    rw [g1] at g2
    cases g2
    exact ⟨its, rv, .inr ⟨o, n, g1, g3, hd, g4⟩, hz⟩
  · refine ⟨its.toList, r, .inr ⟨o, n, I.kIn a o h1, h2, h3, by simpa using h4⟩, ?_⟩
    have z := r.length
    simp only [Array.length_toList] at z
    omega
theorem cr_cDict (hc : X.calm = true) (hu : X.A.units + 64 < cLine) : CallR X (.type "dict") (upC X cDict) := call_up fun pins s σ H M ds xs us Q Q0 I m rd rv ⟨x, ps, e, hn, ok, t⟩ q => by
  subst e
  obtain ⟨v, rfl, h⟩ := rds1 rd
  obtain ⟨a, vs, rfl, h1, h2⟩ := items_sq m h hn
  rw [Vals.ref1 rv]
  obtain ⟨its, rv', pl, hz⟩ := plain_of I h1
  obtain ⟨Ts, qs, pr⟩ := prow I h2 rv'
  have lp : ps.length = vs.length := by rw [← h2.length, List.length_map]
  have lz : qs.length ≤ sizeLine := by rw [pr.l, lp]; exact hz
  have pit : PairItems s.heap its.toArray (fun j => Ts.getD j 0) qs := by
    refine ⟨by rw [List.size_toArray, ← rv'.length, ← lp, pr.l], fun j k v e => ?_⟩
    obtain ⟨T, g1, g2⟩ := pr.at_ j k v e
    have eT : Ts.getD j 0 = T := by rw [List.getD_eq_getElem?_getD, g1]; rfl
    refine ⟨?_, by show PairAt s.heap (Ts.getD j 0) k v; rw [eT]; exact g2⟩
    show its.toArray[j]? = some (.ref (Ts.getD j 0))
    rw [eT, pr.e]
    simp [g1]
  obtain ⟨T, fp, OK, P, okH⟩ : ∃ T fp OK, PairArg X.prog X.w T a fp [] qs.length (PairRel qs) OK ∧ OK s.heap := by
    rcases pl with pl | pl
    · exact ⟨_, _, _, PairArg.list a its.toArray _ qs, pl, pit⟩
    · exact ⟨_, _, _, PairArg.tuple a its.toArray _ qs, pl, pit⟩
  have hm : (s.heap.objs.size == sysModules) = false := sys_no I (Nat.le_refl _)
  have hp := I.hok.fresh (Nat.le_refl s.heap.objs.size)
  have fin : ∀ (h' : Heap) (tk : Nat) (o : Obj) (es : List DictEntry) (ep : Nat), h'.get? s.heap.objs.size = some o → o.ExactDict → o.data = .dict es.toArray ep → Paired (REn X.K X.w H) (putAll [] ps) es → (∀ b o, s.heap.get? b = some o → h'.get? b = some o) → EP X pins σ Q (.ref s.heap.objs.size) { s with heap := h', toks := tk } := fun h' tk o es ep g1 g2 g3 g4 kp => by
    have lA : (putAll [] ps).length ≤ sizeLine := by
      have := putAll_length ps []
      rw [List.length_nil] at this
      omega
    refine ⟨.ref s.heap.objs.size, _, I.laid (t' := tk) kp (Nat.le_refl _) (raw_ok g1), rfl, ?_⟩
    exact q _ _ (t _ o (m.fresh hp)) _ _ (Stb.new hp) (.ref _) (m.new (o := .dct o (putAll [] ps)) hp ⟨es, ep, upd_same, g2, g3, hm, lA, putAll_uni ok.un, putAll_nodup List.nodup_nil, Paired.mapP g4 fun _ _ z => z.stb (Stb.new hp)⟩)
  rcases ok.un with hk | hk
  · obtain ⟨rs, l, ha, rel⟩ := prowA (P := X.prog) (w := X.w) pr.rel hk
    refine call_dict_pairs (knd := mixKind X.prog X.w) (kvs := rs) P (I.ok.hd hc) okH ⟨by rw [l, pr.l], fun i k v e => ha i k v e⟩ lz fun h' tk hd kp => ?_
    obtain ⟨o, es, ep, g1, g2, g3, g4, g5, g6⟩ := hd
    exact fin h' tk o es.toList ep g1 g2 (by rw [g3]) (fromA g5 (fun e he => g4 e (by simpa using he)) (mergeA rel .nil)) fun b o e => kp b o (by simp) e
  · obtain ⟨rs, l, ha, hs, rel⟩ := prowT I pr.rel hk ok.key
    refine call_dict_pairsH (knd := nestedKind X.prog X.w) (ps := rs) P (I.ok.hd hc) (by show X.A.units + 1 + 1 + 8 < cLine; omega) okH ⟨by rw [l, pr.l], fun i k v e => ha i k v e⟩ (fun h' kp x hx => ?_) lz fun h' tk hd kp => ?_
    · obtain ⟨g1, g2⟩ := hs x hx
      exact ⟨g1.at (fun b o vs n e _ => kp b o (Nat.ne_of_lt (Heap.lt_size e)) (by simp) e) _ _, g2⟩
    · obtain ⟨o, es, ep, g1, g2, g3, g4, g5, g6⟩ := hd
      refine fin h' tk o es.toList ep g1 g2 (by rw [g3]) ?_ fun b o e => kp b o (by simp) e
      rw [g4]
      exact fromT (mergeT rel .nil)
end
end Fg
/-! Fg26: dict comprehensions. -/
namespace Fg
open PySem PySem.Spec L2
open PyProof.Rows hiding St
/-! ### a store into the dict that a block makes -/
abbrev TStore := Addr → V → V → Hp → (Hp → Prop) → Prop
structure PStore (X : Cx) (ts : TStore) : Prop where
  run : ∀ (pins : List (Addr × Obj)) (s : Shared) (σ : St) (H : Hp) (a : Addr) (y z : V) (u r : Value) (Q : Hp → Prop), Inv X pins σ H s → RelV y u → RelV z r → ts a y z H Q → ∀ E : Value → Shared → Prop,
    wpAny (model X.prog X.w) X.A (dictSet a u r) (fun _ s' => ∃ H', Inv X pins σ H' s' ∧ Q H') E s
def tDcR (wi : TI) (g : TG) (tt : TT) (tk tv : TE) (ts : TStore) (vs : List Nat) : TE := fun σ H Q => wi σ H fun J H1 => ∀ D, H1 D = none → (D == sysModules) = false → ∃ W : Nat → Nat → Hp → Prop, (∃ m, W 0 m (upd H1 D (rawO D dct0))) ∧ ∀ i m G, W i m G →
  (J.stop i G ∧ Q (.ref D) G) ∨ (J.go i G ∧ ∃ Nx : Hp → Prop, (∀ G', Nx G' → ∃ m', m' < m ∧ W (i + 1) m' G') ∧ ∀ x G', J.yld i G x G' → g x (wipe σ vs) G' fun σ2 G2 => wipe σ2 vs = wipe σ vs ∧ tt σ2 G2 fun b G3 =>
    if b = true then tk σ2 G3 fun y G4 => tv σ2 G4 fun z G5 => ts D y z G5 Nx else Nx G3)
section
variable {X : Cx}
theorem dcr_core {pins : List (Addr × Obj)} {s : Shared} {σ : St} {H : Hp} {Q : VK} {ke ve tg iter : Expr} {ifs : List Expr} {scope : Scope} {ownN : List (Str × Nat)} {pos pos' : Pos} {wi : TI} {g : TG} {tt : TT} {tk tv : TE} {ts : TStore} {use : Option (Value → Sem Unit)} {Qf : Value → Shared → Prop}
    (hc : X.calm = true) (hN : X.N.Nodup) (I : Inv X pins σ H s) (hi : PI X tg iter wi) (ok : BlkOk X.N X.env.scope scope ownN)
    (hg : ∀ (s : Shared) (H : Hp) (C : Addr) (cl : List (Str × Addr)) (fp : List Addr), PG (X.blk s H scope (compEnvC scope cl C X.env) fp) tg g) (ht : ∀ (s : Shared) (H : Hp) (C : Addr) (cl : List (Str × Addr)) (fp : List Addr), PTs (X.blk s H scope (compEnvC scope cl C X.env) fp) ifs tt)
    (hk : ∀ (s : Shared) (H : Hp) (C : Addr) (cl : List (Str × Addr)) (fp : List Addr), PE (X.blk s H scope (compEnvC scope cl C X.env) fp) ke tk)
    (he : ∀ (s : Shared) (H : Hp) (C : Addr) (cl : List (Str × Addr)) (fp : List Addr), PE (X.blk s H scope (compEnvC scope cl C X.env) fp) ve tv) (hst : ∀ (s : Shared) (H : Hp) (C : Addr) (cl : List (Str × Addr)) (fp : List Addr), PStore (X.blk s H scope (compEnvC scope cl C X.env) fp) ts) (hs : ∀ x, foldedSetIterable iter X.env x = pure x)
    (h : tDcR wi g tt tk tv ts (ownN.map (·.2)) σ H Q)
    (hend : ∀ D C s' m H', Inv X pins σ H' s' → Q (.ref D) H' → s'.heap.Ns C m → FpOk X pins H' C → compPost (model X.prog X.w) X.A X.xe use Qf (.ref D) C (.ok .next) s') :
    wpAny (model X.prog X.w) X.A (comprehension (.DictComp ke ve [⟨tg, iter, ifs, 0⟩] scope pos) scope X.env pos' newDict false (eval iter X.env) use) Qf X.xe s := by
  have hfr : ∀ y ∈ scope.names, y.2 = .free → ∃ c, X.env.cells.lookup y.1 = some c := fun y hy e => by
    rcases ok.free y hy e with k | k
    · exact I.ok.has _ (.inl k)
    · exact I.ok.has _ (.inr k)
  refine wpAny_comprehension_free (use := use) rfl hs (closure_ok hfr) ok.kind (fun y hy e => by rw [ok.uniq y hy, e])
    (thn (hi.run pins s σ H _ I h) fun xv st1 hx => thn hx fun itv st2 h2 => ?_)
  obtain ⟨it, fp, tn, J, G2, e, J2, T, tst2, fp2, q⟩ := h2
  subst e
  refine wpAny_newObj_type (newEnv_comp ?_)
  generalize eD : st2.heap.objs.size = D
  have nD : G2 D = none := J2.hok.fresh (Nat.le_of_eq eD)
  obtain ⟨W, ⟨m0, w0⟩, trn⟩ := q D nD (sys_no J2 (Nat.le_of_eq eD))
  -- the new list
  generalize es3 : ({ st2 with heap := st2.heap.push { cls := .type "dict", data := .dict #[] } } : Shared) = st3
  have J3 : Inv X pins σ (upd G2 D (rawO D dct0)) st3 := by
    rw [← es3]
    refine J2.laid (t' := st2.toks) (fun b o e => Heap.get?_push_of_some _ e) (Nat.le_of_eq eD) ?_
    rw [← eD]
    exact raw_empty st2.heap
  have eq3 : st3.heap = st2.heap.push { cls := .type "dict", data := .dict #[] } := by rw [← es3]
  have below : ∀ b ∈ fp, b < st2.heap.objs.size := fun b hb => by
    obtain ⟨o, e, _⟩ := T.obj _ _ tst2 b hb
    exact Heap.lt_size e
  have fp3 : ∀ b ∈ fp, FpOk X pins (upd G2 D (rawO D dct0)) b ∧ b < st3.heap.objs.size := fun b hb => by
    have hlt := below b hb
    refine ⟨⟨?_, (fp2 b hb).2⟩, by rw [eq3, Heap.size_push]; exact Nat.lt_succ_of_lt hlt⟩
    rw [upd_ne (by rw [← eD]; exact Nat.ne_of_lt hlt)]
    exact (fp2 b hb).1
  have tst3 : tn 0 st3.heap := T.keep _ _ _ tst2 fun b _ o e => by rw [eq3]; exact Heap.get?_push_of_some _ e
  have J4 := block_start J3 ok hN fp3
  have pgD := hg st3 (upd G2 D (rawO D dct0)) st3.heap.objs.size (cellsFrom (st3.heap.objs.size + 1) scope.names (cloFrom X.env.cells scope.names [])) fp
  have ptD := ht st3 (upd G2 D (rawO D dct0)) st3.heap.objs.size (cellsFrom (st3.heap.objs.size + 1) scope.names (cloFrom X.env.cells scope.names [])) fp
  have pkD := hk st3 (upd G2 D (rawO D dct0)) st3.heap.objs.size (cellsFrom (st3.heap.objs.size + 1) scope.names (cloFrom X.env.cells scope.names [])) fp
  have pst := hst st3 (upd G2 D (rawO D dct0)) st3.heap.objs.size (cellsFrom (st3.heap.objs.size + 1) scope.names (cloFrom X.env.cells scope.names [])) fp
  have pe := he st3 (upd G2 D (rawO D dct0)) st3.heap.objs.size (cellsFrom (st3.heap.objs.size + 1) scope.names (cloFrom X.env.cells scope.names [])) fp
  show codeAny _ _ (.compStart (.DictComp ke ve [⟨tg, iter, ifs, 0⟩] scope pos) 0 (.ref it) (.ref D) (compEnvC scope (cellsFrom (st3.heap.objs.size + 1) scope.names (cloFrom X.env.cells scope.names [])) st3.heap.objs.size X.env)) (compPost (model X.prog X.w) X.A X.xe use Qf (.ref D) st3.heap.objs.size) { st3 with heap := pushCells (st3.heap.push { cls := .type "dict", data := .dict #[] }) scope.names }
  have nofp : ∀ b ∈ fp, (upd G2 D (rawO D dct0)) b = none := fun b hb => (fp3 b hb).1.1
  generalize ece : compEnvC scope (cellsFrom (st3.heap.objs.size + 1) scope.names (cloFrom X.env.cells scope.names [])) st3.heap.objs.size X.env = ce at J4 pgD ptD pkD pe pst ⊢
  have eloc : ce.locals = st3.heap.objs.size := by subst ece; rfl
  generalize eG3 : upd G2 D (rawO D dct0) = G3 at J3 J4 pgD ptD pkD pe pst w0 nofp fp3
  generalize es4 : ({ st3 with heap := pushCells (st3.heap.push { cls := .type "dict", data := .dict #[] }) scope.names } : Shared) = st4 at J4 ⊢
  have tst4 : tn 0 st4.heap := T.keep _ _ _ tst3 fun b _ o e => by rw [← es4]; exact pushCells_keeps _ _ _ _ (Heap.get?_push_of_some _ e)
  have stays : ∀ {σ' : St} {H' : Hp} {s' : Shared}, Inv (X.blk st3 G3 scope ce fp) [] σ' H' s' → (∀ b ∈ fp, H' b = none) → ∀ b ∈ fp, FpOk (X.blk st3 G3 scope ce fp) [] H' b := fun {σ' H' s'} I' hns b hb =>
    ⟨hns b hb, (I'.ok.exf b hb).1, I'.ok.exfs b hb, .inl hb, fun x c e => (I'.ok.exf b hb).2 x c e, fun p hp => absurd (show p ∈ ([] : List (Addr × Obj)) ++ [] from hp) (by simp)⟩
  have lp : codeAny (model X.prog X.w) X.A (.compLoop (.DictComp ke ve [⟨tg, iter, ifs, 0⟩] scope pos) 0 (.ref it) (.ref D) ce) (compPost (model X.prog X.w) X.A X.xe use Qf (.ref D) st3.heap.objs.size) st4 := by
    refine compLoop_anyD (fun n s' => ∃ i H', Inv (X.blk st3 G3 scope ce fp) [] (wipe σ (ownN.map (·.2))) H' s' ∧ tn i s'.heap ∧ (∀ b ∈ fp, H' b = none) ∧ W i n H') ?_ m0 ⟨0, G3, J4, tst4, nofp, w0⟩
    rintro n st5 ⟨i, G5, J5, tst5, no5, wv5⟩
    rcases trn i n G5 wv5 with ⟨stp, qD⟩ | ⟨goes, Nx, hNxt, stepD⟩
    · have tdn := T.done (X.blk st3 G3 scope ce fp) rfl rfl rfl hc i [] st5 _ G5 (fun _ _ => False) J5 (stays J5 no5) tst5 stp
      refine thnF tdn fun r st6 ⟨hr, J6⟩ => ?_
      subst hr
      -- back in the def's context
      have J7 : Inv X pins σ G5 st6 := J3.call' (ch := fp) J6.os J6.base J6.hok J6.bare fun b hb => ⟨(fp3 b hb).1.2.2.2.1, (fp3 b hb).1.2.1, (fp3 b hb).1.2.2.2.2.1, (fp3 b hb).1.2.2.2.2.2⟩
      have noC : G5 st3.heap.objs.size = none := by
        have z : G5 ce.locals = none := J6.free
        rw [eloc] at z
        exact z
      obtain ⟨m, hns, _⟩ := J6.loc
      have hns : st6.heap.Ns ce.locals m := hns
      rw [eloc] at hns
      exact hend D st3.heap.objs.size st6 m G5 J7 qD hns (J3.fpOk (Nat.le_refl _) noC)
    · have tit := T.item (X.blk st3 G3 scope ce fp) rfl rfl rfl hc i [] st5 _ G5 (fun _ _ => False) J5 (stays J5 no5) tst5 goes
      refine thnF tit fun r st6 ⟨u, hr, h6⟩ => ?_
      subst hr
      refine thnF h6 fun _ st7 ⟨x, G7, J7, rv7, yl7, tst7, no7⟩ => ?_
      have J7' := J7.pinned (stays J7 no7) (T.obj _ _ tst7)
      refine thnF (pgD.run _ st7 _ G7 x u _ J7' rv7 (stepD x G7 yl7)) fun _ st8 ⟨σ8, G8, J8, ew8, k8⟩ => ?_
      refine thnF (ptD.run _ st8 σ8 G8 _ J8 k8) fun b st9 ⟨G9, J9, k9⟩ => ?_
      -- the turn's end
      have finD : ∀ {s' : Shared} {H' : Hp}, Inv (X.blk st3 G3 scope ce fp) ([] ++ pinsAt fp st7.heap) σ8 H' s' → Nx H' → ∃ m, m < n ∧ ∃ i H', Inv (X.blk st3 G3 scope ce fp) [] (wipe σ (ownN.map (·.2))) H' s' ∧ tn i s'.heap ∧ (∀ b ∈ fp, H' b = none) ∧ W i m H' := fun {s' H'} I' nx => by
        obtain ⟨m', hm, w'⟩ := hNxt H' nx
        have pinD : ∀ b ∈ fp, ∀ o, st7.heap.get? b = some o → s'.heap.get? b = some o ∧ H' b = none := fun b hb o e =>
          let z := I'.pin (b, o) (List.mem_append_right _ (List.mem_append_right _ (mem_pinsAt hb e)))
          ⟨z.1, z.2.1⟩
        have hl : (wipe σ (ownN.map (·.2))).length = σ8.length := by rw [← ew8, wipe_length]
        refine ⟨m', hm, i + 1, H', (I'.unpinned (pins := [])).weak hl (fun j v e => ?_), T.keep _ _ _ tst7 fun b hb o e => (pinD b hb o e).1, fun b hb => ?_, w'⟩
        · rw [← ew8] at e
          exact (wipe_some e).1
        · obtain ⟨o, e, _⟩ := T.obj _ _ tst7 b hb
          exact (pinD b hb o e).2
      cases b with
      | false =>
        simp only [Bool.false_eq_true, if_false] at k9 ⊢
        exact finD J9 k9
      | true =>
        simp only [if_true] at k9 ⊢
        refine thnF (pkD.run _ st9 σ8 G9 _ J9 k9) fun z st10 ⟨yke, G10, J10, rv10, k10⟩ => ?_
        refine thnF (pe.run _ st10 σ8 G10 _ J10 k10) fun z2 st11 ⟨yve, G11, J11, rv11, k11⟩ => ?_
        exact thnF (pst.run _ st11 σ8 G11 D yke yve z z2 _ J11 rv10 rv11 k11 (fun _ _ => False)) fun _ st12 ⟨G12, J12, nx⟩ => finD J12 nx
  exact codeAny_compStart_dict lp (T.self X.A 0 _ _ _ tst4 lp)
/-- as a value -/
theorem pe_dcr {ke ve tg iter : Expr} {ifs : List Expr} {scope : Scope} {ownN : List (Str × Nat)} {pos : Pos} {wi : TI} {g : TG} {tt : TT} {tk tv : TE} {ts : TStore} (hc : X.calm = true) (hN : X.N.Nodup) (hi : PI X tg iter wi) (ok : BlkOk X.N X.env.scope scope ownN)
    (hg : ∀ (s : Shared) (H : Hp) (C : Addr) (cl : List (Str × Addr)) (fp : List Addr), PG (X.blk s H scope (compEnvC scope cl C X.env) fp) tg g) (ht : ∀ (s : Shared) (H : Hp) (C : Addr) (cl : List (Str × Addr)) (fp : List Addr), PTs (X.blk s H scope (compEnvC scope cl C X.env) fp) ifs tt)
    (hk : ∀ (s : Shared) (H : Hp) (C : Addr) (cl : List (Str × Addr)) (fp : List Addr), PE (X.blk s H scope (compEnvC scope cl C X.env) fp) ke tk)
    (he : ∀ (s : Shared) (H : Hp) (C : Addr) (cl : List (Str × Addr)) (fp : List Addr), PE (X.blk s H scope (compEnvC scope cl C X.env) fp) ve tv) (hst : ∀ (s : Shared) (H : Hp) (C : Addr) (cl : List (Str × Addr)) (fp : List Addr), PStore (X.blk s H scope (compEnvC scope cl C X.env) fp) ts) (hs : ∀ x, foldedSetIterable iter X.env x = pure x := by intro _; rfl) :
    PE X (.DictComp ke ve [⟨tg, iter, ifs, 0⟩] scope pos) (tDcR wi g tt tk tv ts (ownN.map (·.2))) := by
  refine ⟨fun pins s σ H Q I h => ?_⟩
  rw [arm_eval_DictComp]
  refine dcr_core hc hN I hi ok hg ht hk he hst hs h fun D C s' m H' I' q hns f => ⟨m, hns, fun h'' sb => ?_⟩
  obtain ⟨f0, f1, fp2, fp3, f4, f5⟩ := f
  exact ⟨.ref D, H', I'.turned (t' := s'.toks) (fun b o hb e => (sb.2 b hb).trans e) f0 f1 fp3 f4 f5, rfl, q⟩
end
/-! ### over data -/
def upSt (X : Cx) : TStore := fun a y z H Q => ∃ kd vd M kvs o k, RD X.K H kd y ∧ RD X.K H vd z ∧ RMx X H M ∧ M a = some (.dct o kvs) ∧ KOk kvs kd k ∧ kvs.length < sizeLine ∧ ∀ o' H', Stb H H' → RMx X H' (up M a (.dct o' (putKD kvs kd k vd))) → Q H'
section
variable {X : Cx}
theorem g_dset {pins : List (Addr × Obj)} {σ : St} {H : Hp} {s : Shared} {a : Addr} {kvs : List (D × D)} {es : List DictEntry} {kd : D} {k : NestedKey} {y : V} {u : Value} {v : D} {z : V} {uv : Value} {Q : Unit → Shared → Prop} {o : Obj} {A : Around} {E : Value → Shared → Prop} (hu : A.units + 64 < cLine) (I : Inv X pins σ H s) (d : DAt X H a kvs es)
    (hH : H a = some (rawO a o)) (ok : KOk kvs kd k) (hz : kvs.length < sizeLine) (r : RD X.K H kd y) (ru : RelV y u) (rv : RD X.K H v z) (rvu : RelV z uv)
    (h : ∀ o' es' ep' s', Inv X pins σ (upd H a (rawO a o')) s' → o'.ExactDict → o'.data = .dict es'.toArray ep' → Paired (REn X.K X.w H) (putKD kvs kd k v) es' → Q () s') : wpAny (model X.prog X.w) A (dictSet a u uv) Q E s := by
  rcases ok.kd with ⟨g1, g2⟩ | ⟨g1, g2⟩
  · obtain ⟨vs, dd, rel⟩ := dct_A I (d.at_ I) d.en d.nd g2
    obtain ⟨k', e1, e2⟩ := akey_of g1
    have ek : k = nkey k' := Option.some.inj (ok.key.symm.trans e2)
    subst ek
    refine wpAny_dictSet_pairs (hsz := by rw [← Paired.length rel]; omega) (akey_rel r e1 ru) dd fun h' dd' hs => ?_
    obtain ⟨ob, es', ep, w1, w2, w3, w4, w5, w6⟩ := dd'
    exact h ob es'.toList ep _ (d_write (t' := _) I (by rw [hH]; trivial) hs ⟨ob, w1⟩ (raw_ok w1)) w2 (by rw [w3]) (fromA w5 (fun e he => w4 e (by simpa using he)) (put_A e1 rvu rv rel))
  · obtain ⟨xs, dd, rel⟩ := dct_T I (d.at_ I) d.en d.nd g2
    obtain ⟨b, rfl, rfl⟩ := tu_ref r g1 ru
    refine wpAny_dictSet_heap (knd := nestedKind X.prog X.w) (hsz := by rw [← Paired.length rel]; omega) (by show A.units + 8 < cLine; omega) ⟨nested_of I r ok.key ru, ok.dp⟩ dd fun h' dd' hs => ?_
    obtain ⟨ob, es', ep, w1, w2, w3, w4, w5, w6⟩ := dd'
    refine h ob es'.toList ep _ (d_write (t' := _) I (by rw [hH]; trivial) hs ⟨ob, w1⟩ (raw_ok w1)) w2 (by rw [w3]) ?_
    rw [w4]
    exact fromT (put_T ok.key ok.dp r rvu rv rel)
theorem m_put {H : Hp} {M : MM} {a : Addr} {kvs : List (D × D)} {es es' : List DictEntry} {kd vd : D} {k : NestedKey} {o o' : Obj} {ep' : Nat} (m : RMx X H M) (da : DAt X H a kvs es) (hH : H a = some (rawO a o)) (ok : KOk kvs kd k) (hz : kvs.length < sizeLine) (x1 : o'.ExactDict)
    (x2 : o'.data = .dict es'.toArray ep') (p : Paired (REn X.K X.w H) (putKD kvs kd k vd) es') : Stb H (upd H a (rawO a o')) ∧ RMx X (upd H a (rawO a o')) (up M a (.dct o' (putKD kvs kd k vd))) := by
  have mu : Mut (H a) := by rw [hH]; trivial
  exact ⟨Stb.mut mu, m.mut mu ⟨es', ep', upd_same, x1, x2, da.sys, Nat.le_trans (putKD_length kvs kd k vd) hz, put_uni ok, put_nodup ok.key da.nd, Paired.mapP p fun _ _ z => z.stb (Stb.mut mu)⟩⟩
theorem st_up (hu : X.A.units + 64 < cLine) : PStore X (upSt X) := ⟨fun pins s σ H a y z u r Q I ry rz h E => by
  obtain ⟨kd, vd, M, kvs, o, k, r1, r2, m, e, ok, hz, q⟩ := h
  obtain ⟨es, ep, da, hH, hx, hdd⟩ := dct_at m e
  refine g_dset hu I da hH ok hz r1 ry r2 rz fun o' es' ep' s' I' x1 x2 p => ⟨_, I', ?_⟩
  obtain ⟨s1, m1⟩ := m_put m da hH ok hz x1 x2 p
  exact q o' _ s1 m1⟩
end
/-! ### {k: v for ..} -/
def dcD (stay : MM → Prop) (p : Addr) (ρ0 : En) (g : WG) (tt : WB) (tk tv : WE) : List D → List (D × D) → MM → (MM → Prop) → Prop
  | [], acc, M, K => stay M ∧ (∃ o, M p = some (.dct o acc)) ∧ K M
  | d :: ds, acc, M, K => stay M ∧ g d ρ0 M (fun ρ1 M1 => tt ρ1 M1 (fun b M2 => if b = true then tk ρ1 M2 (fun x M3 => tv ρ1 M3 (fun y M4 => ∃ o k, M4 p = some (.dct o acc) ∧ KOk acc x k ∧ acc.length < sizeLine ∧ ∀ o', dcD stay p ρ0 g tt tk tv ds (putKD acc x k y) (up M4 p (.dct o' (putKD acc x k y))) K) noX) noX
      else dcD stay p ρ0 g tt tk tv ds acc M2 K) noX) noX
def wDc (wi : WI) (own : List Nat) (g : WG) (tt : WB) (tk tv : WE) : WE := fun ρ M Q E => wi ρ M (fun ds stay M1 => ∀ p, M1 p = none → dcD stay p (wipeD ρ own) g tt tk tv ds [] (up M1 p (.dct dct0 [])) fun M2 => Q (.ref p) M2) E
theorem dcD_stay {stay : MM → Prop} {p : Addr} {ρ0 : En} {g : WG} {tt : WB} {tk tv : WE} {ds : List D} {acc : List (D × D)} {M : MM} {K : MM → Prop} (h : dcD stay p ρ0 g tt tk tv ds acc M K) : stay M := by
  cases ds with
  | nil => exact h.1
  | cons d ds => exact h.1
end Fg
/-! Fg27: dict comprehensions, displays, comprehensions of two clauses: their readings. -/
namespace Fg
open PySem PySem.Spec L2
open PyProof.Rows hiding St
section
variable {X : Cx} {W : WX}
theorem tDc_of {wi : WI} {own : List Nat} {g : WG} {tt : WB} {tk tv : WE} {σ : St} {H : Hp} {Q : VK} (h : upE X W (wDc wi own g tt tk tv) σ H Q) : tDcR (upI X W wi) (upGR X W0 (ownR own) g) (upB X W0 tt) (upE X W0 tk) (upE X W0 tv) (upSt X) own σ H Q := by
  obtain ⟨ρ, M, Q0, E0, r, m, t, q, xg⟩ := h
  refine ⟨ρ, M, _, E0, r, m, t, fun ds stay M1 t1 J H1 s1 m1 wk => ?_, xg⟩
  intro p hp hsys
  have z0 := t1 p (m1.fresh hp)
  have sN : Stb H1 (upd H1 p (rawO p dct0)) := Stb.new hp
  · refine ⟨fun i k G => i ≤ ds.length ∧ k = ds.length - i ∧ ∃ acc M', RMx X G M' ∧ Stb (upd H1 p (rawO p dct0)) G ∧ dcD stay p (wipeD ρ own) g tt tk tv (ds.drop i) acc M' fun M2 => Q0 (.ref p) M2,
      ⟨_, Nat.zero_le _, rfl, [], _, m1.new (o := .dct dct0 []) hp ⟨[], 0, upd_same, ⟨rfl, rfl, rfl⟩, rfl, hsys, Nat.zero_le _, .inl (fun p h => nomatch h), List.nodup_nil, .nil⟩, Stb.refl _, z0⟩, ?_⟩
    rintro i k G ⟨hi, rfl, acc, M', m', s', z'⟩
    have st := dcD_stay z'
    have sT := sN.trans s'
    obtain ⟨w1, w2⟩ := wk i G M' sT m' st
    by_cases hlt : i < ds.length
    · have hd : ds[i]? = some ds[i] := by simp [hlt]
      obtain ⟨go, yl⟩ := w2 _ hd
      rw [List.drop_eq_getElem_cons hlt] at z'
      refine .inr ⟨go, fun G2 => ∃ acc M2, RMx X G2 M2 ∧ Stb (upd H1 p (rawO p dct0)) G2 ∧ dcD stay p (wipeD ρ own) g tt tk tv (ds.drop (i + 1)) acc M2 fun M2 => Q0 (.ref p) M2, fun G2 ⟨acc, M2, a2, a3, a4⟩ => ⟨ds.length - (i + 1), by omega, hlt, rfl, acc, M2, a2, a3, a4⟩, fun x G2 hy => ?_⟩
      obtain ⟨s2, m2, rd⟩ := yl x G2 hy
      obtain ⟨_, z'⟩ := z'
      have rw_ : RE X.K G2 (wipeD ρ own) (wipe σ own) := (((r.stb s1).stb sT).stb s2).wipe own
      refine ⟨_, _, M', _, noX, rd, rw_, m2, z', fun ρ3 M3 z3 σ3 G3 s3 r3 m3 hR => ⟨by rw [show wipe σ3 own = wipe (wipe σ own) own from hR, wipe_wipe], ?_⟩, XGo.no⟩
      refine ⟨ρ3, M3, _, noX, r3, m3, z3, fun b M4 z4 G4 s4 m4 => ?_, XGo.no⟩
      have s14 := s'.trans ((s2.trans s3).trans s4)
      cases b with
      | false => exact ⟨acc, M4, m4, s14, z4⟩
      | true =>
        refine ⟨ρ3, M4, _, noX, r3.stb s4, m4, z4, fun x5 M5 z5 v5 G5 s5 rd5 m5 => ⟨ρ3, M5, _, noX, (r3.stb s4).stb s5, m5, z5, fun y6 M6 z6 v6 G6 s6 rd6 m6 => ?_, XGo.no⟩, XGo.no⟩
        obtain ⟨o, kk, h1, ok, h2, h5⟩ := z6
        exact ⟨x5, y6, M6, acc, o, kk, rd5.stb s6, rd6, m6, h1, ok, h2, fun o' G' sG mG => ⟨_, _, mG, ((s14.trans s5).trans s6).trans sG, h5 o'⟩⟩
    · have e : i = ds.length := by omega
      subst e
      rw [List.drop_length] at z'
      exact .inl ⟨w1 rfl, q _ _ z'.2.2 _ _ (s1.trans sT) (.ref p) m'⟩
/-! ### displays -/
def prsD : List (WE × WE) → En → MM → (List (D × D) → MM → Prop) → QX → Prop
  | [], _, M, K, _ => K [] M
  | (wk, wv) :: r, ρ, M, K, E => wk ρ M (fun x M1 => wv ρ M1 (fun y M2 => prsD r ρ M2 (fun ps M3 => K ((x, y) :: ps) M3) E) E) E
def wDisp (l : List (WE × WE)) : WE := fun ρ M Q E => ∀ p, M p = none → prsD l ρ (up M p (.dct dct0 [])) (fun ps M2 => (∃ o, M2 p = some (.dct o [])) ∧ PairsOk ps ∧ ps.length ≤ 15 ∧ ∀ o, Q (.ref p) (up M2 p (.dct o (putAll [] ps)))) E
def RP2 (K : PySem.W.Frag) (H : Hp) : List (D × D) → List (V × V) → Prop := Paired fun p q => RD K H p.1 q.1 ∧ RD K H p.2 q.2
theorem pairs_up {E0 : QX} : ∀ {l : List (WE × WE)} {ρ : En} {M : MM} {σ : St} {H : Hp} {K0 : List (D × D) → MM → Prop} {Q : List (V × V) → Hp → Prop}, RE X.K H ρ σ → RMx X H M → prsD l ρ M K0 E0 →
    (∀ ps M', K0 ps M' → ∀ vps H', Stb H H' → RP2 X.K H' ps vps → RMx X H' M' → Q vps H') → XGo X W σ H E0 → tPairs (l.map fun p => (upE X W p.1, upE X W p.2)) σ H Q
  | [], ρ, M, σ, H, K0, Q, r, m, t, q, xg => q [] M t [] H (Stb.refl H) .nil m
  | (wk, wv) :: l, ρ, M, σ, H, K0, Q, r, m, t, q, xg => by
    refine ⟨ρ, M, _, E0, r, m, t, fun x M1 t1 vx H1 s1 rx m1 => ⟨ρ, M1, _, E0, r.stb s1, m1, t1, fun y M2 t2 vy H2 s2 ry m2 => ?_, xg.stb s1⟩, xg⟩
    exact pairs_up (l := l) ((r.stb s1).stb s2) m2 t2 (fun ps M' k vps H' s' rp m' => q _ M' k _ H' ((s1.trans s2).trans s') (.cons ⟨(rx.stb s2).stb s', ry.stb s'⟩ rp) m') ((xg.stb s1).stb s2)
theorem RP2.stb {K : PySem.W.Frag} {H H' : Hp} (s : Stb H H') {ps : List (D × D)} {vs : List (V × V)} (h : RP2 K H ps vs) : RP2 K H' ps vs := Paired.mapP h fun _ _ q => ⟨q.1.stb s, q.2.stb s⟩
theorem store_all {pins : List (Addr × Obj)} {σ : St} {a : Addr} {A : Around} {E : Value → Shared → Prop} {Q : PUnit → Shared → Prop} (hu : A.units + 64 < cLine) : ∀ {ps : List (D × D)} {vps : List (V × V)} {ws : List (Value × Value)} {acc : List (D × D)} {o : Obj} {M : MM} {H : Hp} {s : Shared},
    Inv X pins σ H s → RMx X H M → M a = some (.dct o acc) → RP2 X.K H ps vps → VV vps ws → PairsOk ps → uni (acc ++ ps) → acc.length + ps.length ≤ sizeLine →
    (∀ o' H' s', Inv X pins σ H' s' → Stb H H' → RMx X H' (up M a (.dct o' (putAll acc ps))) → Q PUnit.unit s') → wpAny (model X.prog X.w) A (storeAll a ws) Q E s
  | [], _, _, acc, o, M, H, s, I, m, e, .nil, .nil, _, _, _, q => by
    have eM : up M a (.dct o acc) = M := by
      funext b
      unfold up
      split
      · rename_i h; rw [h, e]
      · rfl
    exact wpAny_pure (q o H s I (Stb.refl H) (by show RMx X H (up M a (.dct o acc)); rw [eM]; exact m))
  | p :: ps, _, _, acc, o, M, H, s, I, m, e, .cons (b := v) (l₂ := vs) ⟨r1, r2⟩ rp, .cons (b := w) (l₂ := ws) ⟨v1, v2⟩ rv, ok, un, hz, q => by
    obtain ⟨kk, hk, dp⟩ := ok.key p List.mem_cons_self
    have kok : KOk acc p.1 kk := ⟨hk, dp, un.imp (fun u => ⟨u p (by simp), fun x hx => u x (by simp [hx])⟩) fun u => ⟨u p (by simp), fun x hx => u x (by simp [hx])⟩⟩
    have hz1 : acc.length < sizeLine := by rw [List.length_cons] at hz; omega
    obtain ⟨es, ep, da, hH, hx, hdd⟩ := dct_at m e
    unfold storeAll
    rw [List.forIn_cons]
    refine wpAny_bind (wpAny_bind (g_dset hu I da hH kok hz1 r1 v1 r2 v2 fun o' es' ep' s' I' x1 x2 pe => wpAny_pure ?_))
    obtain ⟨s1, m1⟩ := m_put m da hH kok hz1 x1 x2 pe
    have eP : putP acc p = putKD acc p.1 kk p.2 := putP_eq hk
    have hl := putKD_length acc p.1 kk p.2
    have un' : uni (putKD acc p.1 kk p.2 ++ ps) := by
      rcases un with u | u
      · refine .inl fun x hx => ?_
        rcases List.mem_append.mp hx with hx | hx
        · rcases put_mem hx with e1 | ⟨z, hz, e1⟩
          · rw [e1]; exact u p (by simp)
          · rw [← e1]; exact u z (by simp [hz])
        · exact u x (by simp [hx])
      · refine .inr fun x hx => ?_
        rcases List.mem_append.mp hx with hx | hx
        · rcases put_mem hx with e1 | ⟨z, hz, e1⟩
          · rw [e1]; exact u p (by simp)
          · rw [← e1]; exact u z (by simp [hz])
        · exact u x (by simp [hx])
    have again := store_all (A := A) (E := E) (Q := Q) hu (ps := ps) (vps := vs) (ws := ws) (acc := putKD acc p.1 kk p.2) (o := o') I' m1 up_same (RP2.stb s1 rp) rv ok.tail un' (by rw [List.length_cons] at hz; omega) fun o2 H2 s2 I2 sx mx => ?_
    · exact again
    · refine q o2 H2 s2 I2 (s1.trans sx) ?_
      rw [up_up] at mx
      have e3 : putAll acc (p :: ps) = putAll (putKD acc p.1 kk p.2) ps := by show putAll (putP acc p) ps = _; rw [eP]
      rw [e3]
      exact mx
theorem vv_of {K : PySem.W.Frag} {H : Hp} {ps : List (D × D)} {vps : List (V × V)} (h : RP2 K H ps vps) : ps.length = vps.length := Paired.length h
theorem ue_disp {pos : Pos} {keys : List (Option Expr)} {values : List Expr} {l : List (WE × WE)} (hu : X.A.units + 64 < cLine) (h : PPs X pos keys values (l.map fun p => (upE X W p.1, upE X W p.2))) (hall : keys.all (·.isSome) = true) (hl : keys.length = values.length) (h0 : keys ≠ [])
    (h15 : keys.length ≤ 15) : PE X (.Dict keys values pos) (upE X W (wDisp l)) := by
  refine ⟨fun pins s σ H Q I ⟨ρ, M, Q0, E0, r, m, t, q, xg⟩ => ?_⟩
  have hp := I.hok.fresh (Nat.le_refl s.heap.objs.size)
  have J := I.laid (a := s.heap.objs.size) (o := rawO s.heap.objs.size dct0) (h' := s.heap.push dct0) (t' := s.toks) (fun _ _ e => Heap.get?_push_of_some _ e) (Nat.le_refl _) (raw_empty s.heap)
  have m1 := m.new (o := .dct dct0 []) hp ⟨[], 0, upd_same, ⟨rfl, rfl, rfl⟩, rfl, sys_no I (Nat.le_refl _), Nat.zero_le _, .inl (fun p h => nomatch h), List.nodup_nil, .nil⟩
  have s0 : Stb H (upd H s.heap.objs.size (rawO s.heap.objs.size dct0)) := Stb.new hp
  refine wpAny_Dict_any hall hl h0 h15 (thn (h.run pins _ σ _ (fun vps H2 => ∃ ps M2 o, RP2 X.K H2 ps vps ∧ RMx X H2 M2 ∧ Stb H H2 ∧ M2 s.heap.objs.size = some (.dct o []) ∧ PairsOk ps ∧ ps.length ≤ 15 ∧ ∀ o, Q0 (.ref s.heap.objs.size) (up M2 s.heap.objs.size (.dct o (putAll [] ps)))) J
    (pairs_up (E0 := E0) (r.stb s0) m1 (t _ (m.fresh hp)) (fun ps M' ⟨⟨o, e⟩, ok, le, z⟩ vps H' s' rp m' => ⟨ps, M', o, rp, m', s0.trans s', e, ok, le, z⟩) (xg.stb s0))) fun ws s2 ⟨vps, H2, I2, rel, ps, M2, o, rp, m2, sH, e, ok, le, z⟩ => ?_)
  refine store_all hu I2 m2 e rp rel ok (by rw [List.nil_append]; exact ok.un) (by rw [sizeLine_eq, List.length_nil]; omega) fun o' H' s' I' sx mx => ?_
  exact ⟨.ref s.heap.objs.size, H', I', rfl, q _ _ (z o') _ _ (sH.trans sx) (.ref _) mx⟩
end
end Fg
/-! Fg28: the same by form, for printed proofs. -/
namespace Fg
open PySem PySem.Spec L2
open PyProof.Rows hiding St
section
variable {U : Ud} {k : Nat} {n : Nm} {e a b c tg iter kx vx : Expr} {es : List Expr} {pos : Pos} {w wk wv : WE} {wi : WI} {g : WG} {keys : List (Option Expr)} {values : List Expr} {l : List (WE × WE)}
theorem m_wk (h : JE U k n e w) : JI U k n tg e (wWk w) := fun X W g => ui_wk (h X W g)
theorem f_lst (h : n.hot = false) : ∀ X W, Gd U k n X W → CallR X (.type "list") (upC X cLst) := fun _ _ g => cr_cLst (g.calm h)
theorem f_sorted : ∀ X W, Gd U k n X W → CallR X (.builtin "sorted") (upC X cSorted) := fun _ _ g => cr_cSorted g.hu
theorem f_dict (h : n.hot = false) : ∀ X W, Gd U k n X W → CallR X (.type "dict") (upC X cDict) := fun _ _ g => cr_cDict (g.calm h) g.hu
def JPs (U : Ud) (k : Nat) (n : Nm) (pos : Pos) (keys : List (Option Expr)) (values : List Expr) (l : List (WE × WE)) : Prop := ∀ X W, Gd U k n X W → PPs X pos keys values (l.map fun p => (upE X W p.1, upE X W p.2))
theorem p_nil : JPs U k n pos [] [] [] := fun X W g => pps_nil
theorem p_cons (ha : JE U k n a wk) (hb : JE U k n b wv) (hr : JPs U k n pos keys values l) : JPs U k n pos (some a :: keys) (b :: values) ((wk, wv) :: l) := fun X W g => pps_cons (ha X W g) (hb X W g) (hr X W g)
theorem n_disp (h : JPs U k n pos keys values l) (hb : (keys.all (·.isSome) && (keys.length == values.length && (!keys.isEmpty && decide (keys.length ≤ 15)))) = true) : JE U k n (.Dict keys values pos) (wDisp l) := fun X W g => by
  obtain ⟨h1, hb⟩ := He.ba hb
  obtain ⟨h2, hb⟩ := He.ba hb
  obtain ⟨h3, h4⟩ := He.ba hb
  exact ue_disp g.hu (h X W g) h1 (by simpa using h2) (by intro z; rw [z] at h3; cases h3) (of_decide_eq_true h4)
section
variable {scope : Scope} {tt : WB}
theorem m_dc (own : List (Str × Nat)) (h : (!n.hot && (blkC n.N n.sc scope own && !isSet iter)) = true) (hi : JI U k n tg iter wi) (hg : JG U k (n.blk scope) (ownR (own.map (·.2))) tg g) (ht : JTs U k (n.blk scope) es tt) (hk : JE U k (n.blk scope) kx wk) (hv : JE U k (n.blk scope) vx wv) :
    JE U k n (.DictComp kx vx [⟨tg, iter, es, 0⟩] scope pos) (wDc wi (own.map (·.2)) g tt wk wv) := fun X W g' =>
  (pe_dcr (g := upGR X W0 (ownR (own.map fun (p : Str × Nat) => p.2)) g) (tt := upB X W0 tt) (tk := upE X W0 wk) (tv := upE X W0 wv) (ts := upSt X) (g'.calm (nb (He.ba h).1)) g'.nm (hi X W g') (by have := blkOk_by (He.ba (He.ba h).2).1; rw [← g'.eN, ← g'.eS] at this; exact this)
    (fun s H C cl fp => hg _ _ (g'.blk (nb (He.ba h).1) s H scope C cl fp)) (fun s H C cl fp => ht _ _ (g'.blk (nb (He.ba h).1) s H scope C cl fp)) (fun s H C cl fp => hk _ _ (g'.blk (nb (He.ba h).1) s H scope C cl fp)) (fun s H C cl fp => hv _ _ (g'.blk (nb (He.ba h).1) s H scope C cl fp))
    (fun s H C cl fp => st_up (X := X.blk s H scope (compEnvC scope cl C X.env) fp) g'.hu) (fold_no (nb (He.ba (He.ba h).2).2))).imp fun σ H Q z => tDc_of z
end
end
end Fg
/-! Fg29: sorted() of tuples of which some are empty. -/
namespace Fg
open PySem PySem.Calls PySem.W PySem.SeqAt
open PyProof.Rows hiding St
section
variable {prog : Program} {w : World} {A : Around} {s : Shared} {E : Value → Shared → Prop}
theorem tup_lt_call {Q : Value → Shared → Prop} {l b : Addr} {xs ys : Array Value} {e r : Nat → Bool} (hl : s.heap.IsTuple l xs) (hb : s.heap.IsTuple b ys)
    (he : ∀ j (h1 : j < xs.size) (h2 : j < ys.size), EqAt A.in1 s xs[j] ys[j] (e j)) (hr : ∀ j (h1 : j < xs.size) (h2 : j < ys.size), e j = false → RcLt A.in1 s xs[j] ys[j] (r j))
    (h : Q (.bool (firstLt e r (decide (xs.size < ys.size)) (List.range (min xs.size ys.size)))) s) : wpAny (model prog w) A (call (.builtin "tuple.__lt__") [.ref l, .ref b]) Q E s := by
  obtain ⟨⟨c1, d1, t1, q1⟩, g1, k1, m1, j1⟩ := hl
  obtain ⟨⟨c2, d2, t2, q2⟩, g2, k2, m2, j2⟩ := hb
  dsimp only at k1 j1 k2 j2
  subst k1 j1 k2 j2
  exact call_meets F.slot_tuple_lt ⟨_, g1, rfl⟩ F.entry_tuple_lt (F.args_tuple_lt_2 _ _) (tuple_ltAt l b xs ys m1 m2 d1 d2 q1 q2 e r) ⟨g1, g2, he, hr, h⟩
theorem one_tup {xs ys : List PyData} {a b : Value} {as bs : List Addr} {Q : Bool → Shared → Prop} (ra : Reads s.heap a (.tuple xs) as) (rb : Reads s.heap b (.tuple ys) bs) (h : alike (.tuple xs) (.tuple ys) = true)
    (hu : A.units + min (PyData.tuple xs).depth (PyData.tuple ys).depth < cLine) (hq : Q (dataLt (.tuple xs) (.tuple ys)) s) : wpAny (model prog w) A (PyProof.Rows.oneLt' true a b) Q E s := by
  have hal : alikeAll xs ys = true := by simpa [alike] using h
  cases ra with
  | @tuple l o vs n _ as1 h1 h2 h3 h4 =>
    cases rb with
    | @tuple l' o' vs' n' _ bs1 k1 k2 k3 k4 =>
      have n1 : vs.size = xs.length := by simpa using ReadsAll.length _ _ _ h4
      have n2 : vs'.size = ys.length := by simpa using ReadsAll.length _ _ _ k4
      rw [dataLt_tuple, ← firstLt_toks xs ys hal, ← n1, ← n2] at hq
      rw [PyProof.Rows.oneLt'_eq, if_pos rfl]
      refine wpAny_bind (wpAny_cRoomFor (room_here hu) (wpAny_bind ?_))
      refine wpAny_callSpecialIfBound?_slot (T := "tuple") ⟨_, h1, h2⟩ F.slot_tuple_lt (tup_lt_call (e := pairEq xs ys) (r := fun j => dataLt (xs.getD j .none) (ys.getD j .none)) ⟨_, h1, h2, _, h3⟩ ⟨_, k1, k2, _, k3⟩ (fun j j1 j2 => ?_) (fun j j1 j2 hj => ?_) ?_)
      · have z := eqAt_alikeAll xs ys A.in1 s vs.toList vs'.toList _ _ h4 k4 hal (room_in hu) j (by simpa using j1) (by simpa using j2)
        simpa using z
      · have z := rcLt_alikeAll xs ys A.in1 s vs.toList vs'.toList _ _ h4 k4 hal (room_in hu) j (by simpa using j1) (by simpa using j2) hj
        simpa using z
      · exact wpAny_truthy_bool hq
def nonE : PyData → Bool
  | .tuple (_ :: _) => true
  | _ => false
theorem firsts_any : ∀ {vs : List Value} {ds : List PyData}, EachIs (fun v d => ∃ as, Reads s.heap v d as) vs ds → (∀ d ∈ ds, ∃ xs, d = .tuple xs) → ∃ fs : List (Option Value), fs.map (·.isSome) = ds.map nonE ∧ ∀ (E : Value → Shared → Prop) {Q : List (Option Value) → Shared → Prop}, Q fs s → wpAny (model prog w) A (vs.mapM PyProof.Rows.firstOfTuple') Q E s
  | _, _, .nil, _ => ⟨[], rfl, fun E Q h => by rw [List.mapM_nil]; exact wpAny_pure h⟩
  | v :: vs, d :: ds, .cons ⟨as, r⟩ t, ht => by
    obtain ⟨fs, e1, e2⟩ := firsts_any t fun x hx => ht x (List.mem_cons_of_mem _ hx)
    obtain ⟨xs, rfl⟩ := ht d (List.mem_cons_self ..)
    cases r with
    | @tuple l o us n _ _ h1 h2 h3 h4 =>
      have hl : us.toList.length = xs.length := ReadsAll.length _ _ _ h4
      refine ⟨us[0]? :: fs, ?_, fun E Q h => ?_⟩
      · rw [List.map_cons, List.map_cons, e1]
        congr 1
        cases xs with
        | nil =>
          have : us.size = 0 := by simpa using hl
          rw [Array.getElem?_eq_none (by omega)]; rfl
        | cons x xs =>
          have : 0 < us.size := by have := hl; simp at this; omega
          rw [Array.getElem?_eq_getElem this]; rfl
      · rw [List.mapM_cons]
        refine wpAny_bind ?_
        rw [kas_first_eq]
        refine wpAny_bind (Looks.here (show Looks (model prog w) s.heap (typeOf (.ref l)) o.cls from (Looks.ld h1).andThen .now) ?_)
        rw [h2, if_neg (by simp)]
        refine wpAny_bind (listItems_at h1 h3 (wpAny_pure ?_))
        exact wpAny_bind (e2 E (Q := fun bs s' => wpAny (model prog w) A (pure (us[0]? :: bs)) Q E s') (wpAny_pure h))
/-- tuples, some of them empty, perhaps -/
theorem sorts_tups {vs : List Value} {ds : List PyData} (e : EachIs (fun v d => ∃ as, Reads s.heap v d as) vs ds) (hal : AllAlike ds) (ht : ∀ d ∈ ds, ∃ xs, d = .tuple xs) (hu : ∀ d, d ∈ ds → A.units + d.depth < cLine) : SortsAt prog w A s (dataKind s.heap ds) vs := by
  by_cases full : ds.all nonE = true
  · refine SortsAt.data e hal (.inl fun d hd => ?_) hu
    obtain ⟨xs, rfl⟩ := ht d hd
    have := List.all_eq_true.mp full _ hd
    cases xs with
    | nil => cases this
    | cons x r => exact ⟨x, r, rfl⟩
  · have room : ∀ {d d' : PyData}, d ∈ ds → A.units + min d.depth d'.depth < cLine := fun {d d'} hd => Nat.lt_of_le_of_lt (Nat.add_le_add_left (Nat.min_le_left _ _) _) (hu d hd)
    refine ⟨fun v hv => ?_, ?_⟩
    · obtain ⟨d, hd, as, r⟩ := e.left v hv
      exact ⟨_, dataKind_some hal hd r⟩
    · have lt1 : H.LtAt prog w A s (dataKind s.heap ds) PyProof.Rows.oneType' := by
        intro E x y a b Q ha hb hq
        obtain ⟨d, as, hd, ra, rfl⟩ := dataKind_inv ha
        obtain ⟨d', bs, hd', rb, rfl⟩ := dataKind_inv hb
        rw [PyProof.Rows.keyLt'_oneType]
        have hdd := hal d hd d' hd'
        have hr := room (d' := d') hd
        obtain ⟨xs, rfl⟩ := ht d hd
        obtain ⟨ys, rfl⟩ := ht d' hd'
        exact one_tup ra rb hdd hr hq
      have lt2 : H.LtAt prog w A s (dataKind s.heap ds) PyProof.Rows.general' := by
        intro E x y a b Q ha hb hq
        obtain ⟨d, as, hd, ra, rfl⟩ := dataKind_inv ha
        obtain ⟨d', bs, hd', rb, rfl⟩ := dataKind_inv hb
        have hdd := hal d hd d' hd'
        have hr := room (d' := d') hd
        have hn : d ≠ .none := by
          obtain ⟨xs, rfl⟩ := ht d hd
          intro z; cases z
        show wpAny (model prog w) A (PyProof.Rows.oneLt' false x y) Q E s
        exact oneLt_alike (fun z => by cases z) ra rb hdd hn hr hq
      obtain ⟨fs, e1, e2⟩ := firsts_any (prog := prog) (w := w) (A := A) e ht
      have hall : (fs.toArray.all fun x => x.isSome) = false := by
        have h1 : fs.all (·.isSome) = (fs.map (·.isSome)).all id := by rw [List.all_map]; rfl
        have h2 : ds.all nonE = (ds.map nonE).all id := by rw [List.all_map]; rfl
        rw [List.all_toArray, h1, e1, ← h2]
        simpa using full
      have kinds : ∀ {kd : PyProof.Rows.SortKind} (E : Value → Shared → Prop) {Q : PyProof.Rows.SortKind → Shared → Prop}, 2 ≤ vs.length → (kd = if (fs.toArray[0]?.bind id).isSome = true then PyProof.Rows.general' else PyProof.Rows.oneType') → Q kd s → wpAny (model prog w) A (PyProof.Rows.keyKind' vs.toArray) Q E s := by
        intro kd E Q h2 hk hq
        rw [kat_kind_eq, List.mapM_toArray, map_eq_pure_bind]
        refine wpAny_bind (wpAny_bind (e2 E (wpAny_pure ?_)))
        rw [hall, if_neg (by decide)]
        by_cases q : (fs.toArray[0]?.bind id).isSome = true
        · rw [if_pos q] at hk
          rw [if_pos q]
          subst hk
          exact wpAny_pure hq
        · rw [if_neg q] at hk
          rw [if_neg q]
          subst hk
          rw [PyProof.Rows.oneTypeOnly'_eq, List.mapM_toArray, map_eq_pure_bind]
          refine wpAny_bind (wpAny_bind (wpAny_bind (kas_mapM (r := Value.type "tuple") _ (fun v hv Q' hq => ?_) (wpAny_pure ?_))))
          · obtain ⟨d, hd, as, r⟩ := e.left v hv
            have lk := looks_reads (M := model prog w) r
            obtain ⟨xs, rfl⟩ := ht d hd
            exact Looks.here lk hq
          · have ha : ((vs.map fun _ => Value.type "tuple").toArray.all fun x => x == Value.type "tuple") = true := by
              simp only [List.all_toArray, List.all_map, List.all_eq_true]
              intro _ _
              rfl
            have h0 : (vs.map fun _ => Value.type "tuple").toArray[0]? = some (Value.type "tuple") := by
              cases vs with
              | nil => simp at h2
              | cons v vs => simp
            rw [h0]
            simp only [ha, if_true]
            exact wpAny_pure (wpAny_pure hq)
      by_cases q : (fs.toArray[0]?.bind id).isSome = true
      · exact ⟨_, lt2, fun h2 E Q hq => kinds E h2 (by rw [if_pos q]) hq⟩
      · exact ⟨_, lt1, fun h2 E Q hq => kinds E h2 (by rw [if_neg q]) hq⟩
end
end Fg
/-! Fg30: dict comprehensions with two clauses. -/
namespace Fg
open PySem PySem.Spec L2
open PyProof.Rows hiding St
abbrev ntb (P : Program) (w : World) (A : Around) (env : Env) (R : Result → Shared → Prop) : Value → Shared → Prop := notedBy (model P w) A env fun e s' => R (.error e) s'
abbrev two0 (ke ve t0 i0 t1 i1 : Expr) (f0 f1 : List Expr) (sc : Scope) (pos : Pos) : Expr := .DictComp ke ve [⟨t0, i0, f0, 0⟩, ⟨t1, i1, f1, 0⟩] sc pos
theorem turn2_out (ke ve t0 i0 t1 i1 : Expr) (f0 f1 : List Expr) (sc : Scope) (pos : Pos) (it acc : Value) (env : Env) :
    compTurn (two0 ke ve t0 i0 t1 i1 f0 f1 sc pos) 0 it acc env = (do
      standAt i0.pos
      match ← pyNext it with
      | none => pure (.done .next)
      | some v =>
        letOwnedTupleGo t0 it v
        assign t0 env v
        let mut ok := true
        for c in f0 do
          if ok then ok ← isTrue c env (eval c env)
        if ok then
          let x ← eval i1 env
          standAt i1.pos
          let x ← foldedSetIterable i1 env x
          let _ ← runOwn (.compStart (two0 ke ve t0 i0 t1 i1 f0 f1 sc pos) 1 (← holding [x] (pyIter x)) acc env) env
        again (.compLoop (two0 ke ve t0 i0 t1 i1 f0 f1 sc pos) 0 it acc env)) := by rfl
theorem turn2_in (ke ve t0 i0 t1 i1 : Expr) (f0 f1 : List Expr) (sc : Scope) (pos : Pos) (it : Value) (D : Addr) (env : Env) :
    compTurn (two0 ke ve t0 i0 t1 i1 f0 f1 sc pos) 1 it (.ref D) env = (do
      standAt i1.pos
      match ← pyNext it with
      | none => pure (.done .next)
      | some v =>
        letOwnedTupleGo t1 it v
        assign t1 env v
        let mut ok := true
        for c in f1 do
          if ok then ok ← isTrue c env (eval c env)
        if ok then
          (do
            let a ← eval ke env
            let b ← holding [a] (eval ve env)
            standAt { ke.pos with endLine := ve.pos.endLine, endCol := ve.pos.endCol }
            holding [a, b] (dictSet D a b))
        again (.compLoop (two0 ke ve t0 i0 t1 i1 f0 f1 sc pos) 1 it (.ref D) env)) := by rfl
abbrev tsts (fs : List Expr) (env : Env) : Sem Bool := forIn fs true fun c r => if r = true then do let ok ← isTrue c env (eval c env); pure (ForInStep.yield ok) else pure (ForInStep.yield r)
section
variable {P : Program} {w : World} {A : Around} {R : Result → Shared → Prop} {ke ve t0 i0 t1 i1 : Expr} {f0 f1 : List Expr} {sc : Scope} {pos : Pos} {it acc : Value} {env : Env}
theorem loop2_out (hs : ∀ x, foldedSetIterable i1 env x = pure x) (I : Nat → Shared → Prop)
    (turn : ∀ n s, I n s → wpAny (model P w) A (pyNext it) (fun r sa => match r with
      | none => R (.ok .next) sa
      | some v => wpAny (model P w) A (letOwnedTupleGo t0 it v) (fun _ sb => wpAny (model P w) A (assign t0 env v) (fun _ sd => wpAny (model P w) A (tsts f0 env) (fun ok se =>
            if ok = true then wpAny (model P w) A (eval i1 env) (fun x sf => wpAny (model P w) A (pyIter x) (fun it1 sg =>
              codeAny (model P w) A (.compStart (two0 ke ve t0 i0 t1 i1 f0 f1 sc pos) 1 it1 acc env) (fun r s' => match r with
                | .ok _ => ∃ m, m < n ∧ I m s'
                | .error _ => False) sg) (ntb P w A env R) sf) (ntb P w A env R) se
            else ∃ m, m < n ∧ I m se) (ntb P w A env R) sd) (ntb P w A env R) sb) (ntb P w A env R) sa) (ntb P w A env R) s)
    (n : Nat) {s : Shared} (h : I n s) : codeAny (model P w) A (.compLoop (two0 ke ve t0 i0 t1 i1 f0 f1 sc pos) 0 it acc env) R s := by
  refine codeAny_loop rfl I (fun n s hI => ?_) n h
  show wpAny _ A ((compTurn (two0 ke ve t0 i0 t1 i1 f0 f1 sc pos) 0 it acc env).onRaise (fun x => do noteFrame x env; theTreesLotGoes x)) _ _ s
  refine wpAny_noted ?_
  rw [turn2_out]
  refine wpAny_bind (wpAny_standAt (wpAny_bind (wpAny_mono (turn n s hI) (fun r sa ha => ?_) fun _ _ z => z)))
  cases r with
  | none => exact wpAny_pure ha
  | some v =>
    refine wpAny_bind (wpAny_mono ha (fun _ sb hb => ?_) fun _ _ z => z)
    refine wpAny_bind (wpAny_mono hb (fun _ sd hd => wpAny_bind (wpAny_mono hd (fun ok se he => ?_) fun _ _ z => z)) fun _ _ z => z)
    cases ok with
    | false => exact wpAny_pure ⟨rfl, he⟩
    | true =>
      refine wpAny_bind (wpAny_mono he (fun x sf hf => ?_) fun _ _ z => z)
      refine wpAny_bind (wpAny_standAt (wpAny_bind (wpAny_of_eq (hs x) (wpAny_bind (wpAny_holding (wpAny_mono hf (fun it1 sg hg => ?_) fun _ _ z => z))))))
      refine wpAny_bind (wpAny_runOwn ?_)
      rw [Around.mark_none]
      refine codeAny_mono hg fun r s' hr => ?_
      cases r with
      | ok f => first | exact wpAny_pure ⟨rfl, hr⟩ | exact wpAny_bind (wpAny_pure (wpAny_pure ⟨rfl, hr⟩))
      | error e => exact hr.elim
theorem loop2_in {D : Addr} (I : Nat → Shared → Prop)
    (turn : ∀ n s, I n s → wpAny (model P w) A (pyNext it) (fun r sa => match r with
      | none => R (.ok .next) sa
      | some v => wpAny (model P w) A (letOwnedTupleGo t1 it v) (fun _ sb => wpAny (model P w) A (assign t1 env v) (fun _ sd => wpAny (model P w) A (tsts f1 env) (fun ok se =>
            if ok = true then wpAny (model P w) A (eval ke env) (fun kv sf => wpAny (model P w) A (eval ve env) (fun vv sg =>
              wpAny (model P w) A (dictSet D kv vv) (fun _ sh => ∃ m, m < n ∧ I m sh) (ntb P w A env R) sg) (ntb P w A env R) sf) (ntb P w A env R) se
            else ∃ m, m < n ∧ I m se) (ntb P w A env R) sd) (ntb P w A env R) sb) (ntb P w A env R) sa) (ntb P w A env R) s)
    (n : Nat) {s : Shared} (h : I n s) : codeAny (model P w) A (.compLoop (two0 ke ve t0 i0 t1 i1 f0 f1 sc pos) 1 it (.ref D) env) R s := by
  refine codeAny_loop rfl I (fun n s hI => ?_) n h
  show wpAny _ A ((compTurn (two0 ke ve t0 i0 t1 i1 f0 f1 sc pos) 1 it (.ref D) env).onRaise (fun x => do noteFrame x env; theTreesLotGoes x)) _ _ s
  refine wpAny_noted ?_
  rw [turn2_in]
  refine wpAny_bind (wpAny_standAt (wpAny_bind (wpAny_mono (turn n s hI) (fun r sa ha => ?_) fun _ _ z => z)))
  cases r with
  | none => exact wpAny_pure ha
  | some v =>
    refine wpAny_bind (wpAny_mono ha (fun _ sb hb => ?_) fun _ _ z => z)
    refine wpAny_bind (wpAny_mono hb (fun _ sd hd => wpAny_bind (wpAny_mono hd (fun ok se he => ?_) fun _ _ z => z)) fun _ _ z => z)
    cases ok with
    | false => exact wpAny_pure ⟨rfl, he⟩
    | true =>
      exact wpAny_bind (wpAny_bind (wpAny_mono he (fun kv sf hf => wpAny_bind (wpAny_holding (wpAny_mono hf (fun vv sg hg => wpAny_bind (wpAny_standAt (wpAny_holding (wpAny_mono hg (fun _ sh hh => wpAny_pure ⟨rfl, hh⟩) fun _ _ z => z)))) fun _ _ z => z))) fun _ _ z => z))
theorem start2_in {s : Shared} (h0 : codeAny (model P w) A (.compLoop (two0 ke ve t0 i0 t1 i1 f0 f1 sc pos) 1 it acc env) R s)
    (h : wpAny (model P w) A (pyIter it) (fun j s' => codeAny (model P w) A (.compLoop (two0 ke ve t0 i0 t1 i1 f0 f1 sc pos) 1 j acc env) R s') (ntb P w A env R) s) : codeAny (model P w) A (.compStart (two0 ke ve t0 i0 t1 i1 f0 f1 sc pos) 1 it acc env) R s := by
  refine codeAny_of_tree ?_
  show wpAny _ A ((compStart (two0 ke ve t0 i0 t1 i1 f0 f1 sc pos) 1 it acc env).onRaise (fun x => do noteFrame x env; standAt theWindowsPlace)) _ _ s
  refine wpAny_notedAt ?_
  unfold compStart
  show wpAny _ A (ask >>= _) _ _ s
  refine wpAny_bind (wpAny_askSetting (wpAny_ite ?_))
  split
  · first | exact wpAny_bind (wpAny_pure (wpAny_pure (And.intro rfl h0))) | exact wpAny_pure (And.intro rfl h0)
  · first
      | exact wpAny_bind (wpAny_rule (wpAny_bind (wpAny_standAt (wpAny_bind (wpAny_mono h (fun j s' z => wpAny_pure (And.intro rfl z)) fun _ _ x => x)))))
      | (refine wpAny_bind (wpAny_rule ?_); show wpAny _ _ (standAt i1.pos >>= _) _ _ s; exact wpAny_bind (wpAny_standAt (wpAny_bind (wpAny_mono h (fun j s' z => wpAny_pure (And.intro rfl z)) fun _ _ x => x))))
end
def tDc2 (wi : TI) (g : TG) (tt : TT) (wi1 : TI) (g1 : TG) (tt1 : TT) (tk tv : TE) (ts : TStore) (vs vs1 : List Nat) : TE := fun σ H Q => wi σ H fun J H1 => ∀ D, H1 D = none → (D == sysModules) = false → ∃ W : Nat → Nat → Hp → Prop, (∃ m, W 0 m (upd H1 D (rawO D dct0))) ∧ ∀ i m G, W i m G →
  (J.stop i G ∧ Q (.ref D) G) ∨ (J.go i G ∧ ∃ Nx : Hp → Prop, (∀ G', Nx G' → ∃ m', m' < m ∧ W (i + 1) m' G') ∧ ∀ x G', J.yld i G x G' → g x (wipe σ vs) G' fun σ2 G2 => wipe σ2 vs = wipe σ vs ∧ tt σ2 G2 fun b G3 =>
    if b = true then wi1 σ2 G3 fun J1 G4 => ∃ W1 : Nat → Nat → Hp → Prop, (∃ m, W1 0 m G4) ∧ ∀ j k G, W1 j k G →
      (J1.stop j G ∧ Nx G) ∨ (J1.go j G ∧ ∃ Nx1 : Hp → Prop, (∀ G', Nx1 G' → ∃ k', k' < k ∧ W1 (j + 1) k' G') ∧ ∀ x G', J1.yld j G x G' → g1 x (wipe σ2 vs1) G' fun σ3 G5 => wipe σ3 vs1 = wipe σ2 vs1 ∧ tt1 σ3 G5 fun b G6 =>
        if b = true then tk σ3 G6 fun y G7 => tv σ3 G7 fun z G8 => ts D y z G8 Nx1 else Nx1 G6)
    else Nx G3)
section
variable {X : Cx}
theorem dc2_core {pins : List (Addr × Obj)} {s : Shared} {σ : St} {H : Hp} {Q : VK} {ke ve tg iter tg1 iter1 : Expr} {ifs ifs1 : List Expr} {scope : Scope} {ownN : List (Str × Nat)} {pos pos' : Pos} {vs1 : List Nat} {wi wi1 : TI} {g g1 : TG} {tt tt1 : TT} {tk tv : TE} {ts : TStore} {use : Option (Value → Sem Unit)} {Qf : Value → Shared → Prop}
    (hc : X.calm = true) (hN : X.N.Nodup) (I : Inv X pins σ H s) (hi : PI X tg iter wi) (ok : BlkOk X.N X.env.scope scope ownN) (hv : ∀ i ∈ vs1, i ∈ ownN.map (·.2))
    (hg : ∀ (s : Shared) (H : Hp) (C : Addr) (cl : List (Str × Addr)) (fp : List Addr), PG (X.blk s H scope (compEnvC scope cl C X.env) fp) tg g) (ht : ∀ (s : Shared) (H : Hp) (C : Addr) (cl : List (Str × Addr)) (fp : List Addr), PTs (X.blk s H scope (compEnvC scope cl C X.env) fp) ifs tt)
    (hk : ∀ (s : Shared) (H : Hp) (C : Addr) (cl : List (Str × Addr)) (fp : List Addr), PE (X.blk s H scope (compEnvC scope cl C X.env) fp) ke tk)
    (he : ∀ (s : Shared) (H : Hp) (C : Addr) (cl : List (Str × Addr)) (fp : List Addr), PE (X.blk s H scope (compEnvC scope cl C X.env) fp) ve tv) (hst : ∀ (s : Shared) (H : Hp) (C : Addr) (cl : List (Str × Addr)) (fp : List Addr), PStore (X.blk s H scope (compEnvC scope cl C X.env) fp) ts) (hs : ∀ x, foldedSetIterable iter X.env x = pure x)
    (hi1 : ∀ (s : Shared) (H : Hp) (C : Addr) (cl : List (Str × Addr)) (fp : List Addr), PI (X.blk s H scope (compEnvC scope cl C X.env) fp) tg1 iter1 wi1) (hg1 : ∀ (s : Shared) (H : Hp) (C : Addr) (cl : List (Str × Addr)) (fp : List Addr), PG (X.blk s H scope (compEnvC scope cl C X.env) fp) tg1 g1) (ht1 : ∀ (s : Shared) (H : Hp) (C : Addr) (cl : List (Str × Addr)) (fp : List Addr), PTs (X.blk s H scope (compEnvC scope cl C X.env) fp) ifs1 tt1)
    (hs1 : ∀ env x, foldedSetIterable iter1 env x = pure x) (h : tDc2 wi g tt wi1 g1 tt1 tk tv ts (ownN.map (·.2)) vs1 σ H Q)
    (hend : ∀ D C s' m H', Inv X pins σ H' s' → Q (.ref D) H' → s'.heap.Ns C m → FpOk X pins H' C → compPost (model X.prog X.w) X.A X.xe use Qf (.ref D) C (.ok .next) s') :
    wpAny (model X.prog X.w) X.A (comprehension (two0 ke ve tg iter tg1 iter1 ifs ifs1 scope pos) scope X.env pos' newDict false (eval iter X.env) use) Qf X.xe s := by
  have hfr : ∀ y ∈ scope.names, y.2 = .free → ∃ c, X.env.cells.lookup y.1 = some c := fun y hy e => by
    rcases ok.free y hy e with k | k
    · exact I.ok.has _ (.inl k)
    · exact I.ok.has _ (.inr k)
  refine wpAny_comprehension_free (use := use) rfl hs (closure_ok hfr) ok.kind (fun y hy e => by rw [ok.uniq y hy, e])
    (thn (hi.run pins s σ H _ I h) fun xv st1 hx => thn hx fun itv st2 h2 => ?_)
  obtain ⟨it, fp, tn, J, G2, e, J2, T, tst2, fp2, q⟩ := h2
  subst e
  refine wpAny_newObj_type (newEnv_comp ?_)
  generalize eD : st2.heap.objs.size = D
  have nD : G2 D = none := J2.hok.fresh (Nat.le_of_eq eD)
  obtain ⟨W, ⟨m0, w0⟩, trn⟩ := q D nD (sys_no J2 (Nat.le_of_eq eD))
  -- the new list
  generalize es3 : ({ st2 with heap := st2.heap.push { cls := .type "dict", data := .dict #[] } } : Shared) = st3
  have J3 : Inv X pins σ (upd G2 D (rawO D dct0)) st3 := by
    rw [← es3]
    refine J2.laid (t' := st2.toks) (fun b o e => Heap.get?_push_of_some _ e) (Nat.le_of_eq eD) ?_
    rw [← eD]
    exact raw_empty st2.heap
  have eq3 : st3.heap = st2.heap.push { cls := .type "dict", data := .dict #[] } := by rw [← es3]
  have below : ∀ b ∈ fp, b < st2.heap.objs.size := fun b hb => by
    obtain ⟨o, e, _⟩ := T.obj _ _ tst2 b hb
    exact Heap.lt_size e
  have fp3 : ∀ b ∈ fp, FpOk X pins (upd G2 D (rawO D dct0)) b ∧ b < st3.heap.objs.size := fun b hb => by
    have hlt := below b hb
    refine ⟨⟨?_, (fp2 b hb).2⟩, by rw [eq3, Heap.size_push]; exact Nat.lt_succ_of_lt hlt⟩
    rw [upd_ne (by rw [← eD]; exact Nat.ne_of_lt hlt)]
    exact (fp2 b hb).1
  have tst3 : tn 0 st3.heap := T.keep _ _ _ tst2 fun b _ o e => by rw [eq3]; exact Heap.get?_push_of_some _ e
  have J4 := block_start J3 ok hN fp3
  have pgD := hg st3 (upd G2 D (rawO D dct0)) st3.heap.objs.size (cellsFrom (st3.heap.objs.size + 1) scope.names (cloFrom X.env.cells scope.names [])) fp
  have ptD := ht st3 (upd G2 D (rawO D dct0)) st3.heap.objs.size (cellsFrom (st3.heap.objs.size + 1) scope.names (cloFrom X.env.cells scope.names [])) fp
  have pkD := hk st3 (upd G2 D (rawO D dct0)) st3.heap.objs.size (cellsFrom (st3.heap.objs.size + 1) scope.names (cloFrom X.env.cells scope.names [])) fp
  have pst := hst st3 (upd G2 D (rawO D dct0)) st3.heap.objs.size (cellsFrom (st3.heap.objs.size + 1) scope.names (cloFrom X.env.cells scope.names [])) fp
  have pi1 := hi1 st3 (upd G2 D (rawO D dct0)) st3.heap.objs.size (cellsFrom (st3.heap.objs.size + 1) scope.names (cloFrom X.env.cells scope.names [])) fp
  have pg1 := hg1 st3 (upd G2 D (rawO D dct0)) st3.heap.objs.size (cellsFrom (st3.heap.objs.size + 1) scope.names (cloFrom X.env.cells scope.names [])) fp
  have pt1 := ht1 st3 (upd G2 D (rawO D dct0)) st3.heap.objs.size (cellsFrom (st3.heap.objs.size + 1) scope.names (cloFrom X.env.cells scope.names [])) fp
  have pe := he st3 (upd G2 D (rawO D dct0)) st3.heap.objs.size (cellsFrom (st3.heap.objs.size + 1) scope.names (cloFrom X.env.cells scope.names [])) fp
  show codeAny _ _ (.compStart (two0 ke ve tg iter tg1 iter1 ifs ifs1 scope pos) 0 (.ref it) (.ref D) (compEnvC scope (cellsFrom (st3.heap.objs.size + 1) scope.names (cloFrom X.env.cells scope.names [])) st3.heap.objs.size X.env)) (compPost (model X.prog X.w) X.A X.xe use Qf (.ref D) st3.heap.objs.size) { st3 with heap := pushCells (st3.heap.push { cls := .type "dict", data := .dict #[] }) scope.names }
  have nofp : ∀ b ∈ fp, (upd G2 D (rawO D dct0)) b = none := fun b hb => (fp3 b hb).1.1
  generalize ece : compEnvC scope (cellsFrom (st3.heap.objs.size + 1) scope.names (cloFrom X.env.cells scope.names [])) st3.heap.objs.size X.env = ce at J4 pgD ptD pkD pe pst pi1 pg1 pt1 ⊢
  have eloc : ce.locals = st3.heap.objs.size := by subst ece; rfl
  generalize eG3 : upd G2 D (rawO D dct0) = G3 at J3 J4 pgD ptD pkD pe pst pi1 pg1 pt1 w0 nofp fp3
  generalize es4 : ({ st3 with heap := pushCells (st3.heap.push { cls := .type "dict", data := .dict #[] }) scope.names } : Shared) = st4 at J4 ⊢
  have tst4 : tn 0 st4.heap := T.keep _ _ _ tst3 fun b _ o e => by rw [← es4]; exact pushCells_keeps _ _ _ _ (Heap.get?_push_of_some _ e)
  have stays : ∀ {σ' : St} {H' : Hp} {s' : Shared}, Inv (X.blk st3 G3 scope ce fp) [] σ' H' s' → (∀ b ∈ fp, H' b = none) → ∀ b ∈ fp, FpOk (X.blk st3 G3 scope ce fp) [] H' b := fun {σ' H' s'} I' hns b hb =>
    ⟨hns b hb, (I'.ok.exf b hb).1, I'.ok.exfs b hb, .inl hb, fun x c e => (I'.ok.exf b hb).2 x c e, fun p hp => absurd (show p ∈ ([] : List (Addr × Obj)) ++ [] from hp) (by simp)⟩
  have lp : codeAny (model X.prog X.w) X.A (.compLoop (two0 ke ve tg iter tg1 iter1 ifs ifs1 scope pos) 0 (.ref it) (.ref D) ce) (compPost (model X.prog X.w) X.A X.xe use Qf (.ref D) st3.heap.objs.size) st4 := by
    refine loop2_out (hs1 ce) (fun n s' => ∃ i H', Inv (X.blk st3 G3 scope ce fp) [] (wipe σ (ownN.map (·.2))) H' s' ∧ tn i s'.heap ∧ (∀ b ∈ fp, H' b = none) ∧ W i n H') ?_ m0 ⟨0, G3, J4, tst4, nofp, w0⟩
    rintro n st5 ⟨i, G5, J5, tst5, no5, wv5⟩
    rcases trn i n G5 wv5 with ⟨stp, qD⟩ | ⟨goes, Nx, hNxt, stepD⟩
    · have tdn := T.done (X.blk st3 G3 scope ce fp) rfl rfl rfl hc i [] st5 _ G5 (fun _ _ => False) J5 (stays J5 no5) tst5 stp
      refine thnF tdn fun r st6 ⟨hr, J6⟩ => ?_
      subst hr
      -- back in the def's context
      have J7 : Inv X pins σ G5 st6 := J3.call' (ch := fp) J6.os J6.base J6.hok J6.bare fun b hb => ⟨(fp3 b hb).1.2.2.2.1, (fp3 b hb).1.2.1, (fp3 b hb).1.2.2.2.2.1, (fp3 b hb).1.2.2.2.2.2⟩
      have noC : G5 st3.heap.objs.size = none := by
        have z : G5 ce.locals = none := J6.free
        rw [eloc] at z
        exact z
      obtain ⟨m, hns, _⟩ := J6.loc
      have hns : st6.heap.Ns ce.locals m := hns
      rw [eloc] at hns
      exact hend D st3.heap.objs.size st6 m G5 J7 qD hns (J3.fpOk (Nat.le_refl _) noC)
    · have tit := T.item (X.blk st3 G3 scope ce fp) rfl rfl rfl hc i [] st5 _ G5 (fun _ _ => False) J5 (stays J5 no5) tst5 goes
      refine thnF tit fun r st6 ⟨u, hr, h6⟩ => ?_
      subst hr
      refine thnF h6 fun _ st7 ⟨x, G7, J7, rv7, yl7, tst7, no7⟩ => ?_
      have J7' := J7.pinned (stays J7 no7) (T.obj _ _ tst7)
      refine thnF (pgD.run _ st7 _ G7 x u _ J7' rv7 (stepD x G7 yl7)) fun _ st8 ⟨σ8, G8, J8, ew8, k8⟩ => ?_
      refine thnF (ptD.run _ st8 σ8 G8 _ J8 k8) fun b st9 ⟨G9, J9, k9⟩ => ?_
      -- a turn ends, from any slots that know what the block knew when it began
      have finD : ∀ {σ9 : St} {s' : Shared} {H' : Hp}, Inv (X.blk st3 G3 scope ce fp) ([] ++ pinsAt fp st7.heap) σ9 H' s' → (wipe σ (ownN.map (·.2))).length = σ9.length → (∀ (j : Nat) v, (wipe σ (ownN.map (·.2)))[j]? = some (some v) → σ9[j]? = some (some v)) → Nx H' → ∃ m, m < n ∧ ∃ i H', Inv (X.blk st3 G3 scope ce fp) [] (wipe σ (ownN.map (·.2))) H' s' ∧ tn i s'.heap ∧ (∀ b ∈ fp, H' b = none) ∧ W i m H' := fun {σ9 s' H'} I' hl hk nx => by
        obtain ⟨m', hm, w'⟩ := hNxt H' nx
        have pinD : ∀ b ∈ fp, ∀ o, st7.heap.get? b = some o → s'.heap.get? b = some o ∧ H' b = none := fun b hb o e =>
          let z := I'.pin (b, o) (List.mem_append_right _ (List.mem_append_right _ (mem_pinsAt hb e)))
          ⟨z.1, z.2.1⟩
        refine ⟨m', hm, i + 1, H', (I'.unpinned (pins := [])).weak hl hk, T.keep _ _ _ tst7 fun b hb o e => (pinD b hb o e).1, fun b hb => ?_, w'⟩
        obtain ⟨o, e, _⟩ := T.obj _ _ tst7 b hb
        exact (pinD b hb o e).2
      have len8 : (wipe σ (ownN.map (·.2))).length = σ8.length := by rw [← ew8, wipe_length]
      have kno8 : ∀ (j : Nat) v, (wipe σ (ownN.map (·.2)))[j]? = some (some v) → σ8[j]? = some (some v) := fun j v e => by
        rw [← ew8] at e
        exact (wipe_some e).1
      have kno9 : ∀ (j : Nat) v, (wipe σ (ownN.map (·.2)))[j]? = some (some v) → (wipe σ8 vs1)[j]? = some (some v) := fun j v e => by
        rw [← ew8] at e
        obtain ⟨e1, e2⟩ := wipe_some e
        rw [wipe_out fun z => e2 (hv j z)]
        exact e1
      cases b with
      | false =>
        simp only [Bool.false_eq_true, if_false] at k9 ⊢
        exact finD J9 len8 kno8 k9
      | true =>
        simp only [if_true] at k9 ⊢
        refine thnF (pi1.run _ st9 σ8 G9 _ J9 k9) fun xv st10 hx => thnF hx fun itv st11 h11 => ?_
        obtain ⟨it1, fp1, tn1, J1, G11, e1, J11, T1, tst11, fpb, W1, ⟨m1, w1⟩, trn1⟩ := h11
        subst e1
        have stays1 : ∀ {H' : Hp}, (∀ b ∈ fp1, H' b = none) → ∀ b ∈ fp1, FpOk (X.blk st3 G3 scope ce fp) ([] ++ pinsAt fp st7.heap) H' b := fun hn b hb => ⟨hn b hb, (fpb b hb).2⟩
        have lp1 : codeAny (model X.prog X.w) X.A (.compLoop (two0 ke ve tg iter tg1 iter1 ifs ifs1 scope pos) 1 (.ref it1) (.ref D) ce)
            (fun r s' => match r with
              | .ok _ => ∃ m, m < n ∧ ∃ i H', Inv (X.blk st3 G3 scope ce fp) [] (wipe σ (ownN.map (·.2))) H' s' ∧ tn i s'.heap ∧ (∀ b ∈ fp, H' b = none) ∧ W i m H'
              | .error _ => False) st11 := by
          refine loop2_in (fun k s' => ∃ j H', Inv (X.blk st3 G3 scope ce fp) ([] ++ pinsAt fp st7.heap) (wipe σ8 vs1) H' s' ∧ tn1 j s'.heap ∧ (∀ b ∈ fp1, H' b = none) ∧ W1 j k H') ?_ m1 ⟨0, G11, J11.weak (wipe_length _ _) (fun j v e => (wipe_some e).1), tst11, fun b hb => (fpb b hb).1, w1⟩
          rintro k st12 ⟨j, G12, J12, tst12, no12, wv12⟩
          rcases trn1 j k G12 wv12 with ⟨stp1, nxt1⟩ | ⟨goes1, Nx1, hNxt1, stepE⟩
          · refine thnF (T1.done (X.blk st3 G3 scope ce fp) rfl rfl rfl hc j _ st12 (wipe σ8 vs1) G12 (fun _ _ => False) J12 (stays1 no12) tst12 stp1) fun r st13 ⟨hr, J13⟩ => ?_
            subst hr
            exact finD J13 (len8.trans (wipe_length σ8 vs1).symm) kno9 nxt1
          · refine thnF (T1.item (X.blk st3 G3 scope ce fp) rfl rfl rfl hc j _ st12 (wipe σ8 vs1) G12 (fun _ _ => False) J12 (stays1 no12) tst12 goes1) fun r st13 ⟨u1, hr, h13⟩ => ?_
            subst hr
            refine thnF h13 fun _ st14 ⟨x1, G14, J14, rv14, yl14, tst14, no14⟩ => ?_
            have J14' := J14.pinned (stays1 no14) (T1.obj _ _ tst14)
            refine thnF (pg1.run _ st14 (wipe σ8 vs1) G14 x1 u1 _ J14' rv14 (stepE x1 G14 yl14)) fun _ st15 ⟨σ15, G15, J15, ew15, k15⟩ => ?_
            refine thnF (pt1.run _ st15 σ15 G15 _ J15 k15) fun b1 st16 ⟨G16, J16, k16⟩ => ?_
            have finE : ∀ {s' : Shared} {H' : Hp}, Inv (X.blk st3 G3 scope ce fp) (([] ++ pinsAt fp st7.heap) ++ pinsAt fp1 st14.heap) σ15 H' s' → Nx1 H' → ∃ m, m < k ∧ ∃ j H', Inv (X.blk st3 G3 scope ce fp) ([] ++ pinsAt fp st7.heap) (wipe σ8 vs1) H' s' ∧ tn1 j s'.heap ∧ (∀ b ∈ fp1, H' b = none) ∧ W1 j m H' := fun {s' H'} I' nx => by
              obtain ⟨m', hm, w'⟩ := hNxt1 H' nx
              have pinE : ∀ b ∈ fp1, ∀ o, st14.heap.get? b = some o → s'.heap.get? b = some o ∧ H' b = none := fun b hb o e =>
                let z := I'.pin (b, o) (List.mem_append_right _ (List.mem_append_right _ (mem_pinsAt hb e)))
                ⟨z.1, z.2.1⟩
              refine ⟨m', hm, j + 1, H', I'.unpinned.weak (by rw [← ew15, wipe_length]) (fun j v e => by rw [← ew15] at e; exact (wipe_some e).1), T1.keep _ _ _ tst14 fun b hb o e => (pinE b hb o e).1, fun b hb => ?_, w'⟩
              obtain ⟨o, e, _⟩ := T1.obj _ _ tst14 b hb
              exact (pinE b hb o e).2
            cases b1 with
            | false =>
              simp only [Bool.false_eq_true, if_false] at k16 ⊢
              exact finE J16 k16
            | true =>
              simp only [if_true] at k16 ⊢
              refine thnF (pkD.run _ st16 σ15 G16 _ J16 k16) fun z st17 ⟨yke, G17, J17, rv17, k17⟩ => ?_
              refine thnF (pe.run _ st17 σ15 G17 _ J17 k17) fun z2 st18 ⟨yve, G18, J18, rv18, k18⟩ => ?_
              exact thnF (pst.run _ st18 σ15 G18 D yke yve z z2 _ J18 rv17 rv18 k18 (fun _ _ => False)) fun _ st19 ⟨G19, J19, nx⟩ => finE J19 nx
        exact start2_in lp1 (T1.self X.A 0 _ _ _ tst11 lp1)
  exact codeAny_compStart_dict lp (T.self X.A 0 _ _ _ tst4 lp)
/-- as a value -/
theorem pe_dc2 {ke ve tg iter tg1 iter1 : Expr} {ifs ifs1 : List Expr} {scope : Scope} {ownN : List (Str × Nat)} {pos : Pos} {vs1 : List Nat} {wi wi1 : TI} {g g1 : TG} {tt tt1 : TT} {tk tv : TE} {ts : TStore} (hc : X.calm = true) (hN : X.N.Nodup) (hi : PI X tg iter wi) (ok : BlkOk X.N X.env.scope scope ownN) (hv : ∀ i ∈ vs1, i ∈ ownN.map (·.2))
    (hg : ∀ (s : Shared) (H : Hp) (C : Addr) (cl : List (Str × Addr)) (fp : List Addr), PG (X.blk s H scope (compEnvC scope cl C X.env) fp) tg g) (ht : ∀ (s : Shared) (H : Hp) (C : Addr) (cl : List (Str × Addr)) (fp : List Addr), PTs (X.blk s H scope (compEnvC scope cl C X.env) fp) ifs tt)
    (hk : ∀ (s : Shared) (H : Hp) (C : Addr) (cl : List (Str × Addr)) (fp : List Addr), PE (X.blk s H scope (compEnvC scope cl C X.env) fp) ke tk)
    (he : ∀ (s : Shared) (H : Hp) (C : Addr) (cl : List (Str × Addr)) (fp : List Addr), PE (X.blk s H scope (compEnvC scope cl C X.env) fp) ve tv) (hst : ∀ (s : Shared) (H : Hp) (C : Addr) (cl : List (Str × Addr)) (fp : List Addr), PStore (X.blk s H scope (compEnvC scope cl C X.env) fp) ts) 
    (hi1 : ∀ (s : Shared) (H : Hp) (C : Addr) (cl : List (Str × Addr)) (fp : List Addr), PI (X.blk s H scope (compEnvC scope cl C X.env) fp) tg1 iter1 wi1) (hg1 : ∀ (s : Shared) (H : Hp) (C : Addr) (cl : List (Str × Addr)) (fp : List Addr), PG (X.blk s H scope (compEnvC scope cl C X.env) fp) tg1 g1) (ht1 : ∀ (s : Shared) (H : Hp) (C : Addr) (cl : List (Str × Addr)) (fp : List Addr), PTs (X.blk s H scope (compEnvC scope cl C X.env) fp) ifs1 tt1)
    (hs : ∀ x, foldedSetIterable iter X.env x = pure x := by intro _; rfl) (hs1 : ∀ env x, foldedSetIterable iter1 env x = pure x := by intro _ _; rfl) :
    PE X (two0 ke ve tg iter tg1 iter1 ifs ifs1 scope pos) (tDc2 wi g tt wi1 g1 tt1 tk tv ts (ownN.map (·.2)) vs1) := by
  refine ⟨fun pins s σ H Q I h => ?_⟩
  rw [arm_eval_DictComp]
  refine dc2_core hc hN I hi ok hv hg ht hk he hst hs hi1 hg1 ht1 hs1 h fun D C s' m H' I' q hns f => ⟨m, hns, fun h'' sb => ?_⟩
  obtain ⟨f0, f1, fp2, fp3, f4, f5⟩ := f
  exact ⟨.ref D, H', I'.turned (t' := s'.toks) (fun b o hb e => (sb.2 b hb).trans e) f0 f1 fp3 f4 f5, rfl, q⟩
end
end Fg
/-! Fg31: comprehensions with two clauses over data; sorted of any tuples; max(.., default=..). -/
namespace Fg
open PySem PySem.Spec L2
open PyProof.Rows hiding St

def lcI (stay : MM → Prop) (p : Addr) (ρ0 : En) (g : WG) (tt : WB) (te : WE) : List D → List D → MM → (List D → MM → Prop) → Prop
  | [], acc, M, K => stay M ∧ K acc M
  | d :: ds, acc, M, K => stay M ∧ g d ρ0 M (fun ρ1 M1 => tt ρ1 M1 (fun b M2 => if b = true then te ρ1 M2 (fun y M3 => M3 p = some (.lst acc) ∧ acc.length < sizeLine ∧ lcI stay p ρ0 g tt te ds (acc ++ [y]) (up M3 p (.lst (acc ++ [y]))) K) noX else lcI stay p ρ0 g tt te ds acc M2 K) noX) noX
def lc2D (stay : MM → Prop) (p : Addr) (ρ0 : En) (g : WG) (tt : WB) (wi1 : WI) (g1 : WG) (tt1 : WB) (te : WE) (vs1 : List Nat) : List D → List D → MM → (MM → Prop) → Prop
  | [], acc, M, K => stay M ∧ M p = some (.lst acc) ∧ K M
  | d :: ds, acc, M, K => stay M ∧ g d ρ0 M (fun ρ1 M1 => tt ρ1 M1 (fun b M2 => if b = true then wi1 ρ1 M2 (fun ds1 st1 M3 => lcI st1 p (wipeD ρ1 vs1) g1 tt1 te ds1 acc M3 fun acc' M4 => lc2D stay p ρ0 g tt wi1 g1 tt1 te vs1 ds acc' M4 K) noX
      else lc2D stay p ρ0 g tt wi1 g1 tt1 te vs1 ds acc M2 K) noX) noX
def wLc2 (wi : WI) (own : List Nat) (g : WG) (tt : WB) (wi1 : WI) (g1 : WG) (tt1 : WB) (te : WE) (vs1 : List Nat) : WE := fun ρ M Q E => wi ρ M (fun ds stay M1 => ∀ p, M1 p = none → lc2D stay p (wipeD ρ own) g tt wi1 g1 tt1 te vs1 ds [] (up M1 p (.lst [])) fun M2 => Q (.ref p) M2) E
theorem lcI_stay {stay : MM → Prop} {p : Addr} {ρ0 : En} {g : WG} {tt : WB} {te : WE} {ds : List D} {acc : List D} {M : MM} {K : List D → MM → Prop} (h : lcI stay p ρ0 g tt te ds acc M K) : stay M := by
  cases ds with
  | nil => exact h.1
  | cons d ds => exact h.1
theorem lc2D_stay {stay : MM → Prop} {p : Addr} {ρ0 : En} {g : WG} {tt : WB} {wi1 : WI} {g1 : WG} {tt1 : WB} {te : WE} {vs1 : List Nat} {ds : List D} {acc : List D} {M : MM} {K : MM → Prop} (h : lc2D stay p ρ0 g tt wi1 g1 tt1 te vs1 ds acc M K) : stay M := by
  cases ds with
  | nil => exact h.1
  | cons d ds => exact h.1
section
variable {X : Cx} {W : WX}
theorem tLc2_of {wi : WI} {own : List Nat} {g : WG} {tt : WB} {wi1 : WI} {g1 : WG} {tt1 : WB} {te : WE} {vs1 : List Nat} {σ : St} {H : Hp} {Q : VK} (h : upE X W (wLc2 wi own g tt wi1 g1 tt1 te vs1) σ H Q) :
    tLc2 (upI X W wi) (upGR X W0 (ownR own) g) (upB X W0 tt) (upI X W0 wi1) (upGR X W0 (ownR vs1) g1) (upB X W0 tt1) (upE X W0 te) own vs1 σ H Q := by
  obtain ⟨ρ, M, Q0, E0, r, m, t, q, xg⟩ := h
  refine ⟨ρ, M, _, E0, r, m, t, fun ds stay M1 t1 J H1 s1 m1 wk => ?_, xg⟩
  intro p hp
  have z0 := t1 p (m1.fresh hp)
  have sN : Stb H1 (upd H1 p (.lst [])) := Stb.new hp
  refine ⟨fun i k G => i ≤ ds.length ∧ k = ds.length - i ∧ ∃ acc M', RMx X G M' ∧ Stb (upd H1 p (.lst [])) G ∧ lc2D stay p (wipeD ρ own) g tt wi1 g1 tt1 te vs1 (ds.drop i) acc M' fun M2 => Q0 (.ref p) M2,
      ⟨_, Nat.zero_le _, rfl, [], _, m1.new (o := .lst []) hp ⟨[], upd_same, .nil⟩, Stb.refl _, z0⟩, ?_⟩
  rintro i k G ⟨hi, rfl, acc, M', m', s', z'⟩
  have st := lc2D_stay z'
  have sT := sN.trans s'
  obtain ⟨w1, w2⟩ := wk i G M' sT m' st
  by_cases hlt : i < ds.length
  · have hd : ds[i]? = some ds[i] := by simp [hlt]
    obtain ⟨go, yl⟩ := w2 _ hd
    rw [List.drop_eq_getElem_cons hlt] at z'
    refine .inr ⟨go, fun G2 => ∃ acc M2, RMx X G2 M2 ∧ Stb (upd H1 p (.lst [])) G2 ∧ lc2D stay p (wipeD ρ own) g tt wi1 g1 tt1 te vs1 (ds.drop (i + 1)) acc M2 fun M2 => Q0 (.ref p) M2, fun G2 ⟨acc, M2, a2, a3, a4⟩ => ⟨ds.length - (i + 1), by omega, hlt, rfl, acc, M2, a2, a3, a4⟩, fun x G2 hy => ?_⟩
    obtain ⟨s2, m2, rd⟩ := yl x G2 hy
    obtain ⟨_, z'⟩ := z'
    have rw_ : RE X.K G2 (wipeD ρ own) (wipe σ own) := (((r.stb s1).stb sT).stb s2).wipe own
    refine ⟨_, _, M', _, noX, rd, rw_, m2, z', fun ρ3 M3 z3 σ3 G3 s3 r3 m3 hR => ⟨by rw [show wipe σ3 own = wipe (wipe σ own) own from hR, wipe_wipe], ?_⟩, XGo.no⟩
    refine ⟨ρ3, M3, _, noX, r3, m3, z3, fun b M4 z4 G4 s4 m4 => ?_, XGo.no⟩
    have s14 := s'.trans ((s2.trans s3).trans s4)
    cases b with
    | false => exact ⟨acc, M4, m4, s14, z4⟩
    | true =>
      refine ⟨ρ3, M4, _, noX, r3.stb s4, m4, z4, fun ds1 st1 M5 z5 J1 G5 s5 m5 wk1 => ?_, XGo.no⟩
      have s15 := s14.trans s5
      refine ⟨fun j k G => j ≤ ds1.length ∧ k = ds1.length - j ∧ ∃ acc M', RMx X G M' ∧ Stb G5 G ∧ lcI st1 p (wipeD ρ3 vs1) g1 tt1 te (ds1.drop j) acc M' fun acc' M4 => lc2D stay p (wipeD ρ own) g tt wi1 g1 tt1 te vs1 (ds.drop (i + 1)) acc' M4 fun M2 => Q0 (.ref p) M2,
        ⟨_, Nat.zero_le _, rfl, acc, M5, m5, Stb.refl _, z5⟩, ?_⟩
      rintro j k G ⟨hj, rfl, acc, M6, m6, s6, z6⟩
      have sti := lcI_stay z6
      obtain ⟨v1, v2⟩ := wk1 j G M6 s6 m6 sti
      by_cases hjl : j < ds1.length
      · have hd1 : ds1[j]? = some ds1[j] := by simp [hjl]
        obtain ⟨go1, yl1⟩ := v2 _ hd1
        rw [List.drop_eq_getElem_cons hjl] at z6
        refine .inr ⟨go1, fun G2 => ∃ acc M2, RMx X G2 M2 ∧ Stb G5 G2 ∧ lcI st1 p (wipeD ρ3 vs1) g1 tt1 te (ds1.drop (j + 1)) acc M2 fun acc' M4 => lc2D stay p (wipeD ρ own) g tt wi1 g1 tt1 te vs1 (ds.drop (i + 1)) acc' M4 fun M2 => Q0 (.ref p) M2, fun G2 ⟨acc, M2, a2, a3, a4⟩ => ⟨ds1.length - (j + 1), by omega, hjl, rfl, acc, M2, a2, a3, a4⟩, fun x G7 hy => ?_⟩
        obtain ⟨s7, m7, rd7⟩ := yl1 x G7 hy
        obtain ⟨_, z6⟩ := z6
        have rw1 : RE X.K G7 (wipeD ρ3 vs1) (wipe σ3 vs1) := ((((r3.stb s4).stb s5).stb s6).stb s7).wipe vs1
        refine ⟨_, _, M6, _, noX, rd7, rw1, m7, z6, fun ρ8 M8 z8 σ8 G8 s8 r8 m8 hR8 => ⟨by rw [show wipe σ8 vs1 = wipe (wipe σ3 vs1) vs1 from hR8, wipe_wipe], ?_⟩, XGo.no⟩
        refine ⟨ρ8, M8, _, noX, r8, m8, z8, fun b M9 z9 G9 s9 m9 => ?_, XGo.no⟩
        have s59 := s6.trans ((s7.trans s8).trans s9)
        cases b with
        | false => exact ⟨acc, M9, m9, s59, z9⟩
        | true =>
          refine ⟨ρ8, M9, _, noX, r8.stb s9, m9, z9, fun y M10 z10 v G10 s10 rd10 m10 => ?_, XGo.no⟩
          obtain ⟨h1, h2, h5⟩ := z10
          obtain ⟨vs, h3, h4⟩ := m10 p _ h1
          have mu : Mut (G10 p) := by rw [h3]; trivial
          exact ⟨vs, h3, by rw [← h4.length]; exact h2, _, _, m10.mut (o := .lst (acc ++ [y])) mu ⟨vs ++ [v], upd_same, RDs.stb (Stb.mut mu) (h4.append (.cons rd10 .nil))⟩, (s59.trans s10).trans (Stb.mut mu), h5⟩
      · have e : j = ds1.length := by omega
        subst e
        rw [List.drop_length] at z6
        exact .inl ⟨v1 rfl, acc, M6, m6, s15.trans s6, z6.2⟩
  · have e : i = ds.length := by omega
    subst e
    rw [List.drop_length] at z'
    exact .inl ⟨w1 rfl, q _ _ z'.2.2 _ _ (s1.trans sT) (.ref p) m'⟩
end

def dcI (stay : MM → Prop) (p : Addr) (ρ0 : En) (g : WG) (tt : WB) (tk tv : WE) : List D → List (D × D) → MM → (List (D × D) → MM → Prop) → Prop
  | [], acc, M, K => stay M ∧ K acc M
  | d :: ds, acc, M, K => stay M ∧ g d ρ0 M (fun ρ1 M1 => tt ρ1 M1 (fun b M2 => if b = true then tk ρ1 M2 (fun x M3 => tv ρ1 M3 (fun y M4 => ∃ o k, M4 p = some (.dct o acc) ∧ KOk acc x k ∧ acc.length < sizeLine ∧ ∀ o', dcI stay p ρ0 g tt tk tv ds (putKD acc x k y) (up M4 p (.dct o' (putKD acc x k y))) K) noX) noX else dcI stay p ρ0 g tt tk tv ds acc M2 K) noX) noX
def dc2D (stay : MM → Prop) (p : Addr) (ρ0 : En) (g : WG) (tt : WB) (wi1 : WI) (g1 : WG) (tt1 : WB) (tk tv : WE) (vs1 : List Nat) : List D → List (D × D) → MM → (MM → Prop) → Prop
  | [], acc, M, K => stay M ∧ (∃ o, M p = some (.dct o acc)) ∧ K M
  | d :: ds, acc, M, K => stay M ∧ g d ρ0 M (fun ρ1 M1 => tt ρ1 M1 (fun b M2 => if b = true then wi1 ρ1 M2 (fun ds1 st1 M3 => dcI st1 p (wipeD ρ1 vs1) g1 tt1 tk tv ds1 acc M3 fun acc' M4 => dc2D stay p ρ0 g tt wi1 g1 tt1 tk tv vs1 ds acc' M4 K) noX
      else dc2D stay p ρ0 g tt wi1 g1 tt1 tk tv vs1 ds acc M2 K) noX) noX
def wDc2 (wi : WI) (own : List Nat) (g : WG) (tt : WB) (wi1 : WI) (g1 : WG) (tt1 : WB) (tk tv : WE) (vs1 : List Nat) : WE := fun ρ M Q E => wi ρ M (fun ds stay M1 => ∀ p, M1 p = none → dc2D stay p (wipeD ρ own) g tt wi1 g1 tt1 tk tv vs1 ds [] (up M1 p (.dct dct0 [])) fun M2 => Q (.ref p) M2) E
theorem dcI_stay {stay : MM → Prop} {p : Addr} {ρ0 : En} {g : WG} {tt : WB} {tk tv : WE} {ds : List D} {acc : List (D × D)} {M : MM} {K : List (D × D) → MM → Prop} (h : dcI stay p ρ0 g tt tk tv ds acc M K) : stay M := by
  cases ds with
  | nil => exact h.1
  | cons d ds => exact h.1
theorem dc2D_stay {stay : MM → Prop} {p : Addr} {ρ0 : En} {g : WG} {tt : WB} {wi1 : WI} {g1 : WG} {tt1 : WB} {tk tv : WE} {vs1 : List Nat} {ds : List D} {acc : List (D × D)} {M : MM} {K : MM → Prop} (h : dc2D stay p ρ0 g tt wi1 g1 tt1 tk tv vs1 ds acc M K) : stay M := by
  cases ds with
  | nil => exact h.1
  | cons d ds => exact h.1
section
variable {X : Cx} {W : WX}
theorem tDc2_of {wi : WI} {own : List Nat} {g : WG} {tt : WB} {wi1 : WI} {g1 : WG} {tt1 : WB} {tk tv : WE} {vs1 : List Nat} {σ : St} {H : Hp} {Q : VK} (h : upE X W (wDc2 wi own g tt wi1 g1 tt1 tk tv vs1) σ H Q) :
    tDc2 (upI X W wi) (upGR X W0 (ownR own) g) (upB X W0 tt) (upI X W0 wi1) (upGR X W0 (ownR vs1) g1) (upB X W0 tt1) (upE X W0 tk) (upE X W0 tv) (upSt X) own vs1 σ H Q := by
  obtain ⟨ρ, M, Q0, E0, r, m, t, q, xg⟩ := h
  refine ⟨ρ, M, _, E0, r, m, t, fun ds stay M1 t1 J H1 s1 m1 wk => ?_, xg⟩
  intro p hp hsys
  have z0 := t1 p (m1.fresh hp)
  have sN : Stb H1 (upd H1 p (rawO p dct0)) := Stb.new hp
  refine ⟨fun i k G => i ≤ ds.length ∧ k = ds.length - i ∧ ∃ acc M', RMx X G M' ∧ Stb (upd H1 p (rawO p dct0)) G ∧ dc2D stay p (wipeD ρ own) g tt wi1 g1 tt1 tk tv vs1 (ds.drop i) acc M' fun M2 => Q0 (.ref p) M2,
      ⟨_, Nat.zero_le _, rfl, [], _, m1.new (o := .dct dct0 []) hp ⟨[], 0, upd_same, ⟨rfl, rfl, rfl⟩, rfl, hsys, Nat.zero_le _, .inl (fun p h => nomatch h), List.nodup_nil, .nil⟩, Stb.refl _, z0⟩, ?_⟩
  rintro i k G ⟨hi, rfl, acc, M', m', s', z'⟩
  have st := dc2D_stay z'
  have sT := sN.trans s'
  obtain ⟨w1, w2⟩ := wk i G M' sT m' st
  by_cases hlt : i < ds.length
  · have hd : ds[i]? = some ds[i] := by simp [hlt]
    obtain ⟨go, yl⟩ := w2 _ hd
    rw [List.drop_eq_getElem_cons hlt] at z'
    refine .inr ⟨go, fun G2 => ∃ acc M2, RMx X G2 M2 ∧ Stb (upd H1 p (rawO p dct0)) G2 ∧ dc2D stay p (wipeD ρ own) g tt wi1 g1 tt1 tk tv vs1 (ds.drop (i + 1)) acc M2 fun M2 => Q0 (.ref p) M2, fun G2 ⟨acc, M2, a2, a3, a4⟩ => ⟨ds.length - (i + 1), by omega, hlt, rfl, acc, M2, a2, a3, a4⟩, fun x G2 hy => ?_⟩
    obtain ⟨s2, m2, rd⟩ := yl x G2 hy
    obtain ⟨_, z'⟩ := z'
    have rw_ : RE X.K G2 (wipeD ρ own) (wipe σ own) := (((r.stb s1).stb sT).stb s2).wipe own
    refine ⟨_, _, M', _, noX, rd, rw_, m2, z', fun ρ3 M3 z3 σ3 G3 s3 r3 m3 hR => ⟨by rw [show wipe σ3 own = wipe (wipe σ own) own from hR, wipe_wipe], ?_⟩, XGo.no⟩
    refine ⟨ρ3, M3, _, noX, r3, m3, z3, fun b M4 z4 G4 s4 m4 => ?_, XGo.no⟩
    have s14 := s'.trans ((s2.trans s3).trans s4)
    cases b with
    | false => exact ⟨acc, M4, m4, s14, z4⟩
    | true =>
      refine ⟨ρ3, M4, _, noX, r3.stb s4, m4, z4, fun ds1 st1 M5 z5 J1 G5 s5 m5 wk1 => ?_, XGo.no⟩
      have s15 := s14.trans s5
      refine ⟨fun j k G => j ≤ ds1.length ∧ k = ds1.length - j ∧ ∃ acc M', RMx X G M' ∧ Stb G5 G ∧ dcI st1 p (wipeD ρ3 vs1) g1 tt1 tk tv (ds1.drop j) acc M' fun acc' M4 => dc2D stay p (wipeD ρ own) g tt wi1 g1 tt1 tk tv vs1 (ds.drop (i + 1)) acc' M4 fun M2 => Q0 (.ref p) M2,
        ⟨_, Nat.zero_le _, rfl, acc, M5, m5, Stb.refl _, z5⟩, ?_⟩
      rintro j k G ⟨hj, rfl, acc, M6, m6, s6, z6⟩
      have sti := dcI_stay z6
      obtain ⟨v1, v2⟩ := wk1 j G M6 s6 m6 sti
      by_cases hjl : j < ds1.length
      · have hd1 : ds1[j]? = some ds1[j] := by simp [hjl]
        obtain ⟨go1, yl1⟩ := v2 _ hd1
        rw [List.drop_eq_getElem_cons hjl] at z6
        refine .inr ⟨go1, fun G2 => ∃ acc M2, RMx X G2 M2 ∧ Stb G5 G2 ∧ dcI st1 p (wipeD ρ3 vs1) g1 tt1 tk tv (ds1.drop (j + 1)) acc M2 fun acc' M4 => dc2D stay p (wipeD ρ own) g tt wi1 g1 tt1 tk tv vs1 (ds.drop (i + 1)) acc' M4 fun M2 => Q0 (.ref p) M2, fun G2 ⟨acc, M2, a2, a3, a4⟩ => ⟨ds1.length - (j + 1), by omega, hjl, rfl, acc, M2, a2, a3, a4⟩, fun x G7 hy => ?_⟩
        obtain ⟨s7, m7, rd7⟩ := yl1 x G7 hy
        obtain ⟨_, z6⟩ := z6
        have rw1 : RE X.K G7 (wipeD ρ3 vs1) (wipe σ3 vs1) := ((((r3.stb s4).stb s5).stb s6).stb s7).wipe vs1
        refine ⟨_, _, M6, _, noX, rd7, rw1, m7, z6, fun ρ8 M8 z8 σ8 G8 s8 r8 m8 hR8 => ⟨by rw [show wipe σ8 vs1 = wipe (wipe σ3 vs1) vs1 from hR8, wipe_wipe], ?_⟩, XGo.no⟩
        refine ⟨ρ8, M8, _, noX, r8, m8, z8, fun b M9 z9 G9 s9 m9 => ?_, XGo.no⟩
        have s59 := s6.trans ((s7.trans s8).trans s9)
        cases b with
        | false => exact ⟨acc, M9, m9, s59, z9⟩
        | true =>
          refine ⟨ρ8, M9, _, noX, r8.stb s9, m9, z9, fun x10 M10 z10 v10 G10 s10 rd10 m10 => ⟨ρ8, M10, _, noX, (r8.stb s9).stb s10, m10, z10, fun y11 M11 z11 v11 G11 s11 rd11 m11 => ?_, XGo.no⟩, XGo.no⟩
          obtain ⟨o, kk, h1, ok, h2, h5⟩ := z11
          exact ⟨x10, y11, M11, acc, o, kk, rd10.stb s11, rd11, m11, h1, ok, h2, fun o' G' sG mG => ⟨_, _, mG, ((s59.trans s10).trans s11).trans sG, h5 o'⟩⟩
      · have e : j = ds1.length := by omega
        subst e
        rw [List.drop_length] at z6
        exact .inl ⟨v1 rfl, acc, M6, m6, s15.trans s6, z6.2⟩
  · have e : i = ds.length := by omega
    subst e
    rw [List.drop_length] at z'
    exact .inl ⟨w1 rfl, q _ _ z'.2.2 _ _ (s1.trans sT) (.ref p) m'⟩
end

section
variable {U : Ud} {k : Nat} {n : Nm} {elt tg iter tg1 iter1 kx vx : Expr} {es es1 : List Expr} {pos : Pos} {w wk wv : WE} {wi wi1 : WI} {g g1 : WG} {scope : Scope} {tt tt1 : WB}
def two2B (n : Nm) (scope : Scope) (own : List (Str × Nat)) (vs1 : List Nat) (iter iter1 : Expr) : Bool := !n.hot && (blkC n.N n.sc scope own && (!isSet iter && (!isSet iter1 && vs1.all fun i => (own.map (·.2)).contains i)))
theorem two2_ok {own : List (Str × Nat)} {vs1 : List Nat} (h : two2B n scope own vs1 iter iter1 = true) : n.hot = false ∧ blkC n.N n.sc scope own = true ∧ isSet iter = false ∧ isSet iter1 = false ∧ ∀ i ∈ vs1, i ∈ own.map (·.2) := by
  obtain ⟨h1, h⟩ := He.ba h
  obtain ⟨h2, h⟩ := He.ba h
  obtain ⟨h3, h⟩ := He.ba h
  obtain ⟨h4, h5⟩ := He.ba h
  exact ⟨Fg.nb h1, h2, Fg.nb h3, Fg.nb h4, fun i hi => by simpa using List.all_eq_true.mp h5 i hi⟩
theorem m_lc2 (own : List (Str × Nat)) (vs1 : List Nat) (h : two2B n scope own vs1 iter iter1 = true) (hi : JI U k n tg iter wi) (hg : JG U k (n.blk scope) (ownR (own.map (·.2))) tg g) (ht : JTs U k (n.blk scope) es tt)
    (hi1 : JI U k (n.blk scope) tg1 iter1 wi1) (hg1 : JG U k (n.blk scope) (ownR vs1) tg1 g1) (ht1 : JTs U k (n.blk scope) es1 tt1) (he : JE U k (n.blk scope) elt w) :
    JE U k n (.ListComp elt [⟨tg, iter, es, 0⟩, ⟨tg1, iter1, es1, 0⟩] scope pos) (wLc2 wi (own.map (·.2)) g tt wi1 g1 tt1 w vs1) := fun X W g' => by
  obtain ⟨hh, ok, h3, h4, h5⟩ := two2_ok h
  exact (pe_lc2 (g := upGR X W0 (ownR (own.map fun (p : Str × Nat) => p.2)) g) (tt := upB X W0 tt) (g1 := upGR X W0 (ownR vs1) g1) (tt1 := upB X W0 tt1) (te := upE X W0 w) (wi1 := upI X W0 wi1) (g'.calm hh) g'.nm (hi X W g') (by have := blkOk_by ok; rw [← g'.eN, ← g'.eS] at this; exact this) h5
    (fun s H C cl fp => hg _ _ (g'.blk hh s H scope C cl fp)) (fun s H C cl fp => ht _ _ (g'.blk hh s H scope C cl fp)) (fun s H C cl fp => hi1 _ _ (g'.blk hh s H scope C cl fp)) (fun s H C cl fp => hg1 _ _ (g'.blk hh s H scope C cl fp)) (fun s H C cl fp => ht1 _ _ (g'.blk hh s H scope C cl fp)) (fun s H C cl fp => he _ _ (g'.blk hh s H scope C cl fp))
    (fold_no h3) (fun env x => fold_no h4 x)).imp fun σ H Q z => tLc2_of z
theorem m_dc2 (own : List (Str × Nat)) (vs1 : List Nat) (h : two2B n scope own vs1 iter iter1 = true) (hi : JI U k n tg iter wi) (hg : JG U k (n.blk scope) (ownR (own.map (·.2))) tg g) (ht : JTs U k (n.blk scope) es tt)
    (hi1 : JI U k (n.blk scope) tg1 iter1 wi1) (hg1 : JG U k (n.blk scope) (ownR vs1) tg1 g1) (ht1 : JTs U k (n.blk scope) es1 tt1) (hk : JE U k (n.blk scope) kx wk) (hv : JE U k (n.blk scope) vx wv) :
    JE U k n (.DictComp kx vx [⟨tg, iter, es, 0⟩, ⟨tg1, iter1, es1, 0⟩] scope pos) (wDc2 wi (own.map (·.2)) g tt wi1 g1 tt1 wk wv vs1) := fun X W g' => by
  obtain ⟨hh, ok, h3, h4, h5⟩ := two2_ok h
  exact (pe_dc2 (g := upGR X W0 (ownR (own.map fun (p : Str × Nat) => p.2)) g) (tt := upB X W0 tt) (g1 := upGR X W0 (ownR vs1) g1) (tt1 := upB X W0 tt1) (tk := upE X W0 wk) (tv := upE X W0 wv) (ts := upSt X) (wi1 := upI X W0 wi1) (g'.calm hh) g'.nm (hi X W g') (by have := blkOk_by ok; rw [← g'.eN, ← g'.eS] at this; exact this) h5
    (fun s H C cl fp => hg _ _ (g'.blk hh s H scope C cl fp)) (fun s H C cl fp => ht _ _ (g'.blk hh s H scope C cl fp)) (fun s H C cl fp => hk _ _ (g'.blk hh s H scope C cl fp)) (fun s H C cl fp => hv _ _ (g'.blk hh s H scope C cl fp))
    (fun s H C cl fp => st_up (X := X.blk s H scope (compEnvC scope cl C X.env) fp) g'.hu) (fun s H C cl fp => hi1 _ _ (g'.blk hh s H scope C cl fp)) (fun s H C cl fp => hg1 _ _ (g'.blk hh s H scope C cl fp)) (fun s H C cl fp => ht1 _ _ (g'.blk hh s H scope C cl fp))
    (fold_no h3) (fun env x => fold_no h4 x)).imp fun σ H Q z => tDc2_of z
end
end Fg
/-! Fg32: sorted of any tuples; max(.., default=..). -/
namespace Fg
open PySem PySem.Spec L2
open PyProof.Rows hiding St
/-! ### sorted -/
structure SortOkT (ds : List D) : Prop where
  dat : dats ds = true
  al : ∀ d ∈ ds, ∀ e ∈ ds, PySem.W.alike (toP d) (toP e) = true
  one : (∀ d ∈ ds, ∃ l, d = .tup l) ∨ ∀ d ∈ ds, isAt d = true
  dp : deps ds ≤ 50
theorem SortOk.wk {ds : List D} (h : SortOk ds) : SortOkT ds := ⟨h.dat, h.al, h.one.imp (fun o d hd => let ⟨x, r, e⟩ := o d hd; ⟨x :: r, e⟩) id, h.dp⟩
def cSortT : CD := fun xs M Q => ∃ x ds, xs = [x] ∧ lstOf M x = some ds ∧ SortOkT ds ∧ ∀ p, M p = none → Q (.ref p) (up M p (.lst (ds.mergeSort leD)))
section
variable {X : Cx}
theorem cr_cSortT (hu : X.A.units + 64 < cLine) : CallR X (.builtin "sorted") (upC X cSortT) := call_up fun pins s σ H M ds xs us Q Q0 I m rd rv ⟨x, es, e, hn, ok, t⟩ q => by
  subst e
  obtain ⟨v, rfl, h⟩ := rds1 rd
  obtain ⟨a, vs, rfl, h1, h2⟩ := lstOf_sq m h hn
  rw [Vals.ref1 rv]
  obtain ⟨its, rv', hl, hz⟩ := I.list h1
  have hz' : its.length ≤ sizeLine := by rw [← rv'.length]; exact hz
  have ea := each_of h2 rv'
  have al : PySem.W.AllAlike (toPs es) := fun p hp q hq => by
    obtain ⟨d, hd, rfl⟩ := mem_toPs hp
    obtain ⟨e, he, rfl⟩ := mem_toPs hq
    exact ok.al d hd e he
  have er : PySem.W.EachIs (fun u d => ∃ as, PySem.Reads (PySem.W.sortingHeap (PySem.W.copyHeap s.heap its) (s.heap.objs.size + 1) its) u (toP d) as) its es := (PySem.W.each_mem ea).mono fun u d ⟨⟨y, ry, rdy⟩, hd⟩ => by
    obtain ⟨as, q1⟩ := reads_of I rdy (dat_of ok.dat hd) ry
    exact ⟨as, PyProof.Rows.Reads.keeps (fun b o e => PySem.W.sorting_copy_old e) q1⟩
  have eP := PySem.W.each_map (R := fun u d => ∃ as, PySem.Reads (PySem.W.sortingHeap (PySem.W.copyHeap s.heap its) (s.heap.objs.size + 1) its) u d as) toP er
  rw [← toPs_map] at eP
  have room : ∀ p ∈ toPs es, X.A.in1.in1.units + p.depth < cLine := fun p hp => by
    obtain ⟨d, hd, rfl⟩ := mem_toPs hp
    have := dep_of hd
    have := ok.dp
    rw [dep_toP]
    show X.A.units + 1 + 1 + dep d < cLine
    omega
  have SA : PySem.W.SortsAt X.prog X.w X.A.in1.in1 { s with heap := PySem.W.sortingHeap (PySem.W.copyHeap s.heap its) (s.heap.objs.size + 1) its } (PySem.W.dataKind (PySem.W.sortingHeap (PySem.W.copyHeap s.heap its) (s.heap.objs.size + 1) its) (toPs es)) its := by
    rcases ok.one with o | o
    · refine sorts_tups (s := { s with heap := PySem.W.sortingHeap (PySem.W.copyHeap s.heap its) (s.heap.objs.size + 1) its }) eP al (fun p hp => ?_) room
      obtain ⟨d, hd, rfl⟩ := mem_toPs hp
      obtain ⟨l, rfl⟩ := o d hd
      exact ⟨toPs l, by rw [toP]⟩
    · refine PySem.W.SortsAt.data (s := { s with heap := PySem.W.sortingHeap (PySem.W.copyHeap s.heap its) (s.heap.objs.size + 1) its }) eP al (.inr fun p hp => ?_) room
      obtain ⟨d, hd, rfl⟩ := mem_toPs hp
      have := o d hd
      cases d <;> simp [isAt, toP] at this ⊢
  refine PySem.W.sorted_vals hl.isList SA hz' ?_
  have so2 := PySem.W.sortVals_data (enc := toP) (bs := es) false ea er (by rw [← toPs_map]; exact al)
  rw [← toPs_map] at so2
  obtain ⟨vs2, k1, k2⟩ := of_each so2
  obtain ⟨ep, he'⟩ := PyProof.Rows.sortedAll_at s.heap its (PySem.W.sortVals (PySem.W.dataKind (PySem.W.sortingHeap (PySem.W.copyHeap s.heap its) (s.heap.objs.size + 1) its) (toPs es)) false its its).toArray
  have hp := I.hok.fresh (Nat.le_succ s.heap.objs.size)
  have hlen : vs2.length ≤ sizeLine := by
    rw [← k1.length, List.length_mergeSort, h2.length]
    exact hz
  refine ⟨.ref _, upd H (s.heap.objs.size + 1) (.lst vs2), I.laid (t' := s.toks) (fun _ _ => PyProof.Rows.sortedAll_old) (Nat.le_succ _) ⟨hlen, _, ep, k2, he'⟩, rfl, ?_⟩
  exact q _ _ (t _ (m.fresh hp)) _ _ (Stb.new hp) (.ref _) (m.new (o := .lst (es.mergeSort leD)) hp ⟨vs2, upd_same, RDs.stb (Stb.new hp) k1⟩)
/-! ### a built-in function called with keywords -/
abbrev KD := List D → List D → MM → QD → Prop
def upCK (X : Cx) (o : KD) : List V → List V → Hp → VK → Prop := fun xs zs H Q => ∃ ds es M Q0, RDs X.K H ds xs ∧ RDs X.K H es zs ∧ RMx X H M ∧ o ds es M Q0 ∧ ∀ z M', Q0 z M' → ∀ v H', Stb H H' → RD X.K H' z v → RMx X H' M' → Q v H'
def wClK (o : KD) (wa wk : WA) : WE := fun ρ M Q E => wa ρ M (fun ds M1 => wk ρ M1 (fun es M2 => o ds es M2 Q) E) E
theorem ue_clK {W : WX} {x : Str} {id : String} {ks : List Str} {e : Expr} {es : List Expr} {kws : List Keyword} {p pos : Pos} {o : KD} {wa wk : WA} (hc : CallRK X (.builtin id) ks (upCK X o)) (hg : Gl X x) (hm : X.mg x = none) (hv : bootBuiltins x = some (.builtin id)) (ha : PA X (e :: es) (upA X W wa)) (hk : PK X kws (upA X W wk)) (hn : x ≠ "__name__") (hdb : (x == ("__debug__" : Str)) = false)
    (hs : (e :: es).all noStar = true) (hall : (backToKw pos (keywordEach kws X.env)).all (·.1.isSome) = true) (hks : (backToKw pos (keywordEach kws X.env)).filterMap (·.1) = ks) (hpl : (backToKw pos (keywordEach kws X.env)).any (·.1.isNone) = false) :
    PE X (.Call (.Name x p) (e :: es) kws pos) (upE X W (wClK o wa wk)) := by
  have hs1 : noStar e = true := by rw [List.all_cons, Bool.and_eq_true] at hs; exact hs.1
  refine (pe_callBK hc hg hm hv ha hk hn hdb (by rw [star_cons hs1]; rfl) (star_plain hs) hall hpl hks).imp fun σ H Q ⟨ρ, M, Q0, E0, r, m, t, q, xg⟩ => ?_
  exact ⟨ρ, M, _, E0, r, m, t, fun ds M1 t1 ys H1 s1 rd m1 => ⟨ρ, M1, _, E0, r.stb s1, m1, t1, fun zs M2 t2 ys2 H2 s2 rd2 m2 => ⟨ds, zs, M2, Q0, RDs.stb s2 rd, rd2, m2, t2, fun z M' hz v H' s' rv mv => q z M' hz v H' ((s1.trans s2).trans s') rv mv⟩, xg.stb s1⟩, xg⟩
def cMaxD : KD := fun xs zs M Q => ∃ x ns d, xs = [x] ∧ zs = [d] ∧ lstOf M x = some (ns.map D.int) ∧ Q (match ns with | [] => d | n :: r => .int (r.foldl max n)) M
theorem reads_ints {h : Heap} : ∀ {vs : List Value} {ns : List Int}, IntsAre vs ns → ∃ as, PySem.ReadsAll h vs (ns.map PyData.int) as
  | _, _, .nil => ⟨[], .nil⟩
  | _, _, .cons n t r => let ⟨as, q⟩ := reads_ints r; ⟨[] ++ as, .cons (.int n t) q⟩
theorem alike_ints_ (ns : List Int) : PySem.W.AlikeAll (ns.map PyData.int) := by
  refine ⟨fun x hx y hy => ?_, fun x hx => ?_⟩
  · obtain ⟨i, _, rfl⟩ := List.mem_map.mp hx
    obtain ⟨j, _, rfl⟩ := List.mem_map.mp hy
    rfl
  · obtain ⟨i, _, rfl⟩ := List.mem_map.mp hx
    intro z; cases z
theorem depth_ints_ : ∀ ns : List Int, PyData.depthAll (ns.map PyData.int) = 0
  | [] => by simp [PyData.depthAll]
  | n :: ns => by
    rw [List.map_cons, PyData.depthAll, depth_ints_ ns]
    simp [PyData.depth]
theorem rds_ints {K : PySem.W.Frag} {H : Hp} : ∀ {ns : List Int} {vs : List V}, RDs K H (ns.map D.int) vs → vs = ns.map V.int
  | [], _, .nil => rfl
  | n :: ns, _, .cons h t => by
    cases h
    rw [rds_ints t]; rfl
theorem cr_maxD (hc : X.calm = true) (hu : X.A.units + 64 < cLine) : CallRK X (.builtin "max") [Str.ofString "default"] (upCK X cMaxD) := by
  intro pins s σ H xs zs us ws Q I rx rz h
  obtain ⟨ds, es, M, Q0, rd, re, m, ⟨x, ns, d, e1, e2, h1, t⟩, q⟩ := h
  subst e1 e2
  obtain ⟨v, rfl, hx⟩ := rds1 rd
  obtain ⟨y, rfl, hy⟩ := rds1 re
  obtain ⟨a, vs, rfl, h2, h3⟩ := lstOf_sq m hx h1
  rw [Vals.ref1 rx]
  obtain ⟨its, rv, hl, hz⟩ := I.list h2
  have ev := rds_ints h3
  subst ev
  have hi := rv.ints
  obtain ⟨as, hr⟩ := reads_ints (h := s.heap) hi
  cases rz with
  | @cons _ u _ _ r1 rz =>
    cases rz
    show wpAny _ _ (call (.builtin "max") [.ref a] [(Str.ofString "default", u)]) _ _ _
    refine PySem.W.max_list_default (xs := ns.map PyData.int) (I.ok.hd hc) hl.isList (by simpa using hr) (alike_ints_ ns) (by rw [depth_ints_]; show X.A.units + 1 + 0 < cLine; omega) (fun hn h' tk hk => ?_) (fun y0 ys i v h' tk bs ex hv rv' hk => ?_)
    · have : ns = [] := by simpa using hn
      subst this
      exact ⟨y, H, I.kept hk, r1, q _ _ t _ _ (Stb.refl H) hy m⟩
    · cases ns with
      | nil => simp at ex
      | cons n r =>
        rw [List.map_cons, List.cons.injEq] at ex
        obtain ⟨rfl, rfl⟩ := ex
        rw [PySem.W.maxD_ints] at rv'
        cases rv'
        exact ⟨.int _, H, I.kept hk, ⟨_, rfl⟩, q _ _ t _ _ (Stb.refl H) (.int _) m⟩
end
section
variable {U : Ud} {k : Nat} {n : Nm} {e : Expr} {es : List Expr} {pos p : Pos} {x : Str} {ks : List Str} {kws : List Keyword} {wa wk : WA} {id : String} {o : KD}
theorem f_sortT : ∀ X W, Gd U k n X W → CallR X (.builtin "sorted") (upC X cSortT) := fun _ _ g => cr_cSortT g.hu
theorem f_maxD (h : n.hot = false) : ∀ X W, Gd U k n X W → CallRK X (.builtin "max") [Str.ofString "default"] (upCK X cMaxD) := fun _ _ g => cr_maxD (g.calm h) g.hu
def bkB (n : Nm) (x : Str) (v : Value) (es : List Expr) (kws : List Keyword) (ks : List Str) : Bool := bfB n x v es && decide (kws.map (·.1) = ks.map some)
theorem m_blK (hc : ∀ X W, Gd U k n X W → CallRK X (.builtin id) ks (upCK X o)) (f : U.mg x = none) (h : bkB n x (.builtin id) (e :: es) kws ks = true) (ha : JA U k n (e :: es) wa) (hk : JK U k n kws wk) : JE U k n (.Call (.Name x p) (e :: es) kws pos) (wClK o wa wk) := fun X W g => by
  obtain ⟨h, h5⟩ := He.ba h
  obtain ⟨h1, h⟩ := He.ba h
  obtain ⟨h2, h⟩ := He.ba h
  obtain ⟨h3, h4⟩ := He.ba h
  obtain ⟨i1, i2, i3⟩ := kw_all kws ks (of_decide_eq_true h5) pos X.env
  exact ue_clK (hc X W g) (g.gl (of_decide_eq_true (He.ba h1).1)) (by rw [g.eM]; exact f) (of_decide_eq_true h2) (ha X W g) (hk X W g) (of_decide_eq_true h3) (dbg_ok (He.ba h1).2) h4 i1 i2 i3
end
end Fg
/-! Fg33: a, b = e1, e2; pop(i). -/
namespace Fg
open PySem PySem.Spec L2
open PyProof.Rows hiding St
section
variable {U : Ud} {k : Nat} {n : Nm} {a b : Expr} {x y : Str} {px py pt pos pt2 : Pos} {kt k2 : Nat} {wa wb : WE}
def parB (n : Nm) (i j : Nat) (x y : Str) (a b : Expr) : Bool := decide (n.N[i]? = some x) && (decide (n.N[j]? = some y) && (decide (i ≠ j) && (decide (n.sc.names.lookup x = some .local) && (decide (n.sc.names.lookup y = some .local) && (noStar a && (noStar b && !n.hot))))))
theorem m_par (i j : Nat) (h : parB n i j x y a b = true) (hw : ∀ env : PySem.Env, env.scope = n.sc → swappedStores [.Tuple [.Name x px, .Name y py] kt pt] (.Tuple [a, b] k2 pt2) env = pure (some [x, y])) (ha : JE U k n a wa) (hb : JE U k n b wb) :
    JS U k n (.Assign [.Tuple [.Name x px, .Name y py] kt pt] (.Tuple [a, b] k2 pt2) pos) (wPar i j wa wb) := fun X W g => by
  obtain ⟨h1, h⟩ := He.ba h
  obtain ⟨h2, h⟩ := He.ba h
  obtain ⟨h3, h⟩ := He.ba h
  obtain ⟨h4, h⟩ := He.ba h
  obtain ⟨h5, h⟩ := He.ba h
  obtain ⟨h6, h⟩ := He.ba h
  obtain ⟨h7, h8⟩ := He.ba h
  exact us_par (a := a) (b := b) (ps_par (g.calm (nb h8)) g.nm (g.ix (of_decide_eq_true h1)) (g.ix (of_decide_eq_true h2)) (of_decide_eq_true h3) (by rw [g.eS]; exact of_decide_eq_true h4) (by rw [g.eS]; exact of_decide_eq_true h5)
    (pa_cons (ha X W g) (pa_cons (hb X W g) pa_nil (star_cons h7)) (star_cons h6)) (hw X.env g.eS) rfl)
end
section
variable {X : Cx}
def mPopA : MD := fun o xs M Q => ∃ a ds i j d, o = .ref a ∧ xs = [.int i] ∧ M a = some (.lst ds) ∧ -(2 ^ 63) ≤ i ∧ i < 2 ^ 63 ∧ ixN ds.length i = some j ∧ ds[j]? = some d ∧ Q d (up M a (.lst (ds.eraseIdx j)))
theorem RDs.eraseIdx {K : PySem.W.Frag} {H : Hp} : ∀ {ds : List D} {vs : List V}, RDs K H ds vs → ∀ j, RDs K H (ds.eraseIdx j) (vs.eraseIdx j)
  | _, _, .nil, j => .nil
  | _, _, .cons r t, 0 => t
  | _, _, .cons r t, j + 1 => .cons r (RDs.eraseIdx t j)
theorem md_popA : MtR X "list.pop" (upM X mPopA) := fun pins s σ H x xs v us Q I rx rv ⟨d, ds, M, Q0, rd, rds, m, ⟨a, es, i, j, e, e1, e2, h1, g1, g2, hj, h2, t⟩, q⟩ => by
  subst e1 e2
  cases rd
  obtain ⟨y0, rfl, ry0⟩ := rds1 rds
  cases ry0
  obtain ⟨vs, h3, h4⟩ := m a _ h1
  have mu := mut_lst h3
  obtain ⟨y, h5, ry⟩ := h4.get h2
  have s1 : Stb H (upd H a (.lst (vs.eraseIdx j))) := Stb.mut mu
  refine mt_popAt pins s σ H _ _ v us Q I rx rv ⟨a, vs, i, j, y, rfl, rfl, h3, g1, g2, ?_, h5, q _ _ t _ _ s1 (ry.stb s1) (m.mut (o := .lst (es.eraseIdx j)) mu ⟨_, upd_same, RDs.stb s1 (h4.eraseIdx j)⟩)⟩
  rw [← h4.length]
  exact (ixN_seq hj).1
end
end Fg
/-! Fg34: own defs called within an except suite. -/
namespace Fg
open PySem PySem.Spec L2
open PyProof.Rows hiding St
/-- a promise without exceptions -/
def upSpH (K : PySem.W.Frag) (w : World) (sp : SpD) : Sp := fun vs H Q _ => ∃ ds M Q0, RDs K H ds vs ∧ RM K w H M ∧ sp ds M Q0 noX ∧ ∀ d M', Q0 d M' → ∀ y H', Stb H H' → RD K H' d y → RM K w H' M' → Q y H'
def FnHasH (P : Program) (w : World) (K : PySem.W.Frag) (mg : Str → Option Value) (base : Heap) (k : Nat) (x : Str) (sp : SpD) : Prop :=
  ∃ f, mg x = some (.ref f) ∧ ∃ fd ps, L2H.FnH P w K mg base (L2N.CX P w) k f fd ps (upSpH K w sp) ∧ PySem.W.keepIn K (.ref f) = true ∧ Binds K fd ps []
def wCallH (sp : SpD) (wa : WA) : WE := fun ρ M Q E => wa ρ M (fun ds M1 => sp ds M1 Q noX) E
theorem passH {CX : CXT} {X : Cx} {σ : St} (h : ∀ (o : List Env) (H : Hp) (s : Shared) (e : Value) (s' : Shared), ¬ CX o H s (fun _ _ _ => False) e s') : PassesAt CX X σ (fun _ _ _ => False) := fun _ _ _ _ _ _ c => (h _ _ _ _ _ c).elim
section
variable {U : Ud} {k : Nat} {N ps : List Str} {x qual : Str} {params : Arguments} {body : List Stmt} {scope : Scope} {f : Addr} {fd : FuncData} {w : WS}
theorem fn_okH (F : FunD U.K x qual params body scope [] [] f fd) (S : FnScope N ps scope) (h : JSs U k ⟨N, scope, fun _ => true, true, none, true⟩ body w) :
    L2H.FnH U.P U.w U.K U.mg U.base (L2N.CX U.P U.w) (k + 1) f fd ps (upSpH U.K U.w (spW N ps.length w)) := by
  obtain ⟨oc, od, dV, kV, doc, pm, an, cdv, ct, osl, rfl, lk, hcd, _, _⟩ := F.ex
  refine L2H.fn_ofH lk hcd S (fun vs H Q E z => ?_) (fun A outer s H vs Q E p hot hr z => ?_)
  · obtain ⟨ds, M, Q0, rd, m, z, q⟩ := z
    rw [← rd.length]; exact z.1
  · obtain ⟨ds, M, Q0, rd, m, z, q⟩ := z
    refine ⟨_, h (L2H.cxH (L2N.CX U.P U.w) U.P U.w U.K U.mg U.base N qual scope f cdv A outer s H E p) W0 ⟨rfl, rfl, rfl, rfl, rfl, rfl, rfl, S.nd, fun h => (nomatch h), fun h => (nomatch h), Nat.lt_of_le_of_lt (show (A.deeper (envOfC qual scope s.heap.objs.size f cdv)).units + 64 ≤ _ by omega) hr.un, takes0N, fun h => (nomatch h), fun _ _ _ h => (nomatch h), fun _ => ⟨⟨p, hot, List.mem_cons_self ..⟩, hr⟩, fun _ => ⟨rfl, rfl⟩, fun _ _ => rfl⟩, ?_⟩
    exact ⟨_, M, _, _, re_start rd, m, z.2, ⟨fun ρ' M' z σ' H' s' r' m' => q _ M' z _ H' s' .non m', fun d M' z y H' s' rd' m' => q d M' z y H' s' rd' m', fun _ _ z => z.elim, fun _ _ z => z.elim⟩, fun x ρ' M' z cls d σ' H' s' r' x' m' => z.elim⟩
end
section
variable {hd : Hd} {U : Ud}
theorem Fct.fnH (F : Fct hd U) {k : Nat} {N ps : List Str} {w : WS} (i j : Nat) {d : He.DefD} {x : Str} (h : hd.fn[i]? = some d) (ha : d.at_ = (x, none)) (hf : d.dfl = [] ∧ d.kwd = []) (hg : hd.fa[j]? = some (.glo x)) (S : FnScope N ps d.scope)
    (hb : ∀ (kV doc pm : Value) (an : Option Addr) (cdv ct : Value) (us : List Value), us.length = ps.length → bindArgs (PySem.W.fnOf d.name d.qual d.params d.body d.scope .none kV doc pm an cdv ct) ⟨us, []⟩ = pure (ps.zip us))
    (hk : JSs U k ⟨N, d.scope, fun _ => true, true, none, true⟩ d.body w) : FnHasH U.P U.w U.K U.mg U.base (k + 1) x (spW N ps.length w) := by
  obtain ⟨fd, D⟩ := F.says.1.def_ i h
  have e1 : d.dvs U.K = [] := by unfold He.DefD.dvs; rw [hf.1]; rfl
  have e2 : d.kws U.K = [] := by unfold He.DefD.kws; rw [hf.2]; rfl
  rw [e1, e2, ha] at D
  exact ⟨_, F.glo j hg, fd, ps, fn_okH D S hk, D.kp, D.bindsN hb⟩
end
theorem cx_no {P : Program} {w : World} {o : List Env} {H : Hp} {s : Shared} {e : Value} {s' : Shared} : ¬ L2N.CX P w o H s (fun _ _ _ => False) e s' := fun c => by
  obtain ⟨_, _, _, _, _, _, _, _, _, _, _, _, z⟩ := c
  exact z
section
variable {X : Cx} {W : WX} {e : Expr} {es : List Expr} {pos p : Pos} {x : Str} {k : Nat} {sp : SpD} {wa : WA}
theorem ue_callH (hf : FnHasH X.prog X.w X.K X.mg X.base k x sp) (hr : L2H.RoomH k X.A) (hc : L2H.HotC X) (hg : Gl X x) (hdb : (x == ("__debug__" : Str)) = false) (ha : PA X (e :: es) (upA X W wa)) (hs : (e :: es).all noStar = true) :
    PE X (.Call (.Name x p) (e :: es) [] pos) (upE X W (wCallH sp wa)) := by
  obtain ⟨f, hm, fd, ps, F, kp, bd⟩ := hf
  rw [List.all_cons, Bool.and_eq_true] at hs
  refine (L2H.pe_callH (E := fun _ _ _ _ => False) F hr hc hg hm kp bd (fun σ => passH fun _ _ _ _ _ => cx_no) ha hdb (star_cons hs.1) (star_plain hs.2)).imp fun σ H Q ⟨ρ, M, Q0, E0, r, m, t, q, xg⟩ => ?_
  exact ⟨ρ, M, _, E0, r, m, t, fun ds M1 t1 ys H1 s1 rd m1 => ⟨ds, M1, Q0, rd, m1, t1, fun d M' qd y H' s' => q d M' qd y H' (s1.trans s')⟩, xg⟩
end
section
variable {U : Ud} {k : Nat} {n : Nm} {e : Expr} {es : List Expr} {pos p : Pos} {x : Str} {ws : WA} {st : Stmt}
def caH (n : Nm) (x : Str) (es : List Expr) : Bool := gB n x && es.all noStar
theorem m_callH {sp : SpD} {j : Nat} (f : FnHasH U.P U.w U.K U.mg U.base j x sp) (hh : n.hot = true) (hj : j ≤ k) (h : caH n x (e :: es) = true) (ha : JA U k n (e :: es) ws) : JE U k n (.Call (.Name x p) (e :: es) [] pos) (wCallH sp ws) := fun X W g => by
  obtain ⟨h1, h2⟩ := He.ba h
  refine ue_callH (k := j) ?_ ((g.hotc hh).2.mono hj) (g.hotc hh).1 (g.gl (of_decide_eq_true (He.ba h1).1)) (dbg_ok (He.ba h1).2) (ha X W g) h2
  rw [g.eP, g.eW, g.eK, g.eM, g.eB]; exact f
/-- a statement that is never met -/
def wNo : WS := fun _ _ _ _ => False
theorem s_no : JS U k n st wNo := fun X W g => ⟨fun pins s σ H B I ⟨_, _, _, _, _, _, z, _⟩ => z.elim⟩
end
end Fg
/-! Fg35: min of a list of texts within an except suite. -/
namespace Fg
open PySem PySem.Spec L2 HotX
open PyProof.Rows hiding St
section
variable {prog : Program} {w : World} {A : Around} {E : Value → Shared → Prop} {s : Shared}
theorem hot_keeps {A : Around} {x1 : Addr} {h h' : Heap} (c : HotAt A x1 h) (k : ∀ o, h.get? x1 = some o → h'.get? x1 = some o) : HotAt A x1 h' := by
  obtain ⟨hh, o, vs, h1, d1, c1⟩ := c
  exact ⟨hh, o, vs, k _ h1, d1, c1⟩
theorem lend_hot {it l x1 : Addr} {i : Nat} {items : Array Value} {Q : Option Value → Shared → Prop} (hot : HotAt A x1 s.heap) (hne : x1 ≠ it) (hit : s.heap.IsListIter it l i) (hl : s.heap.IsList l items) (hx : items[i]? = none)
    (hQ : ∀ h', (∀ b o, b ≠ it → s.heap.get? b = some o → h'.get? b = some o) → Q none { s with heap := h' }) : wpAny (model prog w) A (pyNext (.ref it)) Q E s := by
  obtain ⟨o, ho, hc, hd⟩ := id hit
  obtain ⟨ol, hol, _, nl, hdl⟩ := hl
  obtain ⟨hh, o1, vs1, h1, d1, c1⟩ := hot
  unfold pyNext
  refine wpAny_bind (wpAny_attempt (wpAny_callSpecial?_slot (name := Str.ofString "__next__") hit.typeIs slot_listiter_next (wpAny_call_entry slot_listiter_next hit.typeIs entry_listiter_next (show wpAny _ _ (field (.ref it) 0 >>= _) _ _ s from ?_) (args_listiter_next _))))
  refine wpAny_bind (wpAny_field ho hd (x := .ref l) rfl (show wpAny _ _ (if (Value.ref l == Value.none) = true then _ else _) _ _ s from ?_))
  rw [if_neg (show ¬ ((Value.ref l == Value.none) = true) from Bool.false_ne_true)]
  refine (show wpAny _ _ (field (.ref it) 1 >>= _) _ _ s from wpAny_bind (wpAny_field ho hd (x := .int i 0) rfl (show wpAny _ _ (seqItems? (.ref l) >>= _) _ _ s from wpAny_bind (wpAny_seqItems hol hdl ?_))))
  simp only [Int.toNat_natCast, hx]
  refine wpAny_bind (wpAny_rule (wpAny_bind (wpAny_setField ho hd (by simp) (show wpAny _ _ (newExc (.type "StopIteration") [] >>= _) _ _ _ from wpAny_bind ?_))))
  simp only [newExc, newTuple]
  refine wpAny_bind (wpAny_newObj_type (wpAny_bind (m := firstArgMember _ _) (wpAny_of_eq (a := Value.none) (by first | rfl | (simp only [firstArgMember]; rfl)) (wpAny_newObj_type ?_ (by size_fits))) ) (by size_fits))
  have k1 : ∀ b o, b ≠ it → s.heap.get? b = some o → (s.heap.update it (Obj.mapFields (·.setIfInBounds 0 .none))).get? b = some o := fun b o hb e => by rw [Heap.get?_update_other _ _ (Ne.symm hb)]; exact e
  refine raiseNew_hot ⟨hh, o1, vs1, Heap.get?_push_of_some _ (Heap.get?_push_of_some _ (k1 _ _ hne h1)), d1, c1⟩ (Nat.ne_of_lt (Heap.lt_size (Heap.get?_push_of_some _ (k1 _ _ hne h1)))) (Heap.get?_push_size _ rfl) rfl (by first | (simp; done) | (simp; omega) | (simp only [Array.size_append]; simp; omega)) ?_
  refine wpAny_bind (wpAny_isInstance (T := "StopIteration") (b := true) ⟨_, Heap.get?_update_self _ (Heap.get?_push_size _ rfl) rfl, rfl⟩ isSubtype_stop ?_)
  refine wpAny_pure (hQ _ fun b o hb e => ?_)
  have e1 := k1 b o hb e
  rw [Heap.get?_update_other _ _ (Nat.ne_of_gt (Heap.lt_size (Heap.get?_push_of_some _ e1)))]
  exact Heap.get?_push_of_some _ (Heap.get?_push_of_some _ e1)
theorem walks_hot {I ax x1 : Addr} (hne : ax ≠ I) (hx1 : x1 ≠ I) (items : Array Value) : WalksS prog w A I [I, ax, x1] [I] (fun a b => b = a) items.size (fun i v => items[i]? = some v) (fun i s' => s'.heap.IsListIter I ax i ∧ s'.heap.IsList ax items ∧ HotAt A x1 s'.heap) where
  sub := fun b hb => by simp at hb; simp [hb]
  grefl := fun _ => rfl
  gtrans := fun _ _ _ h1 h2 => h2.trans h1
  frame := fun i s h' tk st _ hk => ⟨st.1.at fun o e => hk I (by simp) o e, st.2.1.at fun o e => hk ax (by simp) o e, hot_keeps st.2.2 fun o e => hk x1 (by simp) o e⟩
  item := fun i s Q E hi st hQ => by
    refine wpAny_pyNext_list_item st.1 st.2.1 (x := items[i]) (by simp [hi]) fun h' hit' hs' => ?_
    have k1 : ∀ b o, b ≠ I → s.heap.get? b = some o → h'.get? b = some o := fun b o hb e => hs'.extBut b o hb e
    exact hQ _ _ (by simp [hi]) ⟨hit', st.2.1.extBut hs'.extBut hne, hot_keeps st.2.2 fun o e => k1 x1 o hx1 e⟩ ⟨fun b o hb e => k1 b o (fun z => hb (by simp [z])) e, rfl, rfl, rfl, Nat.le_refl _⟩
  done := fun s Q E st hQ => lend_hot st.2.2 hx1 st.1 st.2.1 (by simp) fun h' k1 => hQ _ ⟨fun b o hb e => k1 b o (fun z => hb (by simp [z])) e, rfl, rfl, rfl, Nat.le_refl _⟩
  self := fun _ _ _ _ st hQ => wpAny_pyIter_listiter st.1 hQ
theorem min_hot {l x1 : Addr} {vs : Array Value} {x : PyData} {xs : List PyData} {as : List Addr} {Q : Value → Shared → Prop} (hot : HotAt A x1 s.heap) (hl : s.heap.IsList l vs) (hr : ReadsAll s.heap vs.toList (x :: xs) as) (ha : PySem.W.AlikeAll (x :: xs)) (hu : A.units + 1 + PyData.depthAll (x :: xs) < cLine)
    (h : ∀ (i : Nat) v h' tk bs, vs[i]? = some v → Reads h' v (PySem.W.minD x xs) bs → (∀ b o, s.heap.get? b = some o → h'.get? b = some o) → Q v { s with heap := h', toks := tk }) :
    wpAny (model prog w) A (call (.builtin "min") [.ref l]) Q E s := by
  have hn : vs.size = xs.length + 1 := PySem.W.readsAll_len hr
  have hlt : l < s.heap.objs.size := by obtain ⟨_, e, _⟩ := hl; exact Heap.lt_size e
  have hxt : x1 < s.heap.objs.size := by obtain ⟨_, _, _, e, _⟩ := hot; exact Heap.lt_size e
  have kp : ∀ b o, s.heap.get? b = some o → (s.heap.push { cls := .type "list_iterator", data := .fields #[.ref l, .int 0 0] }).get? b = some o := fun b o e => Heap.get?_push_of_some _ e
  refine call_min_walkH (wpAny_pyIter_list hl ⟨s.heap.objs.size, _, _, _, _, _, _, s.heap, _, rfl, walks_hot (A := A.in1) (x1 := x1) (Nat.ne_of_lt hlt) (Nat.ne_of_lt hxt) vs, ⟨⟨_, Heap.get?_push_size _ rfl, rfl, rfl⟩, hl.push _, hot_keeps (A := A.in1) hot fun o e => kp _ o e⟩, fun b hb => ?_, by omega, fun b o e hb => ?_, kp, PySem.W.cmpIn_lt (A := A.in1) hr ha (by show A.units + 1 + _ < _; exact hu), fun v s' hP m => ?_⟩)
  · show b < (s.heap.push _).objs.size
    rw [Heap.size_push]
    simp at hb
    rcases hb with e | e | e
    · rw [e]; exact Nat.lt_succ_self _
    · rw [e]; exact Nat.lt_succ_of_lt hlt
    · rw [e]; exact Nat.lt_succ_of_lt hxt
  · simp at hb
    exact absurd (Heap.lt_size e) (hb ▸ Nat.lt_irrefl _)
  · obtain ⟨h', tk, rfl, hk'⟩ := PySem.W.moved_old rfl rfl m
    obtain ⟨bs, r, _, _, _⟩ := PySem.W.readsAll_atA hr _ v hP
    have e1 : vs.size - 1 = xs.length := by omega
    have e2 := (PySem.W.argBest_fold PySem.W.dataLt PyData.none x xs xs.length (Nat.le_refl _)).2
    rw [List.take_length] at e2
    rw [e1] at r
    exact h _ v h' tk bs hP (PySem.W.reads_keeps hk' (by unfold PySem.W.minD; rw [← e2]; exact r)) hk'
variable {X : Cx}
def minS (n : Str) (r : List Str) : Str := r.foldl (fun a y => if ltD (.str y) (.str a) = true then y else a) n
theorem minD_texts (r : List Str) : ∀ n : Str, PySem.W.minD (.str n) (r.map PyData.str) = .str (minS n r) := by
  induction r with
  | nil => intro n; rfl
  | cons y r ih =>
    intro n
    show PySem.W.minD (if PySem.W.dataLt (.str y) (.str n) = true then PyData.str y else PyData.str n) (r.map PyData.str) = .str (minS (if ltD (.str y) (.str n) = true then y else n) r)
    have e : PySem.W.dataLt (.str y) (.str n) = ltD (.str y) (.str n) := rfl
    rw [e]
    cases ltD (.str y) (.str n) with
    | true => exact ih y
    | false => exact ih n
def cMinS : CD := fun xs M Q => ∃ x n r, xs = [x] ∧ lstOf M x = some ((n :: r).map D.str) ∧ Q (.str (minS n r)) M
theorem rds_texts {K : PySem.W.Frag} {H : Hp} : ∀ {ns : List Str} {vs : List V}, RDs K H (ns.map D.str) vs → vs = ns.map V.str
  | [], _, .nil => rfl
  | n :: ns, _, .cons h t => by
    cases h
    rw [rds_texts t]; rfl
theorem reads_texts {h : Heap} : ∀ {ns : List Str} {us : List Value}, Vals (ns.map V.str) us → ∃ as, PySem.ReadsAll h us (ns.map PyData.str) as
  | [], _, .nil => ⟨[], .nil⟩
  | n :: ns, _, .cons r t => by
    obtain ⟨as, q⟩ := reads_texts (h := h) t
    obtain ⟨tk, rfl⟩ := r
    exact ⟨[] ++ as, .cons (.str n tk) q⟩
theorem alike_texts (ns : List Str) : PySem.W.AlikeAll (ns.map PyData.str) := by
  refine ⟨fun x hx y hy => ?_, fun x hx => ?_⟩
  · obtain ⟨i, _, rfl⟩ := List.mem_map.mp hx
    obtain ⟨j, _, rfl⟩ := List.mem_map.mp hy
    rfl
  · obtain ⟨i, _, rfl⟩ := List.mem_map.mp hx
    intro z; cases z
theorem depth_texts : ∀ ns : List Str, PyData.depthAll (ns.map PyData.str) = 0
  | [] => by simp [PyData.depthAll]
  | n :: ns => by
    rw [List.map_cons, PyData.depthAll, depth_texts ns]
    simp [PyData.depth]
theorem cr_minSH (hc : L2H.HotC X) (hu : X.A.units + 64 < cLine) : CallR X (.builtin "min") (upC X cMinS) := call_up fun pins s σ H M ds xs us Q Q0 I m rd rv ⟨x, n, r, e, hn, t⟩ q => by
  subst e
  obtain ⟨v, rfl, h⟩ := rds1 rd
  obtain ⟨a, vs, rfl, h2, h3⟩ := lstOf_sq m h hn
  rw [Vals.ref1 rv]
  obtain ⟨its, rw_, hl, hz⟩ := I.list h2
  have ev := rds_texts h3
  subst ev
  obtain ⟨as, hr⟩ := reads_texts (h := s.heap) rw_
  obtain ⟨x1, hot⟩ := hc.at I
  refine min_hot hot hl.isList (x := .str n) (xs := r.map PyData.str) (by simpa using hr) (alike_texts (n :: r)) (by rw [show PyData.str n :: r.map PyData.str = (n :: r).map PyData.str from rfl, depth_texts]; omega) fun i v h' tk bs hv rv' hk => ?_
  rw [minD_texts] at rv'
  cases rv'
  exact ⟨.str _, H, I.kept hk, ⟨_, rfl⟩, q _ _ t _ _ (Stb.refl H) (.str _) m⟩
end
section
variable {U : Ud} {k : Nat} {n : Nm}
theorem f_minSH (h : n.hot = true) : ∀ X W, Gd U k n X W → CallR X (.builtin "min") (upC X cMinS) := fun _ _ g => cr_minSH (g.hotc h).1 g.hu
end
end Fg
/-! Fg36: name = {dict comprehension}. -/
namespace Fg
open PySem PySem.Spec L2
open PyProof.Rows hiding St
section
variable {X : Cx}
theorem ps_setDc {i : Nat} {y : Str} {py : Pos} {ke ve tg iter : Expr} {ifs : List Expr} {scope : Scope} {ownN : List (Str × Nat)} {pos spos : Pos} {wi : TI} {g : TG} {tt : TT} {tk tv : TE} {ts : TStore} (hc : X.calm = true) (hN : X.N.Nodup) (hy : X.N[i]? = some y) (hyl : X.env.scope.names.lookup y = some .local)
    (hsw : swapsWith (.DictComp ke ve [⟨tg, iter, ifs, 0⟩] scope pos) (some (.Name y py)) spos.line X.env = pure true) (hi : PI X tg iter wi) (ok : BlkOk X.N X.env.scope scope ownN)
    (hg : ∀ (s : Shared) (H : Hp) (C : Addr) (cl : List (Str × Addr)) (fp : List Addr), PG (X.blk s H scope (compEnvC scope cl C X.env) fp) tg g)
    (ht : ∀ (s : Shared) (H : Hp) (C : Addr) (cl : List (Str × Addr)) (fp : List Addr), PTs (X.blk s H scope (compEnvC scope cl C X.env) fp) ifs tt)
    (hk : ∀ (s : Shared) (H : Hp) (C : Addr) (cl : List (Str × Addr)) (fp : List Addr), PE (X.blk s H scope (compEnvC scope cl C X.env) fp) ke tk)
    (he : ∀ (s : Shared) (H : Hp) (C : Addr) (cl : List (Str × Addr)) (fp : List Addr), PE (X.blk s H scope (compEnvC scope cl C X.env) fp) ve tv) (hst : ∀ (s : Shared) (H : Hp) (C : Addr) (cl : List (Str × Addr)) (fp : List Addr), PStore (X.blk s H scope (compEnvC scope cl C X.env) fp) ts) (hs : ∀ x, foldedSetIterable iter X.env x = pure x) :
    PS X (.Assign [.Name y py] (.DictComp ke ve [⟨tg, iter, ifs, 0⟩] scope pos) spos) (tAsg (tDcR wi g tt tk tv ts (ownN.map (·.2))) (gName i)) := by
  refine ⟨fun pins s σ H D I h => ?_⟩
  rw [exec_Assign_Name_used _ _ _ _ hsw]
  refine wpAny_bind (wpAny_standAt (wpAny_bind ?_))
  show wpAny _ X.A (do let _ ← comprehension (.DictComp ke ve [⟨tg, iter, ifs, 0⟩] scope pos) scope X.env (firstIterPos [⟨tg, iter, ifs, 0⟩] pos) newDict false (eval iter X.env) (some (assign (.Name y py) X.env))) _ _ s
  have h : tDcR wi g tt tk tv ts (ownN.map (·.2)) σ H (fun x H1 => gName i x σ H1 D.nx) := h
  refine wpAny_bind (thn (dcr_core (Qf := fun _ s' => SP X pins D .next s') hc hN I hi ok hg ht hk he hst hs h fun L C s' m H' I' q hn f => ?_) fun _ s' hq => wpAny_pure (wpAny_pure hq))
  show wpAny _ _ (assign (.Name y py) X.env (.ref L)) _ _ _
  obtain ⟨f0, f1, f2, f3, f4, f5⟩ := f
  refine wpAny_assign_Name (store_ok2 (v := V.ref L) I' hN hy (.inl hyl) rfl (fun s2 I2 ⟨a, sb, ha⟩ => ?_) (.inr hyl))
  have haC : C ≠ a := ha.elim (fun z => by rw [z]; exact f1) fun z e => f4 y a z e.symm
  exact ⟨m, hn.sameBut sb haC, fun h3 sb3 => ⟨_, H', I2.turned (t' := s2.toks) (fun b o hb e => (sb3.2 b hb).trans e) f0 f1 f3 f4 f5, q⟩⟩
end
section
variable {U : Ud} {k : Nat} {n : Nm} {kx vx tg iter : Expr} {es : List Expr} {pos py spos : Pos} {x : Str} {wk wv : WE} {wi : WI} {g : WG} {tt : WB} {scope : Scope} {w : WE} {i : Nat}
theorem swap_dc {gs : List Comprehension} {l : Nat} {env : PySem.Env} (h : env.scope = n.sc) : swapsWith (.DictComp kx vx gs scope pos) (some (.Name x py)) l env = pure (swB n.sc scope x py pos) := by
  unfold swapsWith swB PySem.Env.blockKind PySem.Env.kindOf
  rw [h]
  rfl
theorem m_sdc (own : List (Str × Nat)) (i : Nat) (h : ((!n.hot && (blkC n.N n.sc scope own && !isSet iter)) && stoB n i x) = true) (hi : JI U k n tg iter wi) (hg : JG U k (n.blk scope) (ownR (own.map (·.2))) tg g)
    (ht : JTs U k (n.blk scope) es tt) (hk : JE U k (n.blk scope) kx wk) (hv : JE U k (n.blk scope) vx wv) : JS U k n (.Assign [.Name x py] (.DictComp kx vx [⟨tg, iter, es, 0⟩] scope pos) spos) (wAsg (wDc wi (own.map (·.2)) g tt wk wv) (gNm i)) := fun X W g' => by
  obtain ⟨h, h3⟩ := He.ba h
  obtain ⟨s1, s2⟩ := sto_ok h3
  cases q : swB n.sc scope x py pos with
  | false => exact us_set g'.nm (g'.ix s1) (g'.loc s2.loc) (m_dc own h hi hg ht hk hv X W g') ((swap_dc g'.eS).trans (congrArg _ q)) (g'.st s2)
  | true =>
    have hl : n.sc.names.lookup x = some .local := by
      unfold swB at q
      simp only [Bool.and_eq_true, beq_iff_eq] at q
      exact q.1.1.2
    have hh := nb (He.ba h).1
    refine (ps_setDc (i := i) (g := upGR X W0 (ownR (own.map fun (p : Str × Nat) => p.2)) g) (tt := upB X W0 tt) (tk := upE X W0 wk) (tv := upE X W0 wv) (ts := upSt X) (g'.calm hh) g'.nm (g'.ix s1) (by rw [g'.eS]; exact hl) ((swap_dc g'.eS).trans (congrArg _ q)) (hi X W g') (by have := blkOk_by (He.ba (He.ba h).2).1; rw [← g'.eN, ← g'.eS] at this; exact this)
      (fun s H C cl fp => hg _ _ (g'.blk hh s H scope C cl fp)) (fun s H C cl fp => ht _ _ (g'.blk hh s H scope C cl fp)) (fun s H C cl fp => hk _ _ (g'.blk hh s H scope C cl fp)) (fun s H C cl fp => hv _ _ (g'.blk hh s H scope C cl fp))
      (fun s H C cl fp => st_up (X := X.blk s H scope (compEnvC scope cl C X.env) fp) g'.hu) (fold_no (nb (He.ba (He.ba h).2).2))).imp fun B σ H z => ?_
    obtain ⟨ρ, M, N, E0, r, m, z, gg, xg⟩ := z
    exact tDc_of (X := X) (W := W) ⟨ρ, M, _, _, r, m, z, fun d M1 z1 y H1 s1 rd m1 => gg.nx _ M1 z1 _ H1 s1 ((r.stb s1).set rd) m1, xg.at_ r⟩
end
end Fg
/-! A1: tables from monomials to integers, their order, their form as data. -/
namespace Fg
open PySem PySem.Spec L2
open PyProof.Rows hiding St
abbrev Mono := List (Str × Int)
abbrev Tab := List (Mono × Int)
/-! ### as data -/
def eV (p : Str × Int) : D := .tup [.str p.1, .int p.2]
def eM (m : Mono) : D := .tup (m.map eV)
def eT (t : Mono × Int) : D := .tup [eM t.1, .int t.2]
def eP (t : Tab) : D := .tup (t.map eT)
def kM (m : Mono) : NestedKey := .tup (m.map fun p => .tup [.text p.1, .num p.2])
theorem dkeys_map {α : Type} (f : α → D) (g : α → NestedKey) (h : ∀ a, dkey (f a) = some (g a)) : ∀ l : List α, dkeys (l.map f) = some (l.map g)
  | [] => rfl
  | a :: l => by rw [List.map_cons, List.map_cons, dkeys, h a, dkeys_map f g h l]
theorem dkey_eV (p : Str × Int) : dkey (eV p) = some (.tup [.text p.1, .num p.2]) := rfl
theorem dkey_eM (m : Mono) : dkey (eM m) = some (kM m) := by
  unfold eM kM
  rw [dkey, dkeys_map eV _ dkey_eV]; rfl
theorem kM_inj {a b : Mono} (h : kM a = kM b) : a = b := by
  unfold kM at h
  injection h with h
  have inj : ∀ p q : Str × Int, NestedKey.tup [.text p.1, .num p.2] = .tup [.text q.1, .num q.2] → p = q := fun p q e => by
    injection e with e
    injection e with e1 e2
    injection e1 with e1
    injection e2 with e2 _
    injection e2 with e2
    exact Prod.ext e1 e2
  induction a generalizing b with
  | nil => cases b with
    | nil => rfl
    | cons q b => cases h
  | cons p a ih => cases b with
    | nil => cases h
    | cons q b =>
      rw [List.map_cons, List.map_cons] at h
      injection h with h1 h2
      rw [inj p q h1, ih h2]
theorem eM_inj {a b : Mono} (h : eM a = eM b) : a = b := kM_inj (Option.some.inj ((dkey_eM a).symm.trans ((congrArg dkey h).trans (dkey_eM b))))
theorem eT_inj {a b : Mono × Int} (h : eT a = eT b) : a = b := by
  unfold eT at h
  injection h with h
  injection h with h1 h2
  injection h2 with h2 _
  injection h2 with h2
  exact Prod.ext (eM_inj h1) h2
theorem kM_depth (m : Mono) : (kM m).depth ≤ 8 := by
  unfold kM
  rw [NestedKey.depth]
  have : ∀ l : Mono, NestedKey.depthAll (l.map fun p => NestedKey.tup [.text p.1, .num p.2]) ≤ 1 := fun l => by
    induction l with
    | nil => simp [NestedKey.depthAll]
    | cons p l ih =>
      rw [List.map_cons, NestedKey.depthAll]
      simp [NestedKey.depth, NestedKey.depthAll] at ih ⊢
      omega
  have := this m
  omega
/-! ### a dict's rows -/
def kv (t : Mono × Int) : D × D := (eM t.1, .int t.2)
def kvs (t : Tab) : List (D × D) := t.map kv
theorem kvs_tu (t : Tab) : ∀ p ∈ kvs t, isTu p.1 = true := fun p hp => by
  obtain ⟨q, _, e⟩ := List.mem_map.mp hp
  subst e; rfl
theorem kOk (t : Tab) (m : Mono) : KOk (kvs t) (eM m) (kM m) := ⟨dkey_eM m, kM_depth m, .inr ⟨rfl, kvs_tu t⟩⟩
theorem dk_iff (p : Mono × Int) (m : Mono) : (dkey (kv p).1 = some (kM m)) ↔ p.1 = m := by
  show dkey (eM p.1) = some (kM m) ↔ p.1 = m
  rw [dkey_eM]
  exact ⟨fun h => kM_inj (Option.some.inj h), fun h => by rw [h]⟩
/-! ### tables -/
def look (t : Tab) (m : Mono) : Option Int := (t.find? fun p => decide (p.1 = m)).map (·.2)
def val (t : Tab) (m : Mono) : Int := (look t m).getD 0
def hasM (t : Tab) (m : Mono) : Bool := t.any fun p => decide (p.1 = m)
def put (t : Tab) (m : Mono) (c : Int) : Tab := if hasM t m = true then t.map (fun p => if p.1 = m then (p.1, c) else p) else t ++ [(m, c)]
abbrev ND (t : Tab) : Prop := (t.map (·.1)).Nodup
theorem look_kvs (m : Mono) : ∀ t : Tab, lookK (kvs t) (kM m) = (look t m).map D.int
  | [] => rfl
  | p :: t => by
    have ih := look_kvs m t
    unfold lookK look kvs at ih ⊢
    rw [List.map_cons, List.find?_cons, List.find?_cons]
    by_cases e : p.1 = m
    · rw [decide_eq_true ((dk_iff p m).mpr e), decide_eq_true e]; rfl
    · rw [decide_eq_false (fun z => e ((dk_iff p m).mp z)), decide_eq_false e]; exact ih
theorem has_kvs (m : Mono) (t : Tab) : hasK (kvs t) (kM m) = hasM t m := by
  unfold hasK hasM kvs
  rw [List.any_map]
  congr 1
  funext p
  show decide (dkey (kv p).1 = some (kM m)) = decide (p.1 = m)
  by_cases e : p.1 = m
  · rw [decide_eq_true ((dk_iff p m).mpr e), decide_eq_true e]
  · rw [decide_eq_false (fun z => e ((dk_iff p m).mp z)), decide_eq_false e]
theorem put_kvs (t : Tab) (m : Mono) (c : Int) : putKD (kvs t) (eM m) (kM m) (.int c) = kvs (put t m c) := by
  unfold putKD put
  rw [has_kvs]
  split
  · unfold kvs
    rw [List.map_map, List.map_map]
    refine List.map_congr_left fun p _ => ?_
    show (if dkey (kv p).1 = some (kM m) then ((kv p).1, D.int c) else kv p) = kv (if p.1 = m then (p.1, c) else p)
    by_cases e : p.1 = m
    · rw [if_pos ((dk_iff p m).mpr e), if_pos e]; rfl
    · rw [if_neg (fun z => e ((dk_iff p m).mp z)), if_neg e]
  · unfold kvs
    rw [List.map_append]; rfl
theorem hasM_iff {t : Tab} {m : Mono} : hasM t m = true ↔ m ∈ t.map (·.1) := by
  unfold hasM
  rw [List.any_eq_true, List.mem_map]
  exact ⟨fun ⟨p, h, e⟩ => ⟨p, h, of_decide_eq_true e⟩, fun ⟨p, h, e⟩ => ⟨p, h, decide_eq_true e⟩⟩
theorem put_keys (t : Tab) (m : Mono) (c : Int) : (put t m c).map (·.1) = if hasM t m = true then t.map (·.1) else t.map (·.1) ++ [m] := by
  unfold put
  split
  · rw [List.map_map]
    refine List.map_congr_left fun p _ => ?_
    show (if p.1 = m then (p.1, c) else p).1 = p.1
    split <;> rfl
  · rw [List.map_append]; rfl
theorem put_nd {t : Tab} {m : Mono} {c : Int} (h : ND t) : ND (put t m c) := by
  unfold ND
  rw [put_keys]
  split
  · exact h
  · rename_i hn
    refine List.nodup_append.mpr ⟨h, by simp, fun a ha b hb => ?_⟩
    rw [List.mem_singleton] at hb
    subst hb
    intro e
    subst e
    exact hn (hasM_iff.mpr ha)
theorem put_len (t : Tab) (m : Mono) (c : Int) : (put t m c).length ≤ t.length + 1 := by
  unfold put
  split
  · rw [List.length_map]; omega
  · rw [List.length_append]; simp
theorem put_len_ge (t : Tab) (m : Mono) (c : Int) : t.length ≤ (put t m c).length := by
  unfold put
  split
  · rw [List.length_map]; omega
  · rw [List.length_append]; simp
/-! ### a table as a functional -/
def sm (t : Tab) (f : Mono → Int) : Int := (t.map fun p => p.2 * f p.1).sum
theorem sm_nil (f : Mono → Int) : sm [] f = 0 := rfl
theorem sm_cons (p : Mono × Int) (t : Tab) (f : Mono → Int) : sm (p :: t) f = p.2 * f p.1 + sm t f := by unfold sm; rw [List.map_cons, List.sum_cons]
theorem sm_append (t u : Tab) (f : Mono → Int) : sm (t ++ u) f = sm t f + sm u f := by unfold sm; rw [List.map_append, List.sum_append_int]
def dl (m : Mono) : Mono → Int := fun x => if x = m then 1 else 0
theorem look_none {t : Tab} {m : Mono} : look t m = none ↔ hasM t m = false := by
  unfold look hasM
  rw [Option.map_eq_none_iff, List.find?_eq_none, List.any_eq_false]
theorem look_some {t : Tab} {m : Mono} {c : Int} (h : look t m = some c) : (m, c) ∈ t := by
  unfold look at h
  obtain ⟨p, hp, e⟩ := Option.map_eq_some_iff.mp h
  have h1 := List.mem_of_find?_eq_some hp
  have h2 : p.1 = m := by simpa using List.find?_some hp
  obtain ⟨p1, p2⟩ := p
  dsimp only at e h2
  subst e h2
  exact h1
theorem look_mem {t : Tab} (h : ND t) {m : Mono} {c : Int} (hm : (m, c) ∈ t) : look t m = some c := by
  induction t with
  | nil => cases hm
  | cons p t ih =>
    unfold ND at h
    rw [List.map_cons, List.nodup_cons] at h
    unfold look
    rw [List.find?_cons]
    rcases List.mem_cons.mp hm with e | hm
    · subst e
      rw [decide_eq_true rfl]; rfl
    · have hne : p.1 ≠ m := fun z => h.1 (List.mem_map.mpr ⟨(m, c), hm, z.symm⟩)
      rw [decide_eq_false hne]
      exact ih h.2 hm
theorem sm_zero {t : Tab} {m : Mono} (h : m ∉ t.map (·.1)) : sm t (dl m) = 0 := by
  induction t with
  | nil => rfl
  | cons p t ih =>
    rw [List.map_cons, List.mem_cons, not_or] at h
    rw [sm_cons, ih h.2]
    unfold dl
    rw [if_neg (Ne.symm h.1)]; simp
theorem val_sm {t : Tab} (h : ND t) (m : Mono) : val t m = sm t (dl m) := by
  induction t with
  | nil => rfl
  | cons p t ih =>
    unfold ND at h
    rw [List.map_cons, List.nodup_cons] at h
    rw [sm_cons]
    unfold val look
    rw [List.find?_cons]
    by_cases e : p.1 = m
    · rw [decide_eq_true e, sm_zero (by rw [← e]; exact h.1)]
      unfold dl
      rw [if_pos e]; simp
    · rw [decide_eq_false e, ← ih h.2]
      unfold dl
      rw [if_neg e]
      show val t m = p.2 * 0 + val t m
      simp
theorem put_sm {t : Tab} (h : ND t) (m : Mono) (c : Int) (f : Mono → Int) : sm (put t m c) f = sm t f + (c - val t m) * f m := by
  unfold put
  by_cases hh : hasM t m = true
  · rw [if_pos hh]
    induction t with
    | nil => cases hh
    | cons p t ih =>
      unfold ND at h
      rw [List.map_cons, List.nodup_cons] at h
      rw [List.map_cons, sm_cons, sm_cons]
      by_cases e : p.1 = m
      · have hn : hasM t m = false := by
          cases q : hasM t m with
          | false => rfl
          | true => rw [hasM_iff, ← e] at q; exact absurd q h.1
        have id_ : t.map (fun p => if p.1 = m then (p.1, c) else p) = t := by
          have : ∀ q ∈ t, (fun p : Mono × Int => if p.1 = m then (p.1, c) else p) q = id q := fun q hq => by
            have hne : q.1 ≠ m := fun z => h.1 (List.mem_map.mpr ⟨q, hq, z.trans e.symm⟩)
            show (if q.1 = m then (q.1, c) else q) = q
            rw [if_neg hne]
          rw [List.map_congr_left this, List.map_id]
        rw [id_, if_pos e]
        have ev : val (p :: t) m = p.2 := by
          unfold val look
          rw [List.find?_cons, decide_eq_true e]; rfl
        rw [ev]
        dsimp only
        rw [e, Int.sub_mul]; omega
      · have hn : hasM t m = true := by
          rw [hasM_iff, List.map_cons, List.mem_cons] at hh
          exact hasM_iff.mpr (hh.resolve_left (Ne.symm e))
        rw [if_neg e, ih h.2 hn]
        have ev : val (p :: t) m = val t m := by
          unfold val look
          rw [List.find?_cons, decide_eq_false e]
        rw [ev]; omega
  · rw [if_neg hh, sm_append, sm_cons, sm_nil]
    have ev : val t m = 0 := by
      unfold val
      rw [look_none.mpr (by simpa using hh)]; rfl
    rw [ev]
    simp
/-! ### the nonzero ones, in their order -/
def nz (t : Tab) : Tab := t.filter fun p => decide (p.2 ≠ 0)
theorem nz_sm (t : Tab) (f : Mono → Int) : sm (nz t) f = sm t f := by
  induction t with
  | nil => rfl
  | cons p t ih =>
    unfold nz
    rw [List.filter_cons]
    split
    · rw [sm_cons, sm_cons]; exact congrArg _ ih
    · rename_i h
      have : p.2 = 0 := by simpa using h
      rw [sm_cons, this, Int.zero_mul, Int.zero_add]; exact ih
theorem perm_sm {t u : Tab} (h : t.Perm u) (f : Mono → Int) : sm t f = sm u f := by
  induction h with
  | nil => rfl
  | cons p _ ih => rw [sm_cons, sm_cons, ih]
  | swap p q t => rw [sm_cons, sm_cons, sm_cons, sm_cons]; omega
  | trans _ _ a b => exact a.trans b
theorem nz_nd {t : Tab} (h : ND t) : ND (nz t) := (h.sublist ((List.filter_sublist).map _))
theorem nd_nodup {t : Tab} (h : ND t) : t.Nodup := by
  induction t with
  | nil => exact List.nodup_nil
  | cons p t ih =>
    unfold ND at h
    rw [List.map_cons, List.nodup_cons] at h
    exact List.nodup_cons.mpr ⟨fun m => h.1 (List.mem_map.mpr ⟨p, m, rfl⟩), ih h.2⟩
theorem mem_nz {t : Tab} (h : ND t) {p : Mono × Int} : p ∈ nz t ↔ val t p.1 = p.2 ∧ p.2 ≠ 0 := by
  unfold nz
  rw [List.mem_filter]
  constructor
  · intro ⟨h1, h2⟩
    refine ⟨?_, by simpa using h2⟩
    unfold val
    rw [look_mem h (c := p.2) h1]; rfl
  · intro ⟨h1, h2⟩
    refine ⟨?_, by simpa using h2⟩
    unfold val at h1
    cases q : look t p.1 with
    | none => rw [q] at h1; exact absurd h1.symm h2
    | some c =>
      rw [q] at h1
      have e : c = p.2 := h1
      rw [e] at q
      exact look_some q
/-- two tables with the same values -/
def Eqv (t u : Tab) : Prop := ∀ f, sm t f = sm u f
theorem nz_perm {t u : Tab} (ht : ND t) (hu : ND u) (h : Eqv t u) : (nz t).Perm (nz u) := by
  refine (List.perm_ext_iff_of_nodup (nd_nodup (nz_nd ht)) (nd_nodup (nz_nd hu))).mpr fun p => ?_
  rw [mem_nz ht, mem_nz hu, val_sm ht, val_sm hu, h]
end Fg
/-! A2: the order of monomials and terms; a table's polynomial. -/
namespace Fg
open PySem PySem.Spec L2
open PyProof.Rows hiding St
/-! ### equal data are one -/
mutual
/-- numbers, texts, tuples, lists, None -/
def pl : D → Bool
  | .non => true
  | .int _ => true
  | .str _ => true
  | .tup ds => pls ds
  | .rol ds => pls ds
  | .bl _ => false
  | .ty _ => false
  | .ref _ => false
def pls : List D → Bool
  | [] => true
  | d :: ds => pl d && pls ds
end
mutual
theorem eqD_iff : ∀ (x y : D), pl x = true → pl y = true → (PyData.eqv (toP x) (toP y) = true ↔ x = y)
  | .non, y, _, h => by cases y <;> simp [toP, PyData.eqv, pl] at h ⊢
  | .int i, y, _, h => by cases y <;> simp [toP, PyData.eqv, pl] at h ⊢
  | .str i, y, _, h => by cases y <;> simp [toP, PyData.eqv, pl] at h ⊢
  | .tup ds, y, g, h => by
    cases y with
    | tup es =>
      rw [toP, toP, PyData.eqv, eqDs_iff ds es (by simpa [pl] using g) (by simpa [pl] using h)]
      simp
    | _ => simp [toP, PyData.eqv, pl] at h ⊢
  | .rol ds, y, g, h => by
    cases y with
    | rol es =>
      rw [toP, toP, PyData.eqv, eqDs_iff ds es (by simpa [pl] using g) (by simpa [pl] using h)]
      simp
    | _ => simp [toP, PyData.eqv, pl] at h ⊢
  | .bl _, _, g, _ => by simp [pl] at g
  | .ty _, _, g, _ => by simp [pl] at g
  | .ref _, _, g, _ => by simp [pl] at g
theorem eqDs_iff : ∀ (xs ys : List D), pls xs = true → pls ys = true → (PyData.eqvAll (toPs xs) (toPs ys) = true ↔ xs = ys)
  | [], [], _, _ => by simp [toPs, PyData.eqvAll]
  | [], _ :: _, _, _ => by simp [toPs, PyData.eqvAll]
  | _ :: _, [], _, _ => by simp [toPs, PyData.eqvAll]
  | x :: xs, y :: ys, g, h => by
    rw [pls, Bool.and_eq_true] at g h
    rw [toPs, toPs, PyData.eqvAll, Bool.and_eq_true, eqD_iff x y g.1 h.1, eqDs_iff xs ys g.2 h.2]
    simp
end
theorem pls_map {α : Type} (f : α → D) (h : ∀ a, pl (f a) = true) : ∀ l : List α, pls (l.map f) = true
  | [] => rfl
  | a :: l => by rw [List.map_cons, pls, h a, pls_map f h l]; rfl
theorem dats_map {α : Type} (f : α → D) (h : ∀ a, dat (f a) = true) : ∀ l : List α, dats (l.map f) = true
  | [] => rfl
  | a :: l => by rw [List.map_cons, dats, h a, dats_map f h l]; rfl
theorem deps_map {α : Type} (f : α → D) (n : Nat) (h : ∀ a, dep (f a) ≤ n) : ∀ l : List α, deps (l.map f) ≤ n
  | [] => by simp [deps]
  | a :: l => by
    rw [List.map_cons, deps]
    have := h a
    have := deps_map f n h l
    omega
theorem pl_eM (m : Mono) : pl (eM m) = true := by unfold eM; rw [pl]; exact pls_map eV (fun _ => rfl) m
theorem pl_eT (t : Mono × Int) : pl (eT t) = true := by unfold eT; rw [pl, pls, pl_eM]; rfl
theorem pl_eP (t : Tab) : pl (eP t) = true := by unfold eP; rw [pl]; exact pls_map eT pl_eT t
theorem dat_eM (m : Mono) : dat (eM m) = true := by unfold eM; rw [dat]; exact dats_map eV (fun _ => rfl) m
theorem dat_eT (t : Mono × Int) : dat (eT t) = true := by unfold eT; rw [dat, dats, dat_eM]; rfl
theorem dat_eP (t : Tab) : dat (eP t) = true := by unfold eP; rw [dat]; exact dats_map eT dat_eT t
theorem dep_eV (p : Str × Int) : dep (eV p) ≤ 1 := by simp [eV, dep, deps]
theorem dep_eM (m : Mono) : dep (eM m) ≤ 2 := by
  unfold eM
  rw [dep]
  have := deps_map eV 1 dep_eV m
  omega
theorem dep_eT (t : Mono × Int) : dep (eT t) ≤ 3 := by
  unfold eT
  simp only [dep, deps]
  have := dep_eM t.1
  omega
theorem dep_eP (t : Tab) : dep (eP t) ≤ 4 := by
  unfold eP
  rw [dep]
  have := deps_map eT 3 dep_eT t
  omega
/-! ### alike -/
theorem alikeAll_map {α : Type} (f : α → D) (h : ∀ a b, PySem.W.alike (toP (f a)) (toP (f b)) = true) : ∀ l m : List α, PySem.W.alikeAll (toPs (l.map f)) (toPs (m.map f)) = true
  | [], [] => rfl
  | [], _ :: _ => rfl
  | _ :: _, [] => rfl
  | a :: l, b :: m => by
    rw [List.map_cons, List.map_cons, toPs, toPs, PySem.W.alikeAll, h a b, alikeAll_map f h l m]; rfl
theorem alike_eV (p q : Str × Int) : PySem.W.alike (toP (eV p)) (toP (eV q)) = true := rfl
theorem alike_eM (a b : Mono) : PySem.W.alike (toP (eM a)) (toP (eM b)) = true := by unfold eM; rw [toP, toP, PySem.W.alike]; exact alikeAll_map eV alike_eV a b
theorem alike_eT (a b : Mono × Int) : PySem.W.alike (toP (eT a)) (toP (eT b)) = true := by
  unfold eT
  simp only [toP, toPs, PySem.W.alike, PySem.W.alikeAll, alike_eM, Bool.and_true]
/-! ### less -/
abbrev tk (d : D) := PySem.W.keyToks (toP d)
def mlt (a b : Mono) : Bool := ltD (eM a) (eM b)
theorem leD_eq (x y : D) : leD x y = !ltD y x := rfl
theorem toks_one {x y : D} (hx : pl x = true) (hy : pl y = true) (al : PySem.W.alike (toP x) (toP y) = true) (hne : x ≠ y) (l m : List (Int ⊕ List Nat)) : PyProof.Rows.lexLt PyProof.Rows.itemOrd (tk x ++ l) (tk y ++ m) = ltD x y := by
  have e : PyData.eqv (toP x) (toP y) = false := by
    cases q : PyData.eqv (toP x) (toP y) with
    | false => rfl
    | true => exact absurd ((eqD_iff x y hx hy).mp q) hne
  exact (PySem.W.toks_eqv _ _ al).2 e l m
theorem toks_inj {x y : D} (hx : pl x = true) (hy : pl y = true) (al : PySem.W.alike (toP x) (toP y) = true) (h : tk x = tk y) : x = y := by
  by_cases hne : x = y
  · exact hne
  · have a := toks_one hx hy al hne [.inl 0] [.inl 1]
    have b := toks_one hx hy al hne [.inl 1] [.inl 0]
    rw [h, PySem.W.lex_pre] at a b
    rw [← b] at a
    exact absurd a (by decide)
theorem ltD_irrefl (x : D) : ltD x x = false := PyProof.Rows.lex_irrefl _
theorem ltD_trans {x y z : D} (h1 : ltD x y = true) (h2 : ltD y z = true) : ltD x z = true := PyProof.Rows.lex_trans _ _ _ h1 h2
theorem ltD_asym {x y : D} (h : ltD x y = true) : ltD y x = false := by
  cases q : ltD y x with
  | false => rfl
  | true =>
    have := ltD_trans h q
    rw [ltD_irrefl] at this
    cases this
theorem ltD_total {x y : D} (hx : pl x = true) (hy : pl y = true) (al : PySem.W.alike (toP x) (toP y) = true) (hne : x ≠ y) : ltD x y = true ∨ ltD y x = true := by
  by_cases h1 : ltD x y = true
  · exact .inl h1
  · by_cases h2 : ltD y x = true
    · exact .inr h2
    · exact absurd (toks_inj hx hy al (PyProof.Rows.lex_total _ _ (show ltD x y = false by simpa using h1) (show ltD y x = false by simpa using h2))) hne
theorem mlt_irrefl (a : Mono) : mlt a a = false := ltD_irrefl _
theorem mlt_trans {a b c : Mono} (h1 : mlt a b = true) (h2 : mlt b c = true) : mlt a c = true := ltD_trans h1 h2
theorem mlt_asym {a b : Mono} (h : mlt a b = true) : mlt b a = false := ltD_asym h
theorem mlt_total {a b : Mono} (h : a ≠ b) : mlt a b = true ∨ mlt b a = true := ltD_total (pl_eM a) (pl_eM b) (alike_eM a b) fun z => h (eM_inj z)
theorem mlt_ne {a b : Mono} (h : mlt a b = true) : a ≠ b := fun z => by rw [z, mlt_irrefl] at h; cases h
theorem tk_eT (t : Mono × Int) : tk (eT t) = .inl 1 :: (tk (eM t.1) ++ [.inl 1, .inl t.2, .inl 0]) := by
  simp only [tk, eT, toP, toPs, PySem.W.keyToks, PySem.W.keyToksAll, List.cons_append, List.nil_append]
theorem eT_lt {a b : Mono × Int} (h : a.1 ≠ b.1) : ltD (eT a) (eT b) = mlt a.1 b.1 := by
  show PyProof.Rows.lexLt PyProof.Rows.itemOrd (tk (eT a)) (tk (eT b)) = _
  rw [tk_eT, tk_eT, PyProof.Rows.lex_self]
  exact toks_one (pl_eM _) (pl_eM _) (alike_eM _ _) (fun z => h (eM_inj z)) _ _
/-! ### sorted terms -/
def leT (x y : Mono × Int) : Bool := leD (eT x) (eT y)
theorem leT_total : ∀ a b : Mono × Int, (leT a b || leT b a) = true := fun a b => by
  show (!ltD (eT b) (eT a) || !ltD (eT a) (eT b)) = true
  cases q : ltD (eT a) (eT b) with
  | false => simp
  | true => rw [ltD_asym q]; rfl
theorem leT_trans : ∀ a b c : Mono × Int, leT a b = true → leT b c = true → leT a c = true := fun a b c h1 h2 => (PySem.W.sortLe_total (PyProof.Rows.listOrd PyProof.Rows.itemOrd) false fun t : Mono × Int => tk (eT t)).trans a b c h1 h2
theorem leT_anti {a b : Mono × Int} (h1 : leT a b = true) (h2 : leT b a = true) : a = b := by
  by_cases hne : eT a = eT b
  · exact eT_inj hne
  · have h1' : ltD (eT b) (eT a) = false := by simpa [leT, leD_eq] using h1
    have h2' : ltD (eT a) (eT b) = false := by simpa [leT, leD_eq] using h2
    rcases ltD_total (pl_eT a) (pl_eT b) (alike_eT a b) hne with h | h
    · rw [h2'] at h; cases h
    · rw [h1'] at h; cases h
def srt (t : Tab) : Tab := t.mergeSort leT
theorem srt_map (t : Tab) : (t.map eT).mergeSort leD = (srt t).map eT := by
  unfold srt
  exact (List.map_mergeSort (r := leT) (s := leD) (f := eT) (l := t) fun a _ b _ => rfl).symm
theorem srt_perm (t : Tab) : (srt t).Perm t := List.mergeSort_perm _ _
theorem srt_sorted (t : Tab) : (srt t).Pairwise (fun x y => leT x y = true) := List.pairwise_mergeSort (fun a b c => leT_trans a b c) leT_total t
theorem srt_eq {t u : Tab} (h : t.Perm u) : srt t = srt u := List.Perm.eq_of_pairwise (le := fun x y => leT x y = true) (fun a b _ _ h1 h2 => leT_anti h1 h2) (srt_sorted t) (srt_sorted u) (((srt_perm t).trans h).trans (srt_perm u).symm)
/-- rising by monomials -/
abbrev Rising (t : Tab) : Prop := t.Pairwise fun x y => mlt x.1 y.1 = true
theorem rising_le {x y : Mono × Int} (h : mlt x.1 y.1 = true) : leT x y = true := by
  show (!ltD (eT y) (eT x)) = true
  rw [eT_lt (Ne.symm (mlt_ne h)), mlt_asym h]; rfl
theorem srt_rising {t u : Tab} (h : Rising u) (p : u.Perm t) : srt t = u := List.Perm.eq_of_pairwise (le := fun x y => leT x y = true) (fun a b _ _ h1 h2 => leT_anti h1 h2) (srt_sorted t) (h.imp rising_le) ((srt_perm t).trans p.symm)
theorem rising_nd {t : Tab} (h : Rising t) : ND t := by
  unfold ND
  exact List.Pairwise.map _ (fun x y q => mlt_ne q) h
theorem rising_srt {t : Tab} (h : ND t) : Rising (srt t) := by
  have s := srt_sorted t
  have d : ((srt t).map (·.1)).Nodup := (List.Perm.nodup_iff ((srt_perm t).map _)).mpr h
  have d' : (srt t).Pairwise fun x y => x.1 ≠ y.1 := List.pairwise_map.mp d
  exact (s.and d').imp fun {x y} ⟨h1, h2⟩ => by
    have h1' : ltD (eT y) (eT x) = false := by simpa [leT, leD_eq] using h1
    rw [eT_lt (Ne.symm h2)] at h1'
    rcases mlt_total h2 with h | h
    · exact h
    · rw [h1'] at h; cases h
/-- the polynomial of a table -/
def canon (t : Tab) : Tab := srt (nz t)
theorem canon_eq {t u : Tab} (ht : ND t) (hu : ND u) (h : Eqv t u) : canon t = canon u := srt_eq (nz_perm ht hu h)
theorem canon_nd {t : Tab} (h : ND t) : ND (canon t) := rising_nd (rising_srt (nz_nd h))
theorem canon_sm (t : Tab) (f : Mono → Int) : sm (canon t) f = sm t f := (perm_sm (srt_perm _) f).trans (nz_sm t f)
theorem canon_len (t : Tab) : (canon t).length = (nz t).length := (srt_perm _).length_eq
theorem nz_len (t : Tab) : (nz t).length ≤ t.length := List.length_filter_le _ _
theorem canon_mem {t : Tab} {p : Mono × Int} : p ∈ canon t ↔ p ∈ t ∧ p.2 ≠ 0 := by
  unfold canon
  rw [(srt_perm _).mem_iff, nz, List.mem_filter]
  simp
theorem canon_rising {t : Tab} (h : ND t) : Rising (canon t) := rising_srt (nz_nd h)
theorem canon_self {t : Tab} (h : Rising t) (z : ∀ p ∈ t, p.2 ≠ 0) : canon t = t := by
  have e : nz t = t := List.filter_eq_self.mpr fun p hp => by simpa using z p hp
  unfold canon
  rw [e]
  exact srt_rising h (List.Perm.refl _)
theorem sortOk_eT (t : Tab) : SortOk (t.map eT) := by
  refine ⟨dats_map eT dat_eT t, fun d hd e he => ?_, .inl fun d hd => ?_, Nat.le_trans (deps_map eT 3 dep_eT t) (by decide)⟩
  · obtain ⟨a, _, rfl⟩ := List.mem_map.mp hd
    obtain ⟨b, _, rfl⟩ := List.mem_map.mp he
    exact alike_eT a b
  · obtain ⟨a, _, rfl⟩ := List.mem_map.mp hd
    exact ⟨_, _, rfl⟩
end Fg
/-! A3: what stays, loops and comprehensions by rules, polynomials as they lie. -/
namespace Fg
open PySem PySem.Spec L2
open PyProof.Rows hiding St
/-- nothing that was there is changed -/
def Ext (M M' : MM) : Prop := ∀ a o, M a = some o → M' a = some o
theorem Ext.refl (M : MM) : Ext M M := fun _ _ h => h
theorem Ext.trans {M M1 M2 : MM} (a : Ext M M1) (b : Ext M1 M2) : Ext M M2 := fun x o h => b x o (a x o h)
theorem Ext.new {M : MM} {p : Addr} {o : MO} (h : M p = none) : Ext M (up M p o) := fun x u e => by rw [up_ne (fun z => by rw [z, h] at e; cases e)]; exact e
/-- what was not there ahead may change -/
theorem Ext.upd {M M' : MM} {p : Addr} {o : MO} (h : M p = none) (e : Ext M M') : Ext M (up M' p o) := fun x u q => by rw [up_ne (fun z => by rw [z, h] at q; cases q)]; exact e x u q
theorem Ext.none {M M' : MM} (e : Ext M M') {p : Addr} (h : M' p = none) : M p = none := by
  cases q : M p with
  | none => rfl
  | some o => rw [e p o q] at h; cases h
/-! ### loops -/
theorem loop_rule {stay : MM → Prop} {g : WG} {b : WS} {N : EndsD} {E : QS} (I : Nat → En → MM → Prop) : ∀ (ds : List D) (k : Nat) (ρ : En) (M : MM),
    (∀ i d, ds[i]? = some d → ∀ ρ M, I (k + i) ρ M → ∀ K : En → MM → Prop, (∀ ρ' M', I (k + i + 1) ρ' M' → K ρ' M') → stay M ∧ g d ρ M (fun ρ1 M1 => b ρ1 M1 { nx := K, ct := K, bk := N.nx, rt := N.rt } E) (fun x M1 => E x ρ M1)) →
    (∀ ρ M, I (k + ds.length) ρ M → stay M ∧ N.nx ρ M) → I k ρ M → loopD stay g b ds ρ M N E
  | [], k, ρ, M, _, hn, h => hn ρ M h
  | d :: ds, k, ρ, M, hs, hn, h => by
    refine hs 0 d rfl ρ M h _ fun ρ' M' h' => ?_
    refine loop_rule I ds (k + 1) ρ' M' (fun i e he ρ M hi K hK => ?_) (fun ρ M hi => hn ρ M ?_) h'
    · have e1 : k + 1 + i = k + (i + 1) := by omega
      rw [e1] at hi hK
      exact hs (i + 1) e (by simpa using he) ρ M hi K hK
    · have e1 : k + 1 + ds.length = k + (d :: ds).length := by rw [List.length_cons]; omega
      rw [← e1]; exact hi
theorem for_rule {stay : MM → Prop} {g : WG} {b : WS} {N : EndsD} {E : QS} {ds : List D} {ρ : En} {M : MM} (I : Nat → En → MM → Prop) (h0 : I 0 ρ M)
    (hs : ∀ i d, ds[i]? = some d → ∀ ρ M, I i ρ M → ∀ K : En → MM → Prop, (∀ ρ' M', I (i + 1) ρ' M' → K ρ' M') → stay M ∧ g d ρ M (fun ρ1 M1 => b ρ1 M1 { nx := K, ct := K, bk := N.nx, rt := N.rt } E) (fun x M1 => E x ρ M1))
    (hn : ∀ ρ M, I ds.length ρ M → stay M ∧ N.nx ρ M) : loopD stay g b ds ρ M N E :=
  loop_rule I ds 0 ρ M (fun i d hd ρ M hi K hK => by rw [Nat.zero_add] at hi hK; exact hs i d hd ρ M hi K hK) (fun ρ M hi => by rw [Nat.zero_add] at hi; exact hn ρ M hi) h0
/-- a comprehension whose items change nothing that is there: the items that are taken, each by f -/
theorem lc_rule {stay : MM → Prop} {M1 : MM} {p : Addr} {ρ0 : En} {g : WG} {tt : WB} {te : WE} {ds : List D} {K : MM → Prop} (hp : M1 p = none) (f : D → D) (t : D → Bool) (hst : ∀ M, Ext M1 M → stay M) (hz : ds.length ≤ sizeLine)
    (hs : ∀ d ∈ ds, ∀ M, Ext M1 M → ∀ (K1 : QD) (K0 : MM → Prop), (t d = true → ∀ M', Ext M M' → K1 (f d) M') → (t d = false → ∀ M', Ext M M' → K0 M') → g d ρ0 M (fun ρ1 M2 => tt ρ1 M2 (fun k M3 => if k = true then te ρ1 M3 K1 noX else K0 M3) noX) noX)
    (hK : ∀ M', Ext M1 M' → M' p = some (.lst ((ds.filter t).map f)) → K M') : lcD stay p ρ0 g tt te ds [] (up M1 p (.lst [])) K := by
  have go : ∀ (rs acc : List D) (M : MM), (∀ d ∈ rs, d ∈ ds) → acc.length + rs.length ≤ sizeLine → Ext M1 M → M p = some (.lst acc) → (∀ M', Ext M1 M' → M' p = some (.lst (acc ++ (rs.filter t).map f)) → K M') → lcD stay p ρ0 g tt te rs acc M K := by
    intro rs
    induction rs with
    | nil => intro acc M _ _ e h k; exact ⟨hst M e, h, k M e (by simpa using h)⟩
    | cons d rs ih =>
      intro acc M hm hl e h k
      refine ⟨hst M e, hs d (hm d List.mem_cons_self) M e _ _ (fun ht M' e' => ?_) fun ht M' e' => ?_⟩
      · rw [List.length_cons] at hl
        refine ⟨e' _ _ h, by omega, ih _ _ (fun x hx => hm x (List.mem_cons_of_mem _ hx)) (by rw [List.length_append, List.length_singleton]; omega) (Ext.upd hp (e.trans e')) up_same fun M2 e2 h2 => k M2 e2 ?_⟩
        rw [h2, List.filter_cons, if_pos ht]; simp
      · refine ih _ _ (fun x hx => hm x (List.mem_cons_of_mem _ hx)) (by rw [List.length_cons] at hl; omega) (e.trans e') (e' _ _ h) fun M2 e2 h2 => k M2 e2 ?_
        rw [h2, List.filter_cons, if_neg (by rw [ht]; decide)]
  exact go ds [] _ (fun d h => h) (by simpa using hz) (Ext.new hp) up_same fun M' e h => hK M' e (by simpa using h)
theorem lc_map {α : Type} {stay : MM → Prop} {M1 : MM} {p : Addr} {ρ0 : En} {g : WG} {tt : WB} {te : WE} {xs : List α} {K : MM → Prop} (hp : M1 p = none) (g0 f : α → D) (t : α → Bool) (hst : ∀ M, Ext M1 M → stay M) (hz : xs.length ≤ sizeLine)
    (hs : ∀ x ∈ xs, ∀ M, Ext M1 M → ∀ (K1 : QD) (K0 : MM → Prop), (t x = true → ∀ M', Ext M M' → K1 (f x) M') → (t x = false → ∀ M', Ext M M' → K0 M') → g (g0 x) ρ0 M (fun ρ1 M2 => tt ρ1 M2 (fun k M3 => if k = true then te ρ1 M3 K1 noX else K0 M3) noX) noX)
    (hK : ∀ M', Ext M1 M' → M' p = some (.lst ((xs.filter t).map f)) → K M') : lcD stay p ρ0 g tt te (xs.map g0) [] (up M1 p (.lst [])) K := by
  have go : ∀ (rs : List α) (acc : List D) (M : MM), (∀ d ∈ rs, d ∈ xs) → acc.length + rs.length ≤ sizeLine → Ext M1 M → M p = some (.lst acc) → (∀ M', Ext M1 M' → M' p = some (.lst (acc ++ (rs.filter t).map f)) → K M') → lcD stay p ρ0 g tt te (rs.map g0) acc M K := by
    intro rs
    induction rs with
    | nil => intro acc M _ _ e h k; exact ⟨hst M e, h, k M e (by simpa using h)⟩
    | cons d rs ih =>
      intro acc M hm hl e h k
      refine ⟨hst M e, hs d (hm d List.mem_cons_self) M e _ _ (fun ht M' e' => ?_) fun ht M' e' => ?_⟩
      · rw [List.length_cons] at hl
        refine ⟨e' _ _ h, by omega, ih _ _ (fun x hx => hm x (List.mem_cons_of_mem _ hx)) (by rw [List.length_append, List.length_singleton]; omega) (Ext.upd hp (e.trans e')) up_same fun M2 e2 h2 => k M2 e2 ?_⟩
        rw [h2, List.filter_cons, if_pos ht]; simp
      · refine ih _ _ (fun x hx => hm x (List.mem_cons_of_mem _ hx)) (by rw [List.length_cons] at hl; omega) (e.trans e') (e' _ _ h) fun M2 e2 h2 => k M2 e2 ?_
        rw [h2, List.filter_cons, if_neg (by rw [ht]; decide)]
  exact go xs [] _ (fun d h => h) (by simpa using hz) (Ext.new hp) up_same fun M' e h => hK M' e (by simpa using h)
/-! ### rows as they lie -/
theorem items_ext {M M' : MM} (e : Ext M M') {d : D} {ds : List D} (h : itemsOf M d = some ds) : itemsOf M' d = some ds := by
  cases d with
  | ref a =>
    unfold itemsOf at h ⊢
    cases q : M a with
    | none => simp only [q] at h; cases h
    | some o =>
      have q' := e a o q
      simp only [q] at h
      simp only [q']
      exact h
  | _ => exact h
theorem items_ref {M : MM} {p : Addr} {ds : List D} (h : M p = some (.lst ds)) : itemsOf M (.ref p) = some ds := by unfold itemsOf; simp only [h]
theorem tyR_lst {M : MM} {p : Addr} {ds : List D} (h : M p = some (.lst ds)) : tyR M (.ref p) = some "list" := by unfold tyR; simp only [h]
theorem tyR_dct {M : MM} {p : Addr} {o : Obj} {ds : List (D × D)} (h : M p = some (.dct o ds)) : tyR M (.ref p) = some "dict" := by unfold tyR; simp only [h]
theorem walk_items {M : MM} {d : D} {ds : List D} (h : itemsOf M d = some ds) : ∃ st, ∀ M', Ext M M' → walkD M' d = some (ds, st) ∧ st M' := by
  cases d with
  | tup es => cases h; exact ⟨_, fun _ _ => ⟨rfl, trivial⟩⟩
  | rol es => cases h; exact ⟨_, fun _ _ => ⟨rfl, trivial⟩⟩
  | ref a =>
    unfold itemsOf at h
    cases q : M a with
    | none => simp only [q] at h; cases h
    | some o =>
      cases o with
      | lst es =>
        simp only [q] at h
        cases h
        exact ⟨fun M' => M' a = some (.lst ds), fun M' e => ⟨by unfold walkD; simp only [e _ _ q], e _ _ q⟩⟩
      | _ => simp only [q] at h; cases h
  | _ => cases h
theorem walk_dct {M : MM} {a : Addr} {o : Obj} {rows : List (D × D)} (h : M a = some (.dct o rows)) : ∃ st, walkD M (.ref a) = some (rows.map (·.1), st) ∧ (∀ M', M' a = some (.dct o rows) → st M') :=
  ⟨fun M' => M' a = some (.dct o rows), by unfold walkD; simp only [h], fun M' e => e⟩
theorem lenD_lst {M : MM} {p : Addr} {ds : List D} (h : M p = some (.lst ds)) : lenD M (.ref p) = some ds.length := by unfold lenD; simp only [h]
theorem walk_str {M : MM} {z : Str} : walkD M (.str z) = some (signs z, fun _ => True) := rfl
def RV (M : MM) (e : D) (p : Str × Int) : Prop := itemsOf M e = some [.str p.1, .int p.2]
def RMo (M : MM) (e : D) (m : Mono) : Prop := ∃ ds, itemsOf M e = some ds ∧ Paired (RV M) ds m
def RTe (M : MM) (e : D) (t : Mono × Int) : Prop := ∃ dm, itemsOf M e = some [dm, .int t.2] ∧ RMo M dm t.1
def RPo (M : MM) (e : D) (t : Tab) : Prop := ∃ ds, itemsOf M e = some ds ∧ Paired (RTe M) ds t
theorem paired_map {α β : Type} {R : β → α → Prop} (f : α → β) (h : ∀ a, R (f a) a) : ∀ l : List α, Paired R (l.map f) l
  | [] => .nil
  | a :: l => .cons (h a) (paired_map f h l)
theorem rmo_eM (M : MM) (m : Mono) : RMo M (eM m) m := ⟨_, rfl, paired_map eV (fun _ => rfl) m⟩
theorem rpo_eP (M : MM) (t : Tab) : RPo M (eP t) t := ⟨_, rfl, paired_map eT (fun x => ⟨_, rfl, rmo_eM M x.1⟩) t⟩
theorem RMo.ext {M M' : MM} (e : Ext M M') {d : D} {m : Mono} (h : RMo M d m) : RMo M' d m := let ⟨ds, h1, h2⟩ := h; ⟨ds, items_ext e h1, Paired.mapP h2 fun _ _ q => items_ext e q⟩
theorem RTe.ext {M M' : MM} (e : Ext M M') {d : D} {m : Mono × Int} (h : RTe M d m) : RTe M' d m := let ⟨ds, h1, h2⟩ := h; ⟨ds, items_ext e h1, h2.ext e⟩
theorem RPo.ext {M M' : MM} (e : Ext M M') {d : D} {m : Tab} (h : RPo M d m) : RPo M' d m := let ⟨ds, h1, h2⟩ := h; ⟨ds, items_ext e h1, Paired.mapP h2 fun _ _ q => q.ext e⟩
theorem paired_at {α β : Type} {R : α → β → Prop} {xs : List α} {ys : List β} (h : Paired R xs ys) {i : Nat} {x : α} (e : xs[i]? = some x) : ∃ y, ys[i]? = some y ∧ R x y := paired_get h e
structure Sml (t : Tab) : Prop where
  len : t.length ≤ 1000000
  mono : ∀ p ∈ t, p.1.length ≤ 1000000
/-! ### dicts -/
theorem putAll_kvs (t : Tab) : ∀ u : Tab, putAll (kvs u) (kvs t) = kvs (t.foldl (fun acc p => put acc p.1 p.2) u) := by
  induction t with
  | nil => intro u; rfl
  | cons p t ih =>
    intro u
    show putAll (putP (kvs u) (kv p)) (kvs t) = _
    rw [putP_eq (k := kM p.1) (dkey_eM p.1)]
    show putAll (putKD (kvs u) (eM p.1) (kM p.1) (.int p.2)) (kvs t) = _
    rw [put_kvs]
    exact ih _
theorem fold_put : ∀ (t u : Tab), ND (u ++ t) → t.foldl (fun acc p => put acc p.1 p.2) u = u ++ t
  | [], u, _ => by simp
  | p :: t, u, h => by
    have hn : hasM u p.1 = false := by
      cases q : hasM u p.1 with
      | false => rfl
      | true =>
        unfold ND at h
        rw [List.map_append, List.map_cons] at h
        exact absurd rfl ((List.nodup_append.mp h).2.2 p.1 (hasM_iff.mp q) p.1 List.mem_cons_self)
    have e : put u p.1 p.2 = u ++ [p] := by
      unfold put
      rw [if_neg (by rw [hn]; decide)]
    rw [List.foldl_cons, e, fold_put t (u ++ [p]) (by simpa using h)]
    simp
theorem pairsOk_kvs (t : Tab) : PairsOk (kvs t) := ⟨fun p hp => by
  obtain ⟨q, _, e⟩ := List.mem_map.mp hp
  subst e
  exact ⟨kM q.1, dkey_eM q.1, kM_depth q.1⟩, .inr (kvs_tu t)⟩
theorem putAll_nd {t : Tab} (h : ND t) : putAll [] (kvs t) = kvs t := by
  have := putAll_kvs t []
  rw [fold_put t [] (by simpa using h)] at this
  exact this
theorem keys_kvs (t : Tab) : (kvs t).map (·.1) = t.map fun p => eM p.1 := by unfold kvs; rw [List.map_map]; rfl
theorem low {n : Nat} (h : n < 2 ^ 64) : n < 2 ^ 400000 := Nat.lt_trans h (Nat.pow_lt_pow_right (by decide) (by decide))
theorem mul_ok {i j : Int} (h1 : i.natAbs < 2 ^ 400000) (h2 : j.natAbs < 2 ^ 400000) : CMulW i j := by
  have lg : ∀ {z : Int}, z.natAbs < 2 ^ 400000 → z.natAbs.log2 < 400000 := fun {z} h => by
    by_cases q : z.natAbs = 0
    · rw [q]; decide
    · exact (Nat.log2_lt q).mpr h
  have a := lg h1
  have b := lg h2
  unfold CMulW
  omega
end Fg
/-! A4: rising rows, a table's polynomial by its rising keys; values that are compared. -/
namespace Fg
open PySem PySem.Spec L2
open PyProof.Rows hiding St
structure RowOk (ds : List D) : Prop where
  pl : ∀ d ∈ ds, pl d = true
  dat : ∀ d ∈ ds, dat d = true
  dp : ∀ d ∈ ds, dep d ≤ 6
  al : ∀ d ∈ ds, ∀ e ∈ ds, PySem.W.alike (toP d) (toP e) = true
  kd : ∀ d ∈ ds, (∃ s, d = .str s) ∨ ∃ l, d = .tup l
def rins (found : List D) (x : D) : List D := if anyEq found x = true then found else found.take (found.filter fun y => ltD y x).length ++ [x] ++ found.drop (found.filter fun y => ltD y x).length
abbrev SortedD (l : List D) : Prop := l.Pairwise fun x y => ltD x y = true
theorem anyEq_iff {ds : List D} {x : D} (h : ∀ d ∈ ds, pl d = true) (hx : pl x = true) : anyEq ds x = true ↔ x ∈ ds := by
  unfold anyEq
  rw [List.any_eq_true]
  constructor
  · intro ⟨y, hy, e⟩
    have := (eqD_iff y x (h y hy) hx).mp e
    rw [← this]; exact hy
  · intro hm
    exact ⟨x, hm, (eqD_iff x x hx hx).mpr rfl⟩
theorem split_at (x : D) : ∀ {l : List D}, SortedD l → l.take (l.filter fun y => ltD y x).length = (l.filter fun y => ltD y x) ∧ l.drop (l.filter fun y => ltD y x).length = l.filter fun y => !ltD y x
  | [], _ => ⟨rfl, rfl⟩
  | y :: l, h => by
    obtain ⟨h1, h2⟩ := List.pairwise_cons.mp h
    obtain ⟨i1, i2⟩ := split_at x h2
    by_cases q : ltD y x = true
    · rw [List.filter_cons, if_pos q, List.length_cons, List.take_succ_cons, List.drop_succ_cons, i1, i2, List.filter_cons, if_neg (by rw [q]; decide)]
      exact ⟨rfl, rfl⟩
    · have none_ : l.filter (fun z => ltD z x) = [] := List.filter_eq_nil_iff.mpr fun z hz w => q (ltD_trans (h1 z hz) w)
      have all_ : l.filter (fun z => !ltD z x) = l := List.filter_eq_self.mpr fun z hz => by
        have : ¬ ltD z x = true := fun w => q (ltD_trans (h1 z hz) w)
        simpa using this
      rw [List.filter_cons, if_neg q, none_, List.filter_cons, if_pos (by simpa using q), all_]
      exact ⟨rfl, rfl⟩
theorem rins_ok {found : List D} {x : D} (hs : SortedD found) (ok : RowOk (x :: found)) : SortedD (rins found x) ∧ ∀ y, y ∈ rins found x ↔ y = x ∨ y ∈ found := by
  have hp : ∀ d ∈ found, pl d = true := fun d hd => ok.pl d (List.mem_cons_of_mem _ hd)
  have hx := ok.pl x List.mem_cons_self
  unfold rins
  by_cases q : anyEq found x = true
  · rw [if_pos q]
    have hm := (anyEq_iff hp hx).mp q
    exact ⟨hs, fun y => ⟨.inr, fun h => h.elim (fun e => e ▸ hm) id⟩⟩
  · rw [if_neg q]
    have hm : x ∉ found := fun z => q ((anyEq_iff hp hx).mpr z)
    obtain ⟨e1, e2⟩ := split_at x hs
    constructor
    · rw [e1, e2]
      have s1 : SortedD (found.filter fun y => ltD y x) := List.Pairwise.filter _ hs
      have s2 : SortedD (found.filter fun y => !ltD y x) := List.Pairwise.filter _ hs
      have gt : ∀ z ∈ found.filter (fun y => !ltD y x), ltD x z = true := fun z hz => by
        obtain ⟨hz1, hz2⟩ := List.mem_filter.mp hz
        have hz3 : ltD z x = false := by simpa using hz2
        rcases ltD_total hx (hp z hz1) (ok.al x List.mem_cons_self z (List.mem_cons_of_mem _ hz1)) (fun w => hm (w ▸ hz1)) with h | h
        · exact h
        · rw [hz3] at h; cases h
      refine List.pairwise_append.mpr ⟨List.pairwise_append.mpr ⟨s1, List.pairwise_singleton _ _, fun a ha b hb => ?_⟩, s2, fun a ha b hb => ?_⟩
      · rw [List.mem_singleton] at hb
        subst hb
        exact (List.mem_filter.mp ha).2
      · rcases List.mem_append.mp ha with ha | ha
        · exact ltD_trans (List.mem_filter.mp ha).2 (gt b hb)
        · rw [List.mem_singleton] at ha
          subst ha
          exact gt b hb
    · intro y
      have e := List.take_append_drop (found.filter fun y => ltD y x).length found
      have hy : y ∈ found ↔ y ∈ found.take (found.filter fun y => ltD y x).length ∨ y ∈ found.drop (found.filter fun y => ltD y x).length := by
        conv => lhs; rw [← e]
        exact List.mem_append
      rw [List.mem_append, List.mem_append, List.mem_singleton, hy]
      constructor
      · rintro ((h | h) | h)
        · exact .inr (.inl h)
        · exact .inl h
        · exact .inr (.inr h)
      · rintro (h | h | h)
        · exact .inl (.inr h)
        · exact .inl (.inl h)
        · exact .inr h
theorem rins_len (found : List D) (x : D) : (rins found x).length ≤ found.length + 1 := by
  unfold rins
  split
  · omega
  · rw [List.length_append, List.length_append, List.length_take, List.length_drop, List.length_singleton]
    omega
theorem RowOk.sub {ds es : List D} (h : RowOk ds) (s : ∀ d ∈ es, d ∈ ds) : RowOk es := ⟨fun d hd => h.pl d (s d hd), fun d hd => h.dat d (s d hd), fun d hd => h.dp d (s d hd), fun d hd e he => h.al d (s d hd) e (s e he), fun d hd => h.kd d (s d hd)⟩
theorem rowOk_eM (l : List Mono) : RowOk (l.map eM) := by
  refine ⟨fun d hd => ?_, fun d hd => ?_, fun d hd => ?_, fun d hd e he => ?_, fun d hd => ?_⟩ <;> obtain ⟨a, _, rfl⟩ := List.mem_map.mp hd
  · exact pl_eM a
  · exact dat_eM a
  · exact Nat.le_trans (dep_eM a) (by decide)
  · obtain ⟨b, _, rfl⟩ := List.mem_map.mp he
    exact alike_eM a b
  · exact .inr ⟨_, rfl⟩
theorem rowOk_eT (l : Tab) : RowOk (l.map eT) := by
  refine ⟨fun d hd => ?_, fun d hd => ?_, fun d hd => ?_, fun d hd e he => ?_, fun d hd => ?_⟩ <;> obtain ⟨a, _, rfl⟩ := List.mem_map.mp hd
  · exact pl_eT a
  · exact dat_eT a
  · exact Nat.le_trans (dep_eT a) (by decide)
  · obtain ⟨b, _, rfl⟩ := List.mem_map.mp he
    exact alike_eT a b
  · exact .inr ⟨_, rfl⟩
theorem rowOk_str (l : List Str) : RowOk (l.map D.str) := by
  refine ⟨fun d hd => ?_, fun d hd => ?_, fun d hd => ?_, fun d hd e he => ?_, fun d hd => ?_⟩ <;> obtain ⟨a, _, rfl⟩ := List.mem_map.mp hd
  · rfl
  · rfl
  · simp [dep]
  · obtain ⟨b, _, rfl⟩ := List.mem_map.mp he
    rfl
  · exact .inl ⟨_, rfl⟩
/-- rising keys make the polynomial -/
theorem rising_poly {t : Tab} {rs : List D} (ht : ND t) (hs : SortedD rs) (hm : ∀ x, x ∈ rs ↔ x ∈ t.map fun p => eM p.1) : ∃ u : Tab, rs = u.map (fun p => eM p.1) ∧ u.Perm t ∧ Rising u ∧ canon t = nz u := by
  have go : ∀ l : List D, (∀ x ∈ l, ∃ p ∈ t, x = eM p.1) → ∃ u : Tab, l = u.map (fun p => eM p.1) ∧ ∀ p ∈ u, p ∈ t := by
    intro l
    induction l with
    | nil => intro _; exact ⟨[], rfl, fun p h => nomatch h⟩
    | cons x l ih =>
      intro h
      obtain ⟨u, e, hu⟩ := ih fun y hy => h y (List.mem_cons_of_mem _ hy)
      obtain ⟨p, hp, rfl⟩ := h x List.mem_cons_self
      exact ⟨p :: u, by rw [e]; rfl, fun q hq => (List.mem_cons.mp hq).elim (fun z => z ▸ hp) (hu q)⟩
  obtain ⟨u, e, hu⟩ := go rs fun x hx => by
    obtain ⟨p, hp, ep⟩ := List.mem_map.mp ((hm x).mp hx)
    exact ⟨p, hp, ep.symm⟩
  have ru : Rising u := by
    rw [e] at hs
    exact List.pairwise_map.mp hs
  have pu : u.Perm t := (List.perm_ext_iff_of_nodup (nd_nodup (rising_nd ru)) (nd_nodup ht)).mpr fun p => ⟨hu p, fun hp => by
    have h1 : eM p.1 ∈ rs := (hm _).mpr (List.mem_map.mpr ⟨p, hp, rfl⟩)
    rw [e] at h1
    obtain ⟨q, hq, eq⟩ := List.mem_map.mp h1
    have e1 := eM_inj eq
    have l1 := look_mem ht (m := q.1) (c := q.2) (hu q hq)
    have l2 := look_mem ht (m := p.1) (c := p.2) hp
    rw [e1, l2] at l1
    have e2 : q = p := Prod.ext e1 (Option.some.inj l1).symm
    rw [← e2]; exact hq⟩
  refine ⟨u, e, pu, ru, ?_⟩
  exact srt_rising (List.Pairwise.filter _ ru) (pu.filter _)
/-! ### what _law_same looks at -/
mutual
def sv : D → Bool
  | .non => true
  | .bl _ => true
  | .int _ => true
  | .str _ => true
  | .tup ds => decide (ds.length ≤ 1000000) && svs ds
  | .rol _ => false
  | .ty _ => false
  | .ref _ => false
def svs : List D → Bool
  | [] => true
  | d :: ds => sv d && svs ds
end
theorem sv_of {ds : List D} (h : svs ds = true) {d : D} (hd : d ∈ ds) : sv d = true := by
  induction ds with
  | nil => cases hd
  | cons a r ih =>
    rw [svs, Bool.and_eq_true] at h
    rcases List.mem_cons.mp hd with rfl | hd
    · exact h.1
    · exact ih h.2 hd
theorem svs_of {ds : List D} (h : ∀ d ∈ ds, sv d = true) : svs ds = true := by
  induction ds with
  | nil => rfl
  | cons a r ih => rw [svs, h a List.mem_cons_self, ih fun d hd => h d (List.mem_cons_of_mem _ hd)]; rfl
theorem sv_eM {m : Mono} (h : m.length ≤ 1000000) : sv (eM m) = true := by
  unfold eM
  rw [sv, List.length_map, decide_eq_true h, svs_of]; rfl
  intro d hd
  obtain ⟨p, _, rfl⟩ := List.mem_map.mp hd
  rfl
theorem sv_eT {t : Mono × Int} (h : t.1.length ≤ 1000000) : sv (eT t) = true := by
  unfold eT
  rw [sv, svs, sv_eM h]; rfl
theorem sv_eP {t : Tab} (h : Sml t) : sv (eP t) = true := by
  unfold eP
  rw [sv, List.length_map, decide_eq_true h.len, svs_of]; rfl
  intro d hd
  obtain ⟨p, hp, rfl⟩ := List.mem_map.mp hd
  exact sv_eT (h.mono p hp)
end Fg
/-! A5: exponents by names. -/
namespace Fg
open PySem PySem.Spec L2
open PyProof.Rows hiding St
def eS (s : Str) : D := .str s
def kS (s : Str) : NestedKey := .text s
theorem dkey_eS (s : Str) : dkey (eS s) = some (kS s) := rfl
theorem kS_inj {a b : Str} (h : kS a = kS b) : a = b := by
  unfold kS at h
  injection h
theorem eS_inj {a b : Str} (h : eS a = eS b) : a = b := by
  unfold eS at h
  injection h
theorem kS_depth (s : Str) : (kS s).depth ≤ 8 := by simp [kS, NestedKey.depth]
theorem eV_inj {a b : Str × Int} (h : eV a = eV b) : a = b := by
  unfold eV at h
  injection h with h
  injection h with h1 h2
  injection h1 with h1
  injection h2 with h2 _
  injection h2 with h2
  exact Prod.ext h1 h2
theorem pl_eS (s : Str) : pl (eS s) = true := rfl
theorem pl_eV (p : Str × Int) : pl (eV p) = true := rfl
theorem dat_eV (p : Str × Int) : dat (eV p) = true := rfl
theorem alike_eS (a b : Str) : PySem.W.alike (toP (eS a)) (toP (eS b)) = true := rfl
/-! ### a dict's rows -/
def kvS (t : Str × Int) : D × D := (eS t.1, .int t.2)
def kvsS (t : Mono) : List (D × D) := t.map kvS
theorem kvs_tuS (t : Mono) : ∀ p ∈ kvsS t, isAt p.1 = true := fun p hp => by
  obtain ⟨q, _, e⟩ := List.mem_map.mp hp
  subst e; rfl
theorem kOkS (t : Mono) (m : Str) : KOk (kvsS t) (eS m) (kS m) := ⟨dkey_eS m, kS_depth m, .inl ⟨rfl, kvs_tuS t⟩⟩
theorem dk_iffS (p : Str × Int) (m : Str) : (dkey (kvS p).1 = some (kS m)) ↔ p.1 = m := by
  show dkey (eS p.1) = some (kS m) ↔ p.1 = m
  rw [dkey_eS]
  exact ⟨fun h => kS_inj (Option.some.inj h), fun h => by rw [h]⟩
/-! ### tables -/
def lookS (t : Mono) (m : Str) : Option Int := (t.find? fun p => decide (p.1 = m)).map (·.2)
def valS (t : Mono) (m : Str) : Int := (lookS t m).getD 0
def hasMS (t : Mono) (m : Str) : Bool := t.any fun p => decide (p.1 = m)
def putS (t : Mono) (m : Str) (c : Int) : Mono := if hasMS t m = true then t.map (fun p => if p.1 = m then (p.1, c) else p) else t ++ [(m, c)]
abbrev NDS (t : Mono) : Prop := (t.map (·.1)).Nodup
theorem look_kvsS (m : Str) : ∀ t : Mono, lookK (kvsS t) (kS m) = (lookS t m).map D.int
  | [] => rfl
  | p :: t => by
    have ih := look_kvsS m t
    unfold lookK lookS kvsS at ih ⊢
    rw [List.map_cons, List.find?_cons, List.find?_cons]
    by_cases e : p.1 = m
    · rw [decide_eq_true ((dk_iffS p m).mpr e), decide_eq_true e]; rfl
    · rw [decide_eq_false (fun z => e ((dk_iffS p m).mp z)), decide_eq_false e]; exact ih
theorem has_kvsS (m : Str) (t : Mono) : hasK (kvsS t) (kS m) = hasMS t m := by
  unfold hasK hasMS kvsS
  rw [List.any_map]
  congr 1
  funext p
  show decide (dkey (kvS p).1 = some (kS m)) = decide (p.1 = m)
  by_cases e : p.1 = m
  · rw [decide_eq_true ((dk_iffS p m).mpr e), decide_eq_true e]
  · rw [decide_eq_false (fun z => e ((dk_iffS p m).mp z)), decide_eq_false e]
theorem put_kvsS (t : Mono) (m : Str) (c : Int) : putKD (kvsS t) (eS m) (kS m) (.int c) = kvsS (putS t m c) := by
  unfold putKD putS
  rw [has_kvsS]
  split
  · unfold kvsS
    rw [List.map_map, List.map_map]
    refine List.map_congr_left fun p _ => ?_
    show (if dkey (kvS p).1 = some (kS m) then ((kvS p).1, D.int c) else kvS p) = kvS (if p.1 = m then (p.1, c) else p)
    by_cases e : p.1 = m
    · rw [if_pos ((dk_iffS p m).mpr e), if_pos e]; rfl
    · rw [if_neg (fun z => e ((dk_iffS p m).mp z)), if_neg e]
  · unfold kvsS
    rw [List.map_append]; rfl
theorem hasM_iffS {t : Mono} {m : Str} : hasMS t m = true ↔ m ∈ t.map (·.1) := by
  unfold hasMS
  rw [List.any_eq_true, List.mem_map]
  exact ⟨fun ⟨p, h, e⟩ => ⟨p, h, of_decide_eq_true e⟩, fun ⟨p, h, e⟩ => ⟨p, h, decide_eq_true e⟩⟩
theorem put_keysS (t : Mono) (m : Str) (c : Int) : (putS t m c).map (·.1) = if hasMS t m = true then t.map (·.1) else t.map (·.1) ++ [m] := by
  unfold putS
  split
  · rw [List.map_map]
    refine List.map_congr_left fun p _ => ?_
    show (if p.1 = m then (p.1, c) else p).1 = p.1
    split <;> rfl
  · rw [List.map_append]; rfl
theorem put_ndS {t : Mono} {m : Str} {c : Int} (h : NDS t) : NDS (putS t m c) := by
  unfold NDS
  rw [put_keysS]
  split
  · exact h
  · rename_i hn
    refine List.nodup_append.mpr ⟨h, by simp, fun a ha b hb => ?_⟩
    rw [List.mem_singleton] at hb
    subst hb
    intro e
    subst e
    exact hn (hasM_iffS.mpr ha)
theorem put_lenS (t : Mono) (m : Str) (c : Int) : (putS t m c).length ≤ t.length + 1 := by
  unfold putS
  split
  · rw [List.length_map]; omega
  · rw [List.length_append]; simp
theorem put_len_geS (t : Mono) (m : Str) (c : Int) : t.length ≤ (putS t m c).length := by
  unfold putS
  split
  · rw [List.length_map]; omega
  · rw [List.length_append]; simp
/-! ### a table as a functional -/
def smS (t : Mono) (f : Str → Int) : Int := (t.map fun p => p.2 * f p.1).sum
theorem sm_nilS (f : Str → Int) : smS [] f = 0 := rfl
theorem sm_consS (p : Str × Int) (t : Mono) (f : Str → Int) : smS (p :: t) f = p.2 * f p.1 + smS t f := by unfold smS; rw [List.map_cons, List.sum_cons]
theorem sm_appendS (t u : Mono) (f : Str → Int) : smS (t ++ u) f = smS t f + smS u f := by unfold smS; rw [List.map_append, List.sum_append_int]
def dlS (m : Str) : Str → Int := fun x => if x = m then 1 else 0
theorem look_noneS {t : Mono} {m : Str} : lookS t m = none ↔ hasMS t m = false := by
  unfold lookS hasMS
  rw [Option.map_eq_none_iff, List.find?_eq_none, List.any_eq_false]
theorem look_someS {t : Mono} {m : Str} {c : Int} (h : lookS t m = some c) : (m, c) ∈ t := by
  unfold lookS at h
  obtain ⟨p, hp, e⟩ := Option.map_eq_some_iff.mp h
  have h1 := List.mem_of_find?_eq_some hp
  have h2 : p.1 = m := by simpa using List.find?_some hp
  obtain ⟨p1, p2⟩ := p
  dsimp only at e h2
  subst e h2
  exact h1
theorem look_memS {t : Mono} (h : NDS t) {m : Str} {c : Int} (hm : (m, c) ∈ t) : lookS t m = some c := by
  induction t with
  | nil => cases hm
  | cons p t ih =>
    unfold NDS at h
    rw [List.map_cons, List.nodup_cons] at h
    unfold lookS
    rw [List.find?_cons]
    rcases List.mem_cons.mp hm with e | hm
    · subst e
      rw [decide_eq_true rfl]; rfl
    · have hne : p.1 ≠ m := fun z => h.1 (List.mem_map.mpr ⟨(m, c), hm, z.symm⟩)
      rw [decide_eq_false hne]
      exact ih h.2 hm
theorem sm_zeroS {t : Mono} {m : Str} (h : m ∉ t.map (·.1)) : smS t (dlS m) = 0 := by
  induction t with
  | nil => rfl
  | cons p t ih =>
    rw [List.map_cons, List.mem_cons, not_or] at h
    rw [sm_consS, ih h.2]
    unfold dlS
    rw [if_neg (Ne.symm h.1)]; simp
theorem val_smS {t : Mono} (h : NDS t) (m : Str) : valS t m = smS t (dlS m) := by
  induction t with
  | nil => rfl
  | cons p t ih =>
    unfold NDS at h
    rw [List.map_cons, List.nodup_cons] at h
    rw [sm_consS]
    unfold valS lookS
    rw [List.find?_cons]
    by_cases e : p.1 = m
    · rw [decide_eq_true e, sm_zeroS (by rw [← e]; exact h.1)]
      unfold dlS
      rw [if_pos e]; simp
    · rw [decide_eq_false e, ← ih h.2]
      unfold dlS
      rw [if_neg e]
      show valS t m = p.2 * 0 + valS t m
      simp
theorem put_smS {t : Mono} (h : NDS t) (m : Str) (c : Int) (f : Str → Int) : smS (putS t m c) f = smS t f + (c - valS t m) * f m := by
  unfold putS
  by_cases hh : hasMS t m = true
  · rw [if_pos hh]
    induction t with
    | nil => cases hh
    | cons p t ih =>
      unfold NDS at h
      rw [List.map_cons, List.nodup_cons] at h
      rw [List.map_cons, sm_consS, sm_consS]
      by_cases e : p.1 = m
      · have hn : hasMS t m = false := by
          cases q : hasMS t m with
          | false => rfl
          | true => rw [hasM_iffS, ← e] at q; exact absurd q h.1
        have id_ : t.map (fun p => if p.1 = m then (p.1, c) else p) = t := by
          have : ∀ q ∈ t, (fun p : Str × Int => if p.1 = m then (p.1, c) else p) q = id q := fun q hq => by
            have hne : q.1 ≠ m := fun z => h.1 (List.mem_map.mpr ⟨q, hq, z.trans e.symm⟩)
            show (if q.1 = m then (q.1, c) else q) = q
            rw [if_neg hne]
          rw [List.map_congr_left this, List.map_id]
        rw [id_, if_pos e]
        have ev : valS (p :: t) m = p.2 := by
          unfold valS lookS
          rw [List.find?_cons, decide_eq_true e]; rfl
        rw [ev]
        dsimp only
        rw [e, Int.sub_mul]; omega
      · have hn : hasMS t m = true := by
          rw [hasM_iffS, List.map_cons, List.mem_cons] at hh
          exact hasM_iffS.mpr (hh.resolve_left (Ne.symm e))
        rw [if_neg e, ih h.2 hn]
        have ev : valS (p :: t) m = valS t m := by
          unfold valS lookS
          rw [List.find?_cons, decide_eq_false e]
        rw [ev]; omega
  · rw [if_neg hh, sm_appendS, sm_consS, sm_nilS]
    have ev : valS t m = 0 := by
      unfold valS
      rw [look_noneS.mpr (by simpa using hh)]; rfl
    rw [ev]
    simp
/-! ### the nonzero ones, in their order -/
def nzS (t : Mono) : Mono := t.filter fun p => decide (p.2 ≠ 0)
theorem nz_smS (t : Mono) (f : Str → Int) : smS (nzS t) f = smS t f := by
  induction t with
  | nil => rfl
  | cons p t ih =>
    unfold nzS
    rw [List.filter_cons]
    split
    · rw [sm_consS, sm_consS]; exact congrArg _ ih
    · rename_i h
      have : p.2 = 0 := by simpa using h
      rw [sm_consS, this, Int.zero_mul, Int.zero_add]; exact ih
theorem perm_smS {t u : Mono} (h : t.Perm u) (f : Str → Int) : smS t f = smS u f := by
  induction h with
  | nil => rfl
  | cons p _ ih => rw [sm_consS, sm_consS, ih]
  | swap p q t => rw [sm_consS, sm_consS, sm_consS, sm_consS]; omega
  | trans _ _ a b => exact a.trans b
theorem nz_ndS {t : Mono} (h : NDS t) : NDS (nzS t) := (h.sublist ((List.filter_sublist).map _))
theorem nd_nodupS {t : Mono} (h : NDS t) : t.Nodup := by
  induction t with
  | nil => exact List.nodup_nil
  | cons p t ih =>
    unfold NDS at h
    rw [List.map_cons, List.nodup_cons] at h
    exact List.nodup_cons.mpr ⟨fun m => h.1 (List.mem_map.mpr ⟨p, m, rfl⟩), ih h.2⟩
theorem mem_nzS {t : Mono} (h : NDS t) {p : Str × Int} : p ∈ nzS t ↔ valS t p.1 = p.2 ∧ p.2 ≠ 0 := by
  unfold nzS
  rw [List.mem_filter]
  constructor
  · intro ⟨h1, h2⟩
    refine ⟨?_, by simpa using h2⟩
    unfold valS
    rw [look_memS h (c := p.2) h1]; rfl
  · intro ⟨h1, h2⟩
    refine ⟨?_, by simpa using h2⟩
    unfold valS at h1
    cases q : lookS t p.1 with
    | none => rw [q] at h1; exact absurd h1.symm h2
    | some c =>
      rw [q] at h1
      have e : c = p.2 := h1
      rw [e] at q
      exact look_someS q
/-- two tables with the same values -/
def EqvS (t u : Mono) : Prop := ∀ f, smS t f = smS u f
theorem nz_permS {t u : Mono} (ht : NDS t) (hu : NDS u) (h : EqvS t u) : (nzS t).Perm (nzS u) := by
  refine (List.perm_ext_iff_of_nodup (nd_nodupS (nz_ndS ht)) (nd_nodupS (nz_ndS hu))).mpr fun p => ?_
  rw [mem_nzS ht, mem_nzS hu, val_smS ht, val_smS hu, h]
def mltS (a b : Str) : Bool := ltD (eS a) (eS b)
theorem mlt_irreflS (a : Str) : mltS a a = false := ltD_irrefl _
theorem mlt_transS {a b c : Str} (h1 : mltS a b = true) (h2 : mltS b c = true) : mltS a c = true := ltD_trans h1 h2
theorem mlt_asymS {a b : Str} (h : mltS a b = true) : mltS b a = false := ltD_asym h
theorem mlt_totalS {a b : Str} (h : a ≠ b) : mltS a b = true ∨ mltS b a = true := ltD_total (pl_eS a) (pl_eS b) (alike_eS a b) fun z => h (eS_inj z)
theorem mlt_neS {a b : Str} (h : mltS a b = true) : a ≠ b := fun z => by rw [z, mlt_irreflS] at h; cases h
theorem tk_eV (t : Str × Int) : tk (eV t) = .inl 1 :: (tk (eS t.1) ++ [.inl 1, .inl t.2, .inl 0]) := by
  simp only [tk, eS, eV, toP, toPs, PySem.W.keyToks, PySem.W.keyToksAll, List.cons_append, List.nil_append]
theorem eV_lt {a b : Str × Int} (h : a.1 ≠ b.1) : ltD (eV a) (eV b) = mltS a.1 b.1 := by
  show PyProof.Rows.lexLt PyProof.Rows.itemOrd (tk (eV a)) (tk (eV b)) = _
  rw [tk_eV, tk_eV, PyProof.Rows.lex_self]
  exact toks_one (pl_eS _) (pl_eS _) (alike_eS _ _) (fun z => h (eS_inj z)) _ _
/-! ### sorted terms -/
def leTS (x y : Str × Int) : Bool := leD (eV x) (eV y)
theorem leT_totalS : ∀ a b : Str × Int, (leTS a b || leTS b a) = true := fun a b => by
  show (!ltD (eV b) (eV a) || !ltD (eV a) (eV b)) = true
  cases q : ltD (eV a) (eV b) with
  | false => simp
  | true => rw [ltD_asym q]; rfl
theorem leT_transS : ∀ a b c : Str × Int, leTS a b = true → leTS b c = true → leTS a c = true := fun a b c h1 h2 => (PySem.W.sortLe_total (PyProof.Rows.listOrd PyProof.Rows.itemOrd) false fun t : Str × Int => tk (eV t)).trans a b c h1 h2
theorem leT_antiS {a b : Str × Int} (h1 : leTS a b = true) (h2 : leTS b a = true) : a = b := by
  by_cases hne : eV a = eV b
  · exact eV_inj hne
  · have h1' : ltD (eV b) (eV a) = false := by simpa [leTS, leD_eq] using h1
    have h2' : ltD (eV a) (eV b) = false := by simpa [leTS, leD_eq] using h2
    rcases ltD_total (pl_eV a) (pl_eV b) (alike_eV a b) hne with h | h
    · rw [h2'] at h; cases h
    · rw [h1'] at h; cases h
def srtS (t : Mono) : Mono := t.mergeSort leTS
theorem srt_mapS (t : Mono) : (t.map eV).mergeSort leD = (srtS t).map eV := by
  unfold srtS
  exact (List.map_mergeSort (r := leTS) (s := leD) (f := eV) (l := t) fun a _ b _ => rfl).symm
theorem srt_permS (t : Mono) : (srtS t).Perm t := List.mergeSort_perm _ _
theorem srt_sortedS (t : Mono) : (srtS t).Pairwise (fun x y => leTS x y = true) := List.pairwise_mergeSort (fun a b c => leT_transS a b c) leT_totalS t
theorem srt_eqS {t u : Mono} (h : t.Perm u) : srtS t = srtS u := List.Perm.eq_of_pairwise (le := fun x y => leTS x y = true) (fun a b _ _ h1 h2 => leT_antiS h1 h2) (srt_sortedS t) (srt_sortedS u) (((srt_permS t).trans h).trans (srt_permS u).symm)
/-- rising by monomials -/
abbrev RisingS (t : Mono) : Prop := t.Pairwise fun x y => mltS x.1 y.1 = true
theorem rising_leS {x y : Str × Int} (h : mltS x.1 y.1 = true) : leTS x y = true := by
  show (!ltD (eV y) (eV x)) = true
  rw [eV_lt (Ne.symm (mlt_neS h)), mlt_asymS h]; rfl
theorem srt_risingS {t u : Mono} (h : RisingS u) (p : u.Perm t) : srtS t = u := List.Perm.eq_of_pairwise (le := fun x y => leTS x y = true) (fun a b _ _ h1 h2 => leT_antiS h1 h2) (srt_sortedS t) (h.imp rising_leS) ((srt_permS t).trans p.symm)
theorem rising_ndS {t : Mono} (h : RisingS t) : NDS t := by
  unfold NDS
  exact List.Pairwise.map _ (fun x y q => mlt_neS q) h
theorem rising_srtS {t : Mono} (h : NDS t) : RisingS (srtS t) := by
  have s := srt_sortedS t
  have d : ((srtS t).map (·.1)).Nodup := (List.Perm.nodup_iff ((srt_permS t).map _)).mpr h
  have d' : (srtS t).Pairwise fun x y => x.1 ≠ y.1 := List.pairwise_map.mp d
  exact (s.and d').imp fun {x y} ⟨h1, h2⟩ => by
    have h1' : ltD (eV y) (eV x) = false := by simpa [leTS, leD_eq] using h1
    rw [eV_lt (Ne.symm h2)] at h1'
    rcases mlt_totalS h2 with h | h
    · exact h
    · rw [h1'] at h; cases h
/-- the polynomial of a table -/
def canonS (t : Mono) : Mono := srtS (nzS t)
theorem canon_eqS {t u : Mono} (ht : NDS t) (hu : NDS u) (h : EqvS t u) : canonS t = canonS u := srt_eqS (nz_permS ht hu h)
theorem canon_ndS {t : Mono} (h : NDS t) : NDS (canonS t) := rising_ndS (rising_srtS (nz_ndS h))
theorem canon_smS (t : Mono) (f : Str → Int) : smS (canonS t) f = smS t f := (perm_smS (srt_permS _) f).trans (nz_smS t f)
theorem canon_lenS (t : Mono) : (canonS t).length = (nzS t).length := (srt_permS _).length_eq
theorem nz_lenS (t : Mono) : (nzS t).length ≤ t.length := List.length_filter_le _ _
theorem canon_memS {t : Mono} {p : Str × Int} : p ∈ canonS t ↔ p ∈ t ∧ p.2 ≠ 0 := by
  unfold canonS
  rw [(srt_permS _).mem_iff, nzS, List.mem_filter]
  simp
theorem canon_risingS {t : Mono} (h : NDS t) : RisingS (canonS t) := rising_srtS (nz_ndS h)
theorem canon_selfS {t : Mono} (h : RisingS t) (z : ∀ p ∈ t, p.2 ≠ 0) : canonS t = t := by
  have e : nzS t = t := List.filter_eq_self.mpr fun p hp => by simpa using z p hp
  unfold canonS
  rw [e]
  exact srt_risingS h (List.Perm.refl _)
theorem sortOk_eV (t : Mono) : SortOk (t.map eV) := by
  refine ⟨dats_map eV dat_eV t, fun d hd e he => ?_, .inl fun d hd => ?_, Nat.le_trans (deps_map eV 1 dep_eV t) (by decide)⟩
  · obtain ⟨a, _, rfl⟩ := List.mem_map.mp hd
    obtain ⟨b, _, rfl⟩ := List.mem_map.mp he
    exact alike_eV a b
  · obtain ⟨a, _, rfl⟩ := List.mem_map.mp hd
    exact ⟨_, _, rfl⟩
end Fg
/-! J1: products of monomials, of tables. -/
namespace Fg
open PySem PySem.Spec L2
open PyProof.Rows hiding St
/-- names rising, exponents from 1 on -/
structure Good (m : Mono) : Prop where
  up : RisingS m
  po : ∀ x ∈ m, 1 ≤ x.2
theorem good_nil : Good [] := ⟨List.Pairwise.nil, fun _ h => nomatch h⟩
theorem Good.nd {m : Mono} (h : Good m) : NDS m := rising_ndS h.up
theorem Good.self {m : Mono} (h : Good m) : canonS m = m := canon_selfS h.up fun p hp => by have := h.po p hp; omega
theorem good_eq {a b : Mono} (ha : Good a) (hb : Good b) (h : ∀ f, smS a f = smS b f) : a = b := by
  rw [← ha.self, ← hb.self]
  exact canon_eqS ha.nd hb.nd h
def mrg (a b : Mono) : Mono := b.foldl (fun acc p => putS acc p.1 (valS acc p.1 + p.2)) a
theorem mrg_nd : ∀ {b a : Mono}, NDS a → NDS (mrg a b)
  | [], _, h => h
  | p :: b, a, h => mrg_nd (b := b) (put_ndS h)
theorem mrg_sm : ∀ {b a : Mono}, NDS a → ∀ f, smS (mrg a b) f = smS a f + smS b f
  | [], a, _, f => by show smS a f = _; rw [sm_nilS]; omega
  | p :: b, a, h, f => by
    show smS (mrg (putS a p.1 (valS a p.1 + p.2)) b) f = _
    rw [mrg_sm (put_ndS h), put_smS h, sm_consS]
    have : (valS a p.1 + p.2 - valS a p.1) = p.2 := by omega
    rw [this]; omega
theorem sm_pos {m : Mono} (h : ∀ x ∈ m, 1 ≤ x.2) (s : Str) : 0 ≤ smS m (dlS s) := by
  induction m with
  | nil => rw [sm_nilS]; omega
  | cons p m ih =>
    rw [sm_consS]
    have h1 := ih fun x hx => h x (List.mem_cons_of_mem _ hx)
    have h2 := h p List.mem_cons_self
    unfold dlS at h1 ⊢
    split
    · omega
    · simp; exact h1
/-- the product of two monomials -/
def J (a b : Mono) : Mono := canonS (mrg a b)
theorem J_sm {a b : Mono} (ha : Good a) (f : Str → Int) : smS (J a b) f = smS a f + smS b f := by
  unfold J
  rw [canon_smS, mrg_sm ha.nd]
theorem good_canon {m : Mono} (h : NDS m) (hp : ∀ s, 0 ≤ smS m (dlS s)) : Good (canonS m) := ⟨canon_risingS h, fun x hx => by
  obtain ⟨h1, h2⟩ := canon_memS.mp hx
  have := hp x.1
  rw [← val_smS h] at this
  unfold valS at this
  rw [look_memS h (c := x.2) h1] at this
  simp at this
  omega⟩
theorem J_good {a b : Mono} (ha : Good a) (hb : Good b) : Good (J a b) := good_canon (mrg_nd ha.nd) fun s => by
  rw [mrg_sm ha.nd]
  have := sm_pos ha.po s
  have := sm_pos hb.po s
  omega
theorem J_comm {a b : Mono} (ha : Good a) (hb : Good b) : J a b = J b a := good_eq (J_good ha hb) (J_good hb ha) fun f => by rw [J_sm ha, J_sm hb]; omega
theorem J_assoc {a b c : Mono} (ha : Good a) (hb : Good b) (hc : Good c) : J (J a b) c = J a (J b c) := good_eq (J_good (J_good ha hb) hc) (J_good ha (J_good hb hc)) fun f => by rw [J_sm (J_good ha hb), J_sm ha, J_sm ha, J_sm hb]; omega
theorem J_nil {a : Mono} (ha : Good a) : J a [] = a := good_eq (J_good ha good_nil) ha fun f => by rw [J_sm ha, sm_nilS]; omega
theorem J_nil' {a : Mono} (ha : Good a) : J [] a = a := by rw [J_comm good_nil ha, J_nil ha]
theorem put_lenS' (a : Mono) (s : Str) (c : Int) : (putS a s c).length ≤ a.length + 1 := put_lenS a s c
theorem mrg_len : ∀ (b a : Mono), (mrg a b).length ≤ a.length + b.length
  | [], a => by show a.length ≤ _; omega
  | p :: b, a => by
    show (mrg (putS a p.1 (valS a p.1 + p.2)) b).length ≤ _
    have h1 := mrg_len b (putS a p.1 (valS a p.1 + p.2))
    have h2 := put_lenS a p.1 (valS a p.1 + p.2)
    rw [List.length_cons]; omega
theorem canonS_le (m : Mono) : (canonS m).length ≤ m.length := by
  rw [canon_lenS]
  exact nz_lenS m
theorem J_len (a b : Mono) : (J a b).length ≤ a.length + b.length := Nat.le_trans (canonS_le _) (mrg_len b a)
/-! ### products of tables -/
def Gk (t : Tab) : Prop := ∀ x ∈ t, Good x.1
def mulT (t u : Tab) : Tab := (t.map fun x => u.map fun y => (J x.1 y.1, x.2 * y.2)).flatten
theorem sm_flat (l : List Tab) (f : Mono → Int) : sm l.flatten f = (l.map fun t => sm t f).sum := by
  induction l with
  | nil => rfl
  | cons t l ih => rw [List.flatten_cons, sm_append, ih, List.map_cons, List.sum_cons]
theorem sm_row (c : Int) (a : Mono) (f : Mono → Int) : ∀ u : Tab, sm (u.map fun y => (J a y.1, c * y.2)) f = c * sm u fun b => f (J a b)
  | [] => by show (0 : Int) = c * 0; simp
  | y :: u => by
    rw [List.map_cons, sm_cons, sm_cons, sm_row c a f u, Int.mul_add, Int.mul_assoc]
theorem mul_sm (t u : Tab) (f : Mono → Int) : sm (mulT t u) f = sm t fun a => sm u fun b => f (J a b) := by
  unfold mulT
  rw [sm_flat, List.map_map]
  unfold sm
  congr 1
  refine List.map_congr_left fun x _ => ?_
  exact sm_row x.2 x.1 f u
theorem sm_congr {t : Tab} {f g : Mono → Int} (h : ∀ x ∈ t, f x.1 = g x.1) : sm t f = sm t g := by
  unfold sm
  congr 1
  exact List.map_congr_left fun x hx => by rw [h x hx]
theorem sm_add (t : Tab) (f g : Mono → Int) : sm t (fun m => f m + g m) = sm t f + sm t g := by
  induction t with
  | nil => rfl
  | cons x t ih => rw [sm_cons, sm_cons, sm_cons, ih, Int.mul_add]; omega
theorem sm_mul (t : Tab) (c : Int) (f : Mono → Int) : sm t (fun m => c * f m) = c * sm t f := by
  induction t with
  | nil => show (0 : Int) = c * 0; simp
  | cons x t ih => rw [sm_cons, sm_cons, ih, Int.mul_add, ← Int.mul_assoc, ← Int.mul_assoc, Int.mul_comm x.2 c]
theorem sm_swap (t u : Tab) (g : Mono → Mono → Int) : sm t (fun a => sm u fun b => g a b) = sm u fun b => sm t fun a => g a b := by
  induction t with
  | nil =>
    rw [sm_nil]
    have : (sm u fun b => sm [] fun a => g a b) = sm u fun _ => 0 := rfl
    rw [this]
    clear this
    induction u with
    | nil => rfl
    | cons y u ih => rw [sm_cons, ← ih]; simp
  | cons x t ih =>
    rw [sm_cons, ih, ← sm_mul, ← sm_add]
    exact sm_congr fun y _ => by rw [sm_cons]
theorem mem_mul {t u : Tab} {z : Mono × Int} (h : z ∈ mulT t u) : ∃ x ∈ t, ∃ y ∈ u, z = (J x.1 y.1, x.2 * y.2) := by
  obtain ⟨r, hr, hz⟩ := List.mem_flatten.mp h
  obtain ⟨x, hx, rfl⟩ := List.mem_map.mp hr
  obtain ⟨y, hy, rfl⟩ := List.mem_map.mp hz
  exact ⟨x, hx, y, hy, rfl⟩
theorem mul_gk {t u : Tab} (ht : Gk t) (hu : Gk u) : Gk (mulT t u) := fun z hz => by
  obtain ⟨x, hx, y, hy, rfl⟩ := mem_mul hz
  exact J_good (ht x hx) (hu y hy)
theorem Eqv.refl (t : Tab) : Eqv t t := fun _ => rfl
theorem Eqv.symm {t u : Tab} (h : Eqv t u) : Eqv u t := fun f => (h f).symm
theorem Eqv.trans {t u v : Tab} (h : Eqv t u) (g : Eqv u v) : Eqv t v := fun f => (h f).trans (g f)
theorem mul_eqv {t t' u u' : Tab} (h : Eqv t t') (g : Eqv u u') : Eqv (mulT t u) (mulT t' u') := fun f => by
  rw [mul_sm, mul_sm, h]
  congr 1
  funext a
  exact g _
theorem mul_comm {t u : Tab} (ht : Gk t) (hu : Gk u) : Eqv (mulT t u) (mulT u t) := fun f => by
  rw [mul_sm, mul_sm, sm_swap]
  exact sm_congr fun y hy => sm_congr fun x hx => by rw [J_comm (ht x hx) (hu y hy)]
theorem mul_assoc {t u v : Tab} (ht : Gk t) (hu : Gk u) (hv : Gk v) : Eqv (mulT (mulT t u) v) (mulT t (mulT u v)) := fun f => by
  rw [mul_sm, mul_sm, mul_sm]
  refine sm_congr fun x hx => ?_
  rw [mul_sm]
  exact sm_congr fun y hy => sm_congr fun z hz => by rw [J_assoc (ht x hx) (hu y hy) (hv z hz)]
def oneT : Tab := [([], 1)]
theorem one_gk : Gk oneT := fun x hx => by
  rw [oneT, List.mem_singleton] at hx
  subst hx
  exact good_nil
theorem mul_one {t : Tab} (ht : Gk t) : Eqv (mulT t oneT) t := fun f => by
  rw [mul_sm]
  refine sm_congr fun x hx => ?_
  unfold oneT
  rw [sm_cons, sm_nil, J_nil (ht x hx)]
  simp
theorem one_mul {t : Tab} (ht : Gk t) : Eqv (mulT oneT t) t := (mul_comm one_gk ht).trans (mul_one ht)
theorem mul_app {t u v : Tab} : Eqv (mulT (t ++ u) v) (mulT t v ++ mulT u v) := fun f => by rw [mul_sm, sm_append, sm_append, mul_sm, mul_sm]
def pwT (t : Tab) : Nat → Tab
  | 0 => oneT
  | k + 1 => mulT (pwT t k) t
theorem pw_gk {t : Tab} (ht : Gk t) : ∀ k, Gk (pwT t k)
  | 0 => one_gk
  | k + 1 => mul_gk (pw_gk ht k) ht
theorem pw_add {t : Tab} (ht : Gk t) (i : Nat) : ∀ j, Eqv (mulT (pwT t i) (pwT t j)) (pwT t (i + j))
  | 0 => mul_one (pw_gk ht i)
  | j + 1 => (mul_assoc (pw_gk ht i) (pw_gk ht j) ht).symm.trans (mul_eqv (pw_add ht i j) (Eqv.refl t))
theorem pw_eqv {t u : Tab} (h : Eqv t u) : ∀ k, Eqv (pwT t k) (pwT u k)
  | 0 => Eqv.refl _
  | k + 1 => mul_eqv (pw_eqv h k) h
theorem pw_one {t : Tab} (ht : Gk t) : Eqv (pwT t 1) t := one_mul ht
/-! ### how great -/
def l1 (t : Tab) : Nat := (t.map fun x => x.2.natAbs).sum
theorem l1_append (t u : Tab) : l1 (t ++ u) = l1 t + l1 u := by unfold l1; rw [List.map_append, List.sum_append]
theorem l1_cons (x : Mono × Int) (t : Tab) : l1 (x :: t) = x.2.natAbs + l1 t := by unfold l1; rw [List.map_cons, List.sum_cons]
theorem l1_row (x : Mono × Int) : ∀ u : Tab, l1 (u.map fun y => (J x.1 y.1, x.2 * y.2)) = x.2.natAbs * l1 u
  | [] => by simp [l1]
  | y :: u => by
    rw [List.map_cons, l1_cons, l1_cons, l1_row x u, Nat.mul_add, Int.natAbs_mul]
theorem l1_mul : ∀ (t u : Tab), l1 (mulT t u) = l1 t * l1 u
  | [], u => by simp [mulT, l1]
  | x :: t, u => by
    have e : mulT (x :: t) u = (u.map fun y => (J x.1 y.1, x.2 * y.2)) ++ mulT t u := by unfold mulT; rw [List.map_cons, List.flatten_cons]
    rw [e, l1_append, l1_row, l1_mul t u, l1_cons, Nat.add_mul]
theorem l1_one : l1 oneT = 1 := rfl
theorem l1_pw (t : Tab) : ∀ k, l1 (pwT t k) = l1 t ^ k
  | 0 => rfl
  | k + 1 => by rw [pwT, l1_mul, l1_pw t k, Nat.pow_succ]
theorem l1_sm (t : Tab) (m : Mono) : (sm t (dl m)).natAbs ≤ l1 t := by
  induction t with
  | nil => simp [sm_nil]
  | cons x t ih =>
    rw [sm_cons, l1_cons]
    unfold Fg.dl
    split
    · rename_i e
      rw [Int.mul_one]
      unfold Fg.dl at ih
      omega
    · rw [Int.mul_zero, Int.zero_add]
      unfold Fg.dl at ih
      omega
/-- the terms of a table lie among another's, its coefficients are not greater together -/
theorem eqv_mem {t u : Tab} (ht : ND t) (h : Eqv t u) {x : Mono × Int} (hx : x ∈ t) (hz : x.2 ≠ 0) : x.1 ∈ u.map (·.1) := by
  by_cases q : x.1 ∈ u.map (·.1)
  · exact q
  · have e := sm_zero q
    rw [← h, ← val_sm ht] at e
    unfold val at e
    rw [look_mem ht (c := x.2) hx] at e
    exact absurd e hz
theorem l1_eqv {u : Tab} : ∀ {t : Tab}, ND t → Eqv t u → l1 t ≤ l1 u := by
  -- what u has at a monomial is at most what it has together there
  intro t ht h
  have key : ∀ (l : List Mono), l.Nodup → ∀ v : Tab, (l.map fun m => (sm v (dl m)).natAbs).sum ≤ l1 v := by
    intro l hl v
    induction v with
    | nil =>
      have : (l.map fun m => (sm [] (dl m)).natAbs).sum = 0 := by
        clear hl
        induction l with
        | nil => rfl
        | cons m l ih => rw [List.map_cons, List.sum_cons, ih, sm_nil]; rfl
      omega
    | cons x v ih =>
      rw [l1_cons]
      have step : (l.map fun m => (sm (x :: v) (dl m)).natAbs).sum ≤ (l.map fun m => if m = x.1 then x.2.natAbs else 0).sum + (l.map fun m => (sm v (dl m)).natAbs).sum := by
        clear ih hl
        induction l with
        | nil => simp
        | cons m l ih =>
          rw [List.map_cons, List.map_cons, List.map_cons, List.sum_cons, List.sum_cons, List.sum_cons, sm_cons]
          have : (x.2 * dl m x.1 + sm v (dl m)).natAbs ≤ (if m = x.1 then x.2.natAbs else 0) + (sm v (dl m)).natAbs := by
            by_cases q : m = x.1
            · rw [if_pos q]
              have e : dl m x.1 = 1 := by unfold Fg.dl; rw [if_pos q.symm]
              rw [e, Int.mul_one]; omega
            · rw [if_neg q]
              have e : dl m x.1 = 0 := by unfold Fg.dl; rw [if_neg (Ne.symm q)]
              rw [e, Int.mul_zero]; omega
          omega
      have one : ∀ l : List Mono, l.Nodup → (l.map fun m => if m = x.1 then x.2.natAbs else 0).sum ≤ x.2.natAbs := by
        intro l hl
        induction l with
        | nil => simp
        | cons m l ih =>
          rw [List.map_cons, List.sum_cons]
          obtain ⟨h1, h2⟩ := List.nodup_cons.mp hl
          by_cases q : m = x.1
          · rw [if_pos q]
            have z : (l.map fun m => if m = x.1 then x.2.natAbs else 0).sum = 0 := by
              clear ih h2 hl
              induction l with
              | nil => rfl
              | cons k l ih =>
                rw [List.mem_cons, not_or] at h1
                rw [List.map_cons, List.sum_cons, ih h1.2, if_neg (fun e => h1.1 (q.trans e.symm))]
            omega
          · rw [if_neg q]
            have := ih h2
            omega
      have := one l hl
      omega
  have e : l1 t = ((t.map (·.1)).map fun m => (sm u (dl m)).natAbs).sum := by
    rw [List.map_map]
    unfold l1
    congr 1
    refine List.map_congr_left fun x hx => ?_
    show x.2.natAbs = (sm u (dl x.1)).natAbs
    rw [← h, ← val_sm ht]
    unfold val
    rw [look_mem ht (c := x.2) hx]; rfl
  rw [e]
  exact key _ ht u
end Fg
/-! A6: dicts with texts as keys; comprehensions of dicts. -/
namespace Fg
open PySem PySem.Spec L2
open PyProof.Rows hiding St
theorem putAll_kvsS (t : Mono) : ∀ u : Mono, putAll (kvsS u) (kvsS t) = kvsS (t.foldl (fun acc p => putS acc p.1 p.2) u) := by
  induction t with
  | nil => intro u; rfl
  | cons p t ih =>
    intro u
    show putAll (putP (kvsS u) (kvS p)) (kvsS t) = _
    rw [putP_eq (k := kS p.1) (dkey_eS p.1)]
    show putAll (putKD (kvsS u) (eS p.1) (kS p.1) (.int p.2)) (kvsS t) = _
    rw [put_kvsS]
    exact ih _
theorem fold_putS : ∀ (t u : Mono), NDS (u ++ t) → t.foldl (fun acc p => putS acc p.1 p.2) u = u ++ t
  | [], u, _ => by simp
  | p :: t, u, h => by
    have hn : hasMS u p.1 = false := by
      cases q : hasMS u p.1 with
      | false => rfl
      | true =>
        unfold NDS at h
        rw [List.map_append, List.map_cons] at h
        exact absurd rfl ((List.nodup_append.mp h).2.2 p.1 (hasM_iffS.mp q) p.1 List.mem_cons_self)
    have e : putS u p.1 p.2 = u ++ [p] := by
      unfold putS
      rw [if_neg (by rw [hn]; decide)]
    rw [List.foldl_cons, e, fold_putS t (u ++ [p]) (by simpa using h)]
    simp
theorem pairsOk_kvsS (t : Mono) : PairsOk (kvsS t) := ⟨fun p hp => by
  obtain ⟨q, _, e⟩ := List.mem_map.mp hp
  subst e
  exact ⟨kS q.1, dkey_eS q.1, kS_depth q.1⟩, .inl (kvs_tuS t)⟩
theorem putAll_ndS {t : Mono} (h : NDS t) : putAll [] (kvsS t) = kvsS t := by
  have := putAll_kvsS t []
  rw [fold_putS t [] (by simpa using h)] at this
  exact this
theorem keys_kvsS (t : Mono) : (kvsS t).map (·.1) = t.map fun p => eS p.1 := by unfold kvsS; rw [List.map_map]; rfl
theorem getMS {M : MM} {a : Addr} {o : Obj} {t : Mono} {m : Str} {c : Int} (h : M a = some (.dct o (kvsS t))) (hl : lookS t m = some c) (Q : QD) (q : Q (.int c) M) : dIx (.ref a) (eS m) M Q := by
  unfold dIx
  simp only [h]
  exact ⟨kS m, .int c, kOkS t m, by rw [look_kvsS, hl]; rfl, q⟩
theorem get2S {M : MM} {a : Addr} {o : Obj} {t : Mono} {m : Str} {Q : QD} (h : M a = some (.dct o (kvsS t))) (q : Q (.int (valS t m)) M) : mGet2 (.ref a) [eS m, .int 0] M Q := by
  refine ⟨a, o, kvsS t, eS m, kS m, .int 0, rfl, rfl, h, kOkS t m, ?_⟩
  rw [look_kvsS]
  unfold valS at q
  cases e : lookS t m with
  | none => rw [e] at q; exact q
  | some c => rw [e] at q; exact q
theorem setMS {M : MM} {a : Addr} {o : Obj} {t : Mono} {m : Str} {c : Int} {Q : MM → Prop} (h : M a = some (.dct o (kvsS t))) (hz : t.length < sizeLine) (q : ∀ o', Q (up M a (.dct o' (kvsS (putS t m c))))) : dSetI (.ref a) (eS m) (.int c) M Q := by
  unfold dSetI
  simp only [h]
  refine ⟨kS m, kOkS t m, by unfold kvsS; rw [List.length_map]; exact hz, fun o' => ?_⟩
  rw [put_kvsS]
  exact q o'
theorem rising_polyS {t : Mono} {rs : List D} (ht : NDS t) (hs : SortedD rs) (hm : ∀ x, x ∈ rs ↔ x ∈ t.map fun p => eS p.1) : ∃ u : Mono, rs = u.map (fun p => eS p.1) ∧ u.Perm t ∧ RisingS u ∧ canonS t = nzS u := by
  have go : ∀ l : List D, (∀ x ∈ l, ∃ p ∈ t, x = eS p.1) → ∃ u : Mono, l = u.map (fun p => eS p.1) ∧ ∀ p ∈ u, p ∈ t := by
    intro l
    induction l with
    | nil => intro _; exact ⟨[], rfl, fun p h => nomatch h⟩
    | cons x l ih =>
      intro h
      obtain ⟨u, e, hu⟩ := ih fun y hy => h y (List.mem_cons_of_mem _ hy)
      obtain ⟨p, hp, rfl⟩ := h x List.mem_cons_self
      exact ⟨p :: u, by rw [e]; rfl, fun q hq => (List.mem_cons.mp hq).elim (fun z => z ▸ hp) (hu q)⟩
  obtain ⟨u, e, hu⟩ := go rs fun x hx => by
    obtain ⟨p, hp, ep⟩ := List.mem_map.mp ((hm x).mp hx)
    exact ⟨p, hp, ep.symm⟩
  have ru : RisingS u := by
    rw [e] at hs
    exact List.pairwise_map.mp hs
  have pu : u.Perm t := (List.perm_ext_iff_of_nodup (nd_nodupS (rising_ndS ru)) (nd_nodupS ht)).mpr fun p => ⟨hu p, fun hp => by
    have h1 : eS p.1 ∈ rs := (hm _).mpr (List.mem_map.mpr ⟨p, hp, rfl⟩)
    rw [e] at h1
    obtain ⟨q, hq, eq⟩ := List.mem_map.mp h1
    have e1 := eS_inj eq
    have l1 := look_memS ht (m := q.1) (c := q.2) (hu q hq)
    have l2 := look_memS ht (m := p.1) (c := p.2) hp
    rw [e1, l2] at l1
    have e2 : q = p := Prod.ext e1 (Option.some.inj l1).symm
    rw [← e2]; exact hq⟩
  refine ⟨u, e, pu, ru, ?_⟩
  exact srt_risingS (List.Pairwise.filter _ ru) (pu.filter _)

theorem dc_tab {stay : MM → Prop} {M1 : MM} {p : Addr} {ρ0 : En} {g : WG} {tt : WB} {tk tv : WE} {xs : Tab} {K : MM → Prop} (hp : M1 p = none) (t : Mono × Int → Bool) (hst : ∀ M, Ext M1 M → stay M) (hn : ND xs) (hz : xs.length ≤ 1000000)
    (hs : ∀ x ∈ xs, ∀ M, Ext M1 M → ∀ (K1 : D → D → MM → Prop) (K0 : MM → Prop), (t x = true → ∀ M', Ext M M' → K1 (eM x.1) (.int x.2) M') → (t x = false → ∀ M', Ext M M' → K0 M') → g (eM x.1) ρ0 M (fun ρ1 M2 => tt ρ1 M2 (fun k M3 => if k = true then tk ρ1 M3 (fun x M4 => tv ρ1 M4 (fun y M5 => K1 x y M5) noX) noX else K0 M3) noX) noX)
    (hK : ∀ M' o, Ext M1 M' → M' p = some (.dct o (kvs (xs.filter t))) → K M') : dcD stay p ρ0 g tt tk tv (xs.map fun x => eM x.1) [] (up M1 p (.dct dct0 [])) K := by
  have go : ∀ (rs ys : Tab) (M : MM) (o : Obj), xs = ys ++ rs → Ext M1 M → M p = some (.dct o (kvs (ys.filter t))) → dcD stay p ρ0 g tt tk tv (rs.map fun x => eM x.1) (kvs (ys.filter t)) M K := by
    intro rs
    induction rs with
    | nil =>
      intro ys M o e ex h
      rw [List.append_nil] at e
      subst e
      exact ⟨hst M ex, ⟨o, h⟩, hK M o ex h⟩
    | cons x rs ih =>
      intro ys M o e ex h
      have hx : x ∈ xs := by rw [e]; simp
      have e2 : xs = (ys ++ [x]) ++ rs := by rw [e]; simp
      refine ⟨hst M ex, hs x hx M ex _ _ (fun ht M' e' => ?_) fun ht M' e' => ?_⟩
      · have hl : (kvs (ys.filter t)).length < sizeLine := by
          have h1 : (ys.filter t).length ≤ ys.length := List.length_filter_le _ _
          have h2 : ys.length ≤ xs.length := by rw [e, List.length_append]; omega
          unfold kvs
          rw [List.length_map, sizeLine_eq]
          omega
        refine ⟨o, kM x.1, e' _ _ h, kOk _ _, hl, fun o' => ?_⟩
        have hno : hasM (ys.filter t) x.1 = false := by
          cases q : hasM (ys.filter t) x.1 with
          | false => rfl
          | true =>
            obtain ⟨y, hy, ey⟩ := List.mem_map.mp (hasM_iff.mp q)
            have nd : ((ys.map (·.1)) ++ ((x :: rs).map (·.1))).Nodup := by rw [← List.map_append, ← e]; exact hn
            exact absurd ey ((List.nodup_append.mp nd).2.2 _ (List.mem_map.mpr ⟨y, (List.mem_filter.mp hy).1, rfl⟩) _ (List.mem_map.mpr ⟨x, List.mem_cons_self, rfl⟩))
        have ep : putKD (kvs (ys.filter t)) (eM x.1) (kM x.1) (.int x.2) = kvs ((ys ++ [x]).filter t) := by
          rw [put_kvs]
          unfold put
          rw [if_neg (by rw [hno]; decide), List.filter_append, List.filter_cons, if_pos ht]; rfl
        rw [ep]
        exact ih (ys ++ [x]) _ o' e2 (Ext.upd hp (ex.trans e')) up_same
      · have ep : kvs (ys.filter t) = kvs ((ys ++ [x]).filter t) := by
          rw [List.filter_append, List.filter_cons, if_neg (by rw [ht]; decide)]
          simp
        rw [ep] at h ⊢
        exact ih (ys ++ [x]) _ o e2 (ex.trans e') (e' _ _ h)
  exact go xs [] _ dct0 rfl (Ext.new hp) up_same
/-- rows without doubles among others -/
theorem nodup_le {α : Type} [DecidableEq α] : ∀ {l m : List α}, l.Nodup → (∀ x ∈ l, x ∈ m) → l.length ≤ m.length
  | [], m, _, _ => Nat.zero_le _
  | x :: l, m, h, s => by
    obtain ⟨h1, h2⟩ := List.nodup_cons.mp h
    have hm := s x List.mem_cons_self
    have := nodup_le (l := l) (m := m.erase x) h2 fun y hy => (List.mem_erase_of_ne (fun (e : y = x) => h1 (e ▸ hy))).mpr (s y (List.mem_cons_of_mem _ hy))
    rw [List.length_erase_of_mem hm] at this
    have : 0 < m.length := List.length_pos_of_mem hm
    rw [List.length_cons]
    omega
theorem keys_le {t u : Tab} (ht : ND t) (hz : ∀ x ∈ t, x.2 ≠ 0) (h : Eqv t u) : t.length ≤ u.length := by
  have := nodup_le (l := t.map (·.1)) (m := u.map (·.1)) ht fun m hm => by
    obtain ⟨x, hx, rfl⟩ := List.mem_map.mp hm
    exact eqv_mem ht h hx (hz x hx)
  rwa [List.length_map, List.length_map] at this
theorem mul_len (t u : Tab) : (mulT t u).length = t.length * u.length := by
  induction t with
  | nil => simp [mulT]
  | cons x t ih =>
    have e : mulT (x :: t) u = (u.map fun y => (J x.1 y.1, x.2 * y.2)) ++ mulT t u := by unfold mulT; rw [List.map_cons, List.flatten_cons]
    rw [e, List.length_append, List.length_map, ih, List.length_cons, Nat.add_mul]
    omega
theorem mrg_po : ∀ {b a : Mono}, (∀ x ∈ a, 1 ≤ x.2) → (∀ x ∈ b, 1 ≤ x.2) → ∀ x ∈ mrg a b, 1 ≤ x.2
  | [], a, ha, _ => ha
  | p :: b, a, ha, hb => by
    have h0 : 0 ≤ valS a p.1 := by
      unfold valS
      cases q : lookS a p.1 with
      | none => simp
      | some c => have := ha _ (look_someS q); simp; omega
    have hp := hb p List.mem_cons_self
    refine mrg_po (b := b) (a := putS a p.1 (valS a p.1 + p.2)) (fun x hx => ?_) fun x hx => hb x (List.mem_cons_of_mem _ hx)
    unfold putS at hx
    split at hx
    · obtain ⟨y, hy, e⟩ := List.mem_map.mp hx
      split at e
      · rw [← e]; dsimp only; omega
      · rw [← e]; exact ha y hy
    · rcases List.mem_append.mp hx with hx | hx
      · exact ha x hx
      · rw [List.mem_singleton] at hx
        rw [hx]; dsimp only; omega
theorem nz_posS {m : Mono} (h : ∀ x ∈ m, 1 ≤ x.2) : nzS m = m := List.filter_eq_self.mpr fun x hx => by
  have := h x hx
  simp
  omega
theorem J_srt {a b : Mono} (ha : Good a) (hb : Good b) : srtS (mrg a b) = J a b := by
  unfold J canonS
  rw [nz_posS (mrg_po ha.po hb.po)]
theorem walk_lst {M : MM} {p : Addr} {ds : List D} (h : M p = some (.lst ds)) : ∃ st, walkD M (.ref p) = some (ds, st) ∧ (∀ M', M' p = some (.lst ds) → st M') :=
  ⟨fun M' => M' p = some (.lst ds), by unfold walkD; simp only [h], fun M' e => e⟩
theorem good_of {m : Mono} {names : List Str} (hs : SortedD (names.map D.str)) (h : (m.map (·.1)).Sublist names) (hp : ∀ x ∈ m, 1 ≤ x.2) : Good m := ⟨List.pairwise_map.mp ((List.pairwise_map.mp hs).sublist h), hp⟩
end Fg
namespace FgL
open PySem PySem.Spec L2 Fg
open PyProof.Rows hiding St
def top (i : Nat) : Stmt := PySem.Challenge.pw_figurehold_k05_numbers_by_fractions.main.body.getD i (.Pass ⟨0, 0, 0, 0⟩)
abbrev s_frozen : Stmt := top 8
def d_frozen : He.DefD := ⟨("frozen", none), "frozen", "frozen", defArgs s_frozen, defBody s_frozen, defScope s_frozen, [], []⟩
abbrev s_least_with : Stmt := top 9
def d_least_with : He.DefD := ⟨("least_with", none), "least_with", "least_with", defArgs s_least_with, defBody s_least_with, defScope s_least_with, [], []⟩
abbrev s_is_great : Stmt := top 10
def d_is_great : He.DefD := ⟨("is_great", none), "is_great", "is_great", defArgs s_is_great, defBody s_is_great, defScope s_is_great, [], []⟩
abbrev s_checked : Stmt := top 11
def d_checked : He.DefD := ⟨("checked", none), "checked", "checked", defArgs s_checked, defBody s_checked, defScope s_checked, [], []⟩
abbrev s_counts_of : Stmt := top 12
def d_counts_of : He.DefD := ⟨("counts_of", none), "counts_of", "counts_of", defArgs s_counts_of, defBody s_counts_of, defScope s_counts_of, [], []⟩
abbrev s_monomial_product : Stmt := top 13
def d_monomial_product : He.DefD := ⟨("monomial_product", none), "monomial_product", "monomial_product", defArgs s_monomial_product, defBody s_monomial_product, defScope s_monomial_product, [], []⟩
abbrev s_add_times : Stmt := top 14
def d_add_times : He.DefD := ⟨("add_times", none), "add_times", "add_times", defArgs s_add_times, defBody s_add_times, defScope s_add_times, [], []⟩
abbrev s_counts_product : Stmt := top 15
def d_counts_product : He.DefD := ⟨("counts_product", none), "counts_product", "counts_product", defArgs s_counts_product, defBody s_counts_product, defScope s_counts_product, [], []⟩
abbrev s_added : Stmt := top 16
def d_added : He.DefD := ⟨("added", none), "added", "added", defArgs s_added, defBody s_added, defScope s_added, [], []⟩
abbrev s_multiplied : Stmt := top 17
def d_multiplied : He.DefD := ⟨("multiplied", none), "multiplied", "multiplied", defArgs s_multiplied, defBody s_multiplied, defScope s_multiplied, [], []⟩
abbrev s_variables : Stmt := top 18
def d_variables : He.DefD := ⟨("variables", none), "variables", "variables", defArgs s_variables, defBody s_variables, defScope s_variables, [], []⟩
abbrev s_divisor_of : Stmt := top 19
def d_divisor_of : He.DefD := ⟨("divisor_of", none), "divisor_of", "divisor_of", defArgs s_divisor_of, defBody s_divisor_of, defScope s_divisor_of, [], []⟩
abbrev s_fraction : Stmt := top 20
def d_fraction : He.DefD := ⟨("fraction", none), "fraction", "fraction", defArgs s_fraction, defBody s_fraction, defScope s_fraction, [], []⟩
abbrev s_value : Stmt := top 21
def d_value : He.DefD := ⟨("value", none), "value", "value", defArgs s_value, defBody s_value, defScope s_value, [], []⟩
abbrev s_tape_l : Stmt := top 23
def d_tape_l : He.DefD := ⟨("_law_tape", none), "_law_tape", "_law_tape", defArgs s_tape_l, defBody s_tape_l, defScope s_tape_l, [], []⟩
abbrev s_load_l : Stmt := top 24
def d_load_l : He.DefD := ⟨("_law_load", none), "_law_load", "_law_load", defArgs s_load_l, defBody s_load_l, defScope s_load_l, [], []⟩
abbrev s_draw_l : Stmt := top 25
def d_draw_l : He.DefD := ⟨("_law_draw", none), "_law_draw", "_law_draw", defArgs s_draw_l, defBody s_draw_l, defScope s_draw_l, [], []⟩
abbrev s_same_l : Stmt := top 26
def d_same_l : He.DefD := ⟨("_law_same", none), "_law_same", "_law_same", defArgs s_same_l, defBody s_same_l, defScope s_same_l, [], []⟩
abbrev s_signs_l : Stmt := top 27
def d_signs_l : He.DefD := ⟨("_law_signs", none), "_law_signs", "_law_signs", defArgs s_signs_l, defBody s_signs_l, defScope s_signs_l, [], []⟩
abbrev s_factor_l : Stmt := top 28
def d_factor_l : He.DefD := ⟨("_law_factor", none), "_law_factor", "_law_factor", defArgs s_factor_l, defBody s_factor_l, defScope s_factor_l, [], []⟩
abbrev s_table_l : Stmt := top 29
def d_table_l : He.DefD := ⟨("_law_table", none), "_law_table", "_law_table", defArgs s_table_l, defBody s_table_l, defScope s_table_l, [], []⟩
abbrev s_poly_l : Stmt := top 30
def d_poly_l : He.DefD := ⟨("_law_poly", none), "_law_poly", "_law_poly", defArgs s_poly_l, defBody s_poly_l, defScope s_poly_l, [], []⟩
abbrev s_handed_l : Stmt := top 31
def d_handed_l : He.DefD := ⟨("_law_handed", none), "_law_handed", "_law_handed", defArgs s_handed_l, defBody s_handed_l, defScope s_handed_l, [], []⟩
abbrev s_divisor_l : Stmt := top 32
def d_divisor_l : He.DefD := ⟨("_law_divisor", none), "_law_divisor", "_law_divisor", defArgs s_divisor_l, defBody s_divisor_l, defScope s_divisor_l, [], []⟩
abbrev s_lowest_l : Stmt := top 33
def d_lowest_l : He.DefD := ⟨("_law_lowest", none), "_law_lowest", "_law_lowest", defArgs s_lowest_l, defBody s_lowest_l, defScope s_lowest_l, [], []⟩
abbrev s_fraction_l : Stmt := top 34
def d_fraction_l : He.DefD := ⟨("_law_fraction", none), "_law_fraction", "_law_fraction", defArgs s_fraction_l, defBody s_fraction_l, defScope s_fraction_l, [], []⟩
abbrev s_own_raised_l : Stmt := top 35
def d_own_raised_l : He.DefD := ⟨("_law_own_raised", none), "_law_own_raised", "_law_own_raised", defArgs s_own_raised_l, defBody s_own_raised_l, defScope s_own_raised_l, [], []⟩
abbrev s_reckoned_l : Stmt := top 36
def d_reckoned_l : He.DefD := ⟨("_law_reckoned", none), "_law_reckoned", "_law_reckoned", defArgs s_reckoned_l, defBody s_reckoned_l, defScope s_reckoned_l, [], []⟩
abbrev s_pairs_l : Stmt := top 37
def d_pairs_l : He.DefD := ⟨("_law_pairs", none), "_law_pairs", "_law_pairs", defArgs s_pairs_l, defBody s_pairs_l, defScope s_pairs_l, [], []⟩
abbrev s_names_l : Stmt := top 38
def d_names_l : He.DefD := ⟨("_law_names", none), "_law_names", "_law_names", defArgs s_names_l, defBody s_names_l, defScope s_names_l, [], []⟩
abbrev s_lacking_right_l : Stmt := top 39
def d_lacking_right_l : He.DefD := ⟨("_law_lacking_right", none), "_law_lacking_right", "_law_lacking_right", defArgs s_lacking_right_l, defBody s_lacking_right_l, defScope s_lacking_right_l, [], []⟩
abbrev s_drawn_l : Stmt := top 40
def d_drawn_l : He.DefD := ⟨("_law_drawn", none), "_law_drawn", "_law_drawn", defArgs s_drawn_l, defBody s_drawn_l, defScope s_drawn_l, [], []⟩
abbrev s_two_right_l : Stmt := top 41
def d_two_right_l : He.DefD := ⟨("_law_two_right", none), "_law_two_right", "_law_two_right", defArgs s_two_right_l, defBody s_two_right_l, defScope s_two_right_l, [], []⟩
abbrev s_law : Stmt := top 42
def d_law : He.DefD := ⟨("law", none), "law", "law", defArgs s_law, defBody s_law, defScope s_law, [], []⟩
def xs : List Str := ["FigureError", "TooMany", "NothingThere"]
def fa : List He.Fa := [.free "tuple", .glo "frozen", .free "range", .glo "least_with", .int "MOST_FIGURES" 200, .int "PLAIN" 1000000000000, .glo "is_great", .free "abs", .free "any", .free "super", .free "super", .glo "TooMany", .free "len", .int "MOST_TERMS" 2000, .free "sorted", .glo "checked", .free "dict", .glo "counts_of", .glo "monomial_product", .glo "add_times", .glo "counts_product", .glo "added", .glo "multiplied", .free "list", .glo "variables", .glo "divisor_of", .glo "fraction", .free "super", .glo "NothingThere", .glo "value", .free "int", .glo "_law_tape", .glo "_law_load", .glo "_law_draw", .free "bool", .free "isinstance", .free "str", .glo "_law_same", .glo "_law_signs", .glo "_law_factor", .glo "_law_table", .glo "_law_poly", .glo "_law_handed", .free "max", .glo "_law_divisor", .glo "_law_lowest", .glo "_law_fraction", .glo "_law_own_raised", .glo "_law_reckoned", .glo "_law_pairs", .glo "_law_names", .free "min", .glo "FigureError", .glo "_law_lacking_right", .glo "_law_drawn", .glo "_law_two_right", .glo "law"]
def hd : Hd := ⟨6, fa, [d_frozen, d_least_with, d_is_great, d_checked, d_counts_of, d_monomial_product, d_add_times, d_counts_product, d_added, d_multiplied, d_variables, d_divisor_of, d_fraction, d_value, d_tape_l, d_load_l, d_draw_l, d_same_l, d_signs_l, d_factor_l, d_table_l, d_poly_l, d_handed_l, d_divisor_l, d_lowest_l, d_fraction_l, d_own_raised_l, d_reckoned_l, d_pairs_l, d_names_l, d_lacking_right_l, d_drawn_l, d_two_right_l, d_law], xs, [("TooMany", "word"), ("NothingThere", "word")], PySem.Challenge.pw_figurehold_k05_numbers_by_fractions.main.file⟩
/-! frozen -/
def w_frozen_2 : WS :=
  (wSeq (wRet (wCl cTuple (wCons (wVar 1) wNil)))
  wNext)
def w_frozen_1 : WS :=
  (wSeq (wFor (wWk (wVar 0)) (gTp [(gNm 2), (gNm 3)]) (wSeq (wDrop (wBm "list" mApp (wVar 1) (wCons (wTup (wCons (wCl cTuple (wCons (wLc (wWk (wVar 2)) [4, 5] (gTp [(gNm 4), (gNm 5)]) wYes (wTup (wCons (wVar 4) (wCons (wVar 5) wNil)))) wNil)) (wCons (wVar 3) wNil))) wNil)))
  wNext))
  w_frozen_2)
def w_frozen : WS :=
  (wSeq (wAsg (wLst wNil) (gNm 1))
  w_frozen_1)
def sp_frozen : SpD := spW ["p", "terms", "monomial", "coefficient", "name", "exponent"] 1 w_frozen
theorem k_frozen {U : Ud} (F : Fct hd U) : JSs U 0 ⟨["p", "terms", "monomial", "coefficient", "name", "exponent"], d_frozen.scope, fun _ => true, false, none, true⟩ d_frozen.body w_frozen :=
  (s_cons (m_set 1 (by decide +kernel) (n_lst a_nil))
  (s_cons (m_for (by decide +kernel) (m_wk (m_var 0 (by decide +kernel))) (g_tp rfl (gs_cons (fun _ _ _ _ _ => trivial) (m_gnm 2 (by decide +kernel) (fun _ _ => trivial)) (gs_cons (fun _ _ _ _ _ => trivial) (m_gnm 3 (by decide +kernel) (fun _ _ => trivial)) (gs_nil (fun _ => trivial)) (fun _ => rfl)) (fun _ => rfl)) (fun _ => rfl) (fun _ => rfl)) (s_cons (s_expr (m_bm f_app (fun _ _ _ => md_app) (by decide +kernel) (m_var 1 (by decide +kernel)) (m_acons (n_tup (m_acons (m_bty f_tuple (F.free 0 rfl) (by decide +kernel) (m_acons (m_lc [("name", 4), ("exponent", 5)] (by decide +kernel) (m_wk (m_var 2 (by decide +kernel))) (g_tp rfl (gs_cons (fun _ _ _ h1 h2 => h2.trans h1) (m_gnm 4 (by decide +kernel) (fun σ v => ownR_set (by decide) σ _)) (gs_cons (fun _ _ _ h1 h2 => h2.trans h1) (m_gnm 5 (by decide +kernel) (fun σ v => ownR_set (by decide) σ _)) (gs_nil (fun _ => rfl)) (fun _ => rfl)) (fun _ => rfl)) (fun _ => rfl) (fun _ => rfl)) ts_nil (n_tup (m_acons (m_var 4 (by decide +kernel)) (m_acons (m_var 5 (by decide +kernel)) a_nil (by decide +kernel)) (by decide +kernel)))) a_nil (by decide +kernel))) (m_acons (m_var 3 (by decide +kernel)) a_nil (by decide +kernel)) (by decide +kernel))) a_nil (by decide +kernel))) rfl)
  s_nil))
  (s_cons (s_ret (m_bty f_tuple (F.free 0 rfl) (by decide +kernel) (m_acons (m_var 1 (by decide +kernel)) a_nil (by decide +kernel))))
  s_nil)))
theorem h_frozen {U : Ud} (F : Fct hd U) : FnHas U.P U.w U.K U.mg U.base 1 "frozen" sp_frozen := F.fn (N := ["p", "terms", "monomial", "coefficient", "name", "exponent"]) (ps := ["p"]) 0 1 rfl rfl ⟨rfl, rfl⟩ rfl ⟨rfl, rfl, rfl, by decide +kernel, rfl, by decide +kernel, by decide +kernel⟩ (fun _ _ _ _ _ _ us hl => match us, hl with | [_], _ => rfl) (k_frozen F)
/-! least_with -/
def w_least_with_2 : WS :=
  (wSeq (wRet (wVar 1))
  wNext)
def w_least_with_1 : WS :=
  (wSeq (wFor (wRng1 (wCons (wOp dSub (wVar 0) (wCst (.int 1))) wNil)) (gNm 2) (wSeq (wAsg (wOp dMul (wVar 1) (wCst (.int 10))) (gNm 1))
  wNext))
  w_least_with_2)
def w_least_with : WS :=
  (wSeq (wAsg (wCst (.int 1)) (gNm 1))
  w_least_with_1)
def sp_least_with : SpD := spW ["figures", "number", "_"] 1 w_least_with
theorem k_least_with {U : Ud} (F : Fct hd U) : JSs U 0 ⟨["figures", "number", "_"], d_least_with.scope, fun _ => true, false, none, true⟩ d_least_with.body w_least_with :=
  (s_cons (m_set 1 (by decide +kernel) n_int)
  (s_cons (m_for (by decide +kernel) (m_rng1 (F.free 2 rfl) (by decide +kernel) (m_acons (n_bin b_sub (m_var 0 (by decide +kernel)) n_int) a_nil (by decide +kernel))) (m_gnm 2 (by decide +kernel) (fun _ _ => trivial)) (s_cons (m_set 1 (by decide +kernel) (n_bin b_mul (m_var 1 (by decide +kernel)) n_int))
  s_nil))
  (s_cons (s_ret (m_var 1 (by decide +kernel)))
  s_nil)))
theorem h_least_with {U : Ud} (F : Fct hd U) : FnHas U.P U.w U.K U.mg U.base 1 "least_with" sp_least_with := F.fn (N := ["figures", "number", "_"]) (ps := ["figures"]) 1 3 rfl rfl ⟨rfl, rfl⟩ rfl ⟨rfl, rfl, rfl, by decide +kernel, rfl, by decide +kernel, by decide +kernel⟩ (fun _ _ _ _ _ _ us hl => match us, hl with | [_], _ => rfl) (k_least_with F)
/-! is_great -/
def w_is_great : WS :=
  (wSeq (wRet (wAndV (wOp dGe (wVar 0) (wCst (.int 1000000000000))) (wOp dGe (wVar 0) (wCall sp_least_with (wCons (wOp dAdd (wCst (.int 200)) (wCst (.int 1))) wNil)))))
  wNext)
def sp_is_great : SpD := spW ["number"] 1 w_is_great
theorem k_is_great {U : Ud} (F : Fct hd U) : JSs U 1 ⟨["number"], d_is_great.scope, fun _ => true, false, none, true⟩ d_is_great.body w_is_great :=
  (s_cons (s_ret (n_and (n_cmp c_ge (m_var 0 (by decide +kernel)) (m_gc (F.int 5 rfl) (by decide +kernel)) (by decide +kernel)) (n_one (n_cmp c_ge (m_var 0 (by decide +kernel)) (m_call (h_least_with F) (by decide) (by decide +kernel) (m_acons (n_bin b_add (m_gc (F.int 4 rfl) (by decide +kernel)) n_int) a_nil (by decide +kernel))) (by decide +kernel)))))
  s_nil)
theorem h_is_great {U : Ud} (F : Fct hd U) : FnHas U.P U.w U.K U.mg U.base 2 "is_great" sp_is_great := F.fn (N := ["number"]) (ps := ["number"]) 2 6 rfl rfl ⟨rfl, rfl⟩ rfl ⟨rfl, rfl, rfl, by decide +kernel, rfl, by decide +kernel, by decide +kernel⟩ (fun _ _ _ _ _ _ us hl => match us, hl with | [_], _ => rfl) (k_is_great F)
/-! checked -/
def w_checked_3 : WS :=
  (wSeq (wRet (wCl cTuple (wCons (wVar 1) wNil)))
  wNext)
def w_checked_2 : WS :=
  (wSeq (wIfS (wTru (wCl cAny (wCons (wLc (wWk (wVar 1)) [3, 4] (gTp [(gNm 3), (gNm 4)]) wYes (wCall sp_is_great (wCons (wCl cAbs (wCons (wVar 4) wNil)) wNil))) wNil))) (wSeq (wRaise "TooMany" "word" (wCst (.str "figures")))
  wNext) wNext)
  w_checked_3)
def w_checked_1 : WS :=
  (wSeq (wIfS (wBl (wOp dGt (wCl cLen (wCons (wVar 1) wNil)) (wCst (.int 2000)))) (wSeq (wRaise "TooMany" "word" (wCst (.str "terms")))
  wNext) wNext)
  w_checked_2)
def w_checked : WS :=
  (wSeq (wAsg (wCl cSortT (wCons (wLc (wWk (wVar 0)) [2] (gNm 2) (wBl (wOp dNe (wOp dIx (wVar 0) (wVar 2)) (wCst (.int 0)))) (wTup (wCons (wVar 2) (wCons (wOp dIx (wVar 0) (wVar 2)) wNil)))) wNil)) (gNm 1))
  w_checked_1)
def sp_checked : SpD := spW ["counts", "terms", "monomial", "_", "coefficient"] 1 w_checked
theorem k_checked {U : Ud} (F : Fct hd U) : JSs U 2 ⟨["counts", "terms", "monomial", "_", "coefficient"], d_checked.scope, fun _ => true, false, none, true⟩ d_checked.body w_checked :=
  (s_cons (m_set 1 (by decide +kernel) (m_blt f_sortT (F.free 14 rfl) (by decide +kernel) (m_acons (m_lc [("monomial", 2)] (by decide +kernel) (m_wk (m_var 0 (by decide +kernel))) (m_gnm 2 (by decide +kernel) (fun σ v => ownR_set (by decide) σ _)) (ts_one (t_cmp c_ne (n_ix (m_var 0 (by decide +kernel)) (m_var 2 (by decide +kernel)) (fun _ _ => rfl)) n_int (by decide +kernel))) (n_tup (m_acons (m_var 2 (by decide +kernel)) (m_acons (n_ix (m_var 0 (by decide +kernel)) (m_var 2 (by decide +kernel)) (fun _ _ => rfl)) a_nil (by decide +kernel)) (by decide +kernel)))) a_nil (by decide +kernel))))
  (s_cons (s_if (t_cmp c_gt (m_blt f_len (F.free 12 rfl) (by decide +kernel) (m_acons (m_var 1 (by decide +kernel)) a_nil (by decide +kernel))) (m_gc (F.int 13 rfl) (by decide +kernel)) (by decide +kernel)) (s_cons (by obtain ⟨I, e1, T⟩ := F.exi (c := "TooMany") (f := "word") 0 rfl (F.free 10 rfl); exact s_raise T e1 (by decide) rfl (by decide +kernel) (F.glo 11 rfl) (by decide +kernel) n_str (by decide +kernel))
  s_nil) s_nil)
  (s_cons (s_if (t_val (m_blt (f_any rfl) (F.free 8 rfl) (by decide +kernel) (m_acons (m_lc [("_", 3), ("coefficient", 4)] (by decide +kernel) (m_wk (m_var 1 (by decide +kernel))) (g_tp rfl (gs_cons (fun _ _ _ h1 h2 => h2.trans h1) (m_gnm 3 (by decide +kernel) (fun σ v => ownR_set (by decide) σ _)) (gs_cons (fun _ _ _ h1 h2 => h2.trans h1) (m_gnm 4 (by decide +kernel) (fun σ v => ownR_set (by decide) σ _)) (gs_nil (fun _ => rfl)) (fun _ => rfl)) (fun _ => rfl)) (fun _ => rfl) (fun _ => rfl)) ts_nil (m_call (h_is_great F) (by decide) (by decide +kernel) (m_acons (m_blt f_abs (F.free 7 rfl) (by decide +kernel) (m_acons (m_var 4 (by decide +kernel)) a_nil (by decide +kernel))) a_nil (by decide +kernel)))) a_nil (by decide +kernel))) (fun _ _ => rfl)) (s_cons (by obtain ⟨I, e1, T⟩ := F.exi (c := "TooMany") (f := "word") 0 rfl (F.free 10 rfl); exact s_raise T e1 (by decide) rfl (by decide +kernel) (F.glo 11 rfl) (by decide +kernel) n_str (by decide +kernel))
  s_nil) s_nil)
  (s_cons (s_ret (m_bty f_tuple (F.free 0 rfl) (by decide +kernel) (m_acons (m_var 1 (by decide +kernel)) a_nil (by decide +kernel))))
  s_nil))))
theorem h_checked {U : Ud} (F : Fct hd U) : FnHas U.P U.w U.K U.mg U.base 3 "checked" sp_checked := F.fn (N := ["counts", "terms", "monomial", "_", "coefficient"]) (ps := ["counts"]) 3 15 rfl rfl ⟨rfl, rfl⟩ rfl ⟨rfl, rfl, rfl, by decide +kernel, rfl, by decide +kernel, by decide +kernel⟩ (fun _ _ _ _ _ _ us hl => match us, hl with | [_], _ => rfl) (k_checked F)
/-! counts_of -/
def w_counts_of : WS :=
  (wSeq (wRet (wCl cDict (wCons (wCall sp_frozen (wCons (wVar 0) wNil)) wNil)))
  wNext)
def sp_counts_of : SpD := spW ["p"] 1 w_counts_of
theorem k_counts_of {U : Ud} (F : Fct hd U) : JSs U 1 ⟨["p"], d_counts_of.scope, fun _ => true, false, none, true⟩ d_counts_of.body w_counts_of :=
  (s_cons (s_ret (m_bty (f_dict rfl) (F.free 16 rfl) (by decide +kernel) (m_acons (m_call (h_frozen F) (by decide) (by decide +kernel) (m_acons (m_var 0 (by decide +kernel)) a_nil (by decide +kernel))) a_nil (by decide +kernel))))
  s_nil)
theorem h_counts_of {U : Ud} (F : Fct hd U) : FnHas U.P U.w U.K U.mg U.base 2 "counts_of" sp_counts_of := F.fn (N := ["p"]) (ps := ["p"]) 4 17 rfl rfl ⟨rfl, rfl⟩ rfl ⟨rfl, rfl, rfl, by decide +kernel, rfl, by decide +kernel, by decide +kernel⟩ (fun _ _ _ _ _ _ us hl => match us, hl with | [_], _ => rfl) (k_counts_of F)
/-! monomial_product -/
def w_monomial_product_2 : WS :=
  (wSeq (wRet (wCl cTuple (wCons (wCl cSortT (wCons (wLc (wWk (wVar 2)) [3] (gNm 3) wYes (wTup (wCons (wVar 3) (wCons (wOp dIx (wVar 2) (wVar 3)) wNil)))) wNil)) wNil)))
  wNext)
def w_monomial_product_1 : WS :=
  (wSeq (wFor (wWk (wVar 1)) (gTp [(gNm 3), (gNm 4)]) (wSeq (wAsg (wOp dAdd (wBm "dict" mGet2 (wVar 2) (wCons (wVar 3) (wCons (wCst (.int 0)) wNil))) (wVar 4)) (gSubD (wVar 2) (wVar 3)))
  wNext))
  w_monomial_product_2)
def w_monomial_product : WS :=
  (wSeq (wAsg (wCl cDict (wCons (wVar 0) wNil)) (gNm 2))
  w_monomial_product_1)
def sp_monomial_product : SpD := spW ["one", "other", "exponents", "name", "exponent"] 2 w_monomial_product
theorem k_monomial_product {U : Ud} (F : Fct hd U) : JSs U 0 ⟨["one", "other", "exponents", "name", "exponent"], d_monomial_product.scope, fun _ => true, false, none, true⟩ d_monomial_product.body w_monomial_product :=
  (s_cons (m_set 2 (by decide +kernel) (m_bty (f_dict rfl) (F.free 16 rfl) (by decide +kernel) (m_acons (m_var 0 (by decide +kernel)) a_nil (by decide +kernel))))
  (s_cons (m_for (by decide +kernel) (m_wk (m_var 1 (by decide +kernel))) (g_tp rfl (gs_cons (fun _ _ _ _ _ => trivial) (m_gnm 3 (by decide +kernel) (fun _ _ => trivial)) (gs_cons (fun _ _ _ _ _ => trivial) (m_gnm 4 (by decide +kernel) (fun _ _ => trivial)) (gs_nil (fun _ => trivial)) (fun _ => rfl)) (fun _ => rfl)) (fun _ => rfl) (fun _ => rfl)) (s_cons (s_asg (n_bin b_add (m_bm f_get (fun _ _ g => md_get2 g.hu) (by decide +kernel) (m_var 2 (by decide +kernel)) (m_acons (m_var 3 (by decide +kernel)) (m_acons n_int a_nil (by decide +kernel)) (by decide +kernel))) (m_var 4 (by decide +kernel))) (g_sub (m_var 2 (by decide +kernel)) (m_var 3 (by decide +kernel)) (fun _ _ => rfl)) (fun _ => rfl) (fun _ => rfl) (fun _ => rfl))
  s_nil))
  (s_cons (s_ret (m_bty f_tuple (F.free 0 rfl) (by decide +kernel) (m_acons (m_blt f_sortT (F.free 14 rfl) (by decide +kernel) (m_acons (m_lc [("name", 3)] (by decide +kernel) (m_wk (m_var 2 (by decide +kernel))) (m_gnm 3 (by decide +kernel) (fun σ v => ownR_set (by decide) σ _)) ts_nil (n_tup (m_acons (m_var 3 (by decide +kernel)) (m_acons (n_ix (m_var 2 (by decide +kernel)) (m_var 3 (by decide +kernel)) (fun _ _ => rfl)) a_nil (by decide +kernel)) (by decide +kernel)))) a_nil (by decide +kernel))) a_nil (by decide +kernel))))
  s_nil)))
theorem h_monomial_product {U : Ud} (F : Fct hd U) : FnHas U.P U.w U.K U.mg U.base 1 "monomial_product" sp_monomial_product := F.fn (N := ["one", "other", "exponents", "name", "exponent"]) (ps := ["one", "other"]) 5 18 rfl rfl ⟨rfl, rfl⟩ rfl ⟨rfl, rfl, rfl, by decide +kernel, rfl, by decide +kernel, by decide +kernel⟩ (fun _ _ _ _ _ _ us hl => match us, hl with | [_, _], _ => rfl) (k_monomial_product F)
/-! add_times -/
def w_add_times : WS :=
  (wSeq (wFor (wWk (wVar 1)) (gNm 3) (wSeq (wAsg (wOp dAdd (wBm "dict" mGet2 (wVar 0) (wCons (wVar 3) (wCons (wCst (.int 0)) wNil))) (wOp dMul (wVar 2) (wOp dIx (wVar 1) (wVar 3)))) (gSubD (wVar 0) (wVar 3)))
  wNext))
  wNext)
def sp_add_times : SpD := spW ["counts", "other", "factor", "monomial"] 3 w_add_times
theorem k_add_times {U : Ud} (F : Fct hd U) : JSs U 0 ⟨["counts", "other", "factor", "monomial"], d_add_times.scope, fun _ => true, false, none, true⟩ d_add_times.body w_add_times :=
  (s_cons (m_for (by decide +kernel) (m_wk (m_var 1 (by decide +kernel))) (m_gnm 3 (by decide +kernel) (fun _ _ => trivial)) (s_cons (s_asg (n_bin b_add (m_bm f_get (fun _ _ g => md_get2 g.hu) (by decide +kernel) (m_var 0 (by decide +kernel)) (m_acons (m_var 3 (by decide +kernel)) (m_acons n_int a_nil (by decide +kernel)) (by decide +kernel))) (n_bin b_mul (m_var 2 (by decide +kernel)) (n_ix (m_var 1 (by decide +kernel)) (m_var 3 (by decide +kernel)) (fun _ _ => rfl)))) (g_sub (m_var 0 (by decide +kernel)) (m_var 3 (by decide +kernel)) (fun _ _ => rfl)) (fun _ => rfl) (fun _ => rfl) (fun _ => rfl))
  s_nil))
  s_nil)
theorem h_add_times {U : Ud} (F : Fct hd U) : FnHas U.P U.w U.K U.mg U.base 1 "add_times" sp_add_times := F.fn (N := ["counts", "other", "factor", "monomial"]) (ps := ["counts", "other", "factor"]) 6 19 rfl rfl ⟨rfl, rfl⟩ rfl ⟨rfl, rfl, rfl, by decide +kernel, rfl, by decide +kernel, by decide +kernel⟩ (fun _ _ _ _ _ _ us hl => match us, hl with | [_, _, _], _ => rfl) (k_add_times F)
/-! counts_product -/
def w_counts_product_2 : WS :=
  (wSeq (wRet (wDc (wWk (wVar 2)) [3] (gNm 3) (wBl (wOp dNe (wOp dIx (wVar 2) (wVar 3)) (wCst (.int 0)))) (wVar 3) (wOp dIx (wVar 2) (wVar 3))))
  wNext)
def w_counts_product_1 : WS :=
  (wSeq (wFor (wWk (wVar 0)) (gNm 3) (wSeq (wFor (wWk (wVar 1)) (gNm 4) (wSeq (wAsg (wCall sp_monomial_product (wCons (wVar 3) (wCons (wVar 4) wNil))) (gNm 5))
  (wSeq (wAsg (wOp dAdd (wBm "dict" mGet2 (wVar 2) (wCons (wVar 5) (wCons (wCst (.int 0)) wNil))) (wOp dMul (wOp dIx (wVar 0) (wVar 3)) (wOp dIx (wVar 1) (wVar 4)))) (gSubD (wVar 2) (wVar 5)))
  wNext)))
  wNext))
  w_counts_product_2)
def w_counts_product : WS :=
  (wSeq (wAsg wDct0 (gNm 2))
  w_counts_product_1)
def sp_counts_product : SpD := spW ["one", "other", "counts", "monomial", "second", "made"] 2 w_counts_product
theorem k_counts_product {U : Ud} (F : Fct hd U) : JSs U 1 ⟨["one", "other", "counts", "monomial", "second", "made"], d_counts_product.scope, fun _ => true, false, none, true⟩ d_counts_product.body w_counts_product :=
  (s_cons (m_set 2 (by decide +kernel) n_dct0)
  (s_cons (m_for (by decide +kernel) (m_wk (m_var 0 (by decide +kernel))) (m_gnm 3 (by decide +kernel) (fun _ _ => trivial)) (s_cons (m_for (by decide +kernel) (m_wk (m_var 1 (by decide +kernel))) (m_gnm 4 (by decide +kernel) (fun _ _ => trivial)) (s_cons (m_set 5 (by decide +kernel) (m_call (h_monomial_product F) (by decide) (by decide +kernel) (m_acons (m_var 3 (by decide +kernel)) (m_acons (m_var 4 (by decide +kernel)) a_nil (by decide +kernel)) (by decide +kernel))))
  (s_cons (s_asg (n_bin b_add (m_bm f_get (fun _ _ g => md_get2 g.hu) (by decide +kernel) (m_var 2 (by decide +kernel)) (m_acons (m_var 5 (by decide +kernel)) (m_acons n_int a_nil (by decide +kernel)) (by decide +kernel))) (n_bin b_mul (n_ix (m_var 0 (by decide +kernel)) (m_var 3 (by decide +kernel)) (fun _ _ => rfl)) (n_ix (m_var 1 (by decide +kernel)) (m_var 4 (by decide +kernel)) (fun _ _ => rfl)))) (g_sub (m_var 2 (by decide +kernel)) (m_var 5 (by decide +kernel)) (fun _ _ => rfl)) (fun _ => rfl) (fun _ => rfl) (fun _ => rfl))
  s_nil)))
  s_nil))
  (s_cons (s_ret (m_dc [("monomial", 3)] (by decide +kernel) (m_wk (m_var 2 (by decide +kernel))) (m_gnm 3 (by decide +kernel) (fun σ v => ownR_set (by decide) σ _)) (ts_one (t_cmp c_ne (n_ix (m_var 2 (by decide +kernel)) (m_var 3 (by decide +kernel)) (fun _ _ => rfl)) n_int (by decide +kernel))) (m_var 3 (by decide +kernel)) (n_ix (m_var 2 (by decide +kernel)) (m_var 3 (by decide +kernel)) (fun _ _ => rfl))))
  s_nil)))
theorem h_counts_product {U : Ud} (F : Fct hd U) : FnHas U.P U.w U.K U.mg U.base 2 "counts_product" sp_counts_product := F.fn (N := ["one", "other", "counts", "monomial", "second", "made"]) (ps := ["one", "other"]) 7 20 rfl rfl ⟨rfl, rfl⟩ rfl ⟨rfl, rfl, rfl, by decide +kernel, rfl, by decide +kernel, by decide +kernel⟩ (fun _ _ _ _ _ _ us hl => match us, hl with | [_, _], _ => rfl) (k_counts_product F)
/-! added -/
def w_added_2 : WS :=
  (wSeq (wRet (wCall sp_checked (wCons (wVar 2) wNil)))
  wNext)
def w_added_1 : WS :=
  (wSeq (wDrop (wCall sp_add_times (wCons (wVar 2) (wCons (wCall sp_counts_of (wCons (wVar 1) wNil)) (wCons (wCst (.int 1)) wNil)))))
  w_added_2)
def w_added : WS :=
  (wSeq (wAsg (wCall sp_counts_of (wCons (wVar 0) wNil)) (gNm 2))
  w_added_1)
def sp_added : SpD := spW ["p", "q", "counts"] 2 w_added
theorem k_added {U : Ud} (F : Fct hd U) : JSs U 3 ⟨["p", "q", "counts"], d_added.scope, fun _ => true, false, none, true⟩ d_added.body w_added :=
  (s_cons (m_set 2 (by decide +kernel) (m_call (h_counts_of F) (by decide) (by decide +kernel) (m_acons (m_var 0 (by decide +kernel)) a_nil (by decide +kernel))))
  (s_cons (s_expr (m_call (h_add_times F) (by decide) (by decide +kernel) (m_acons (m_var 2 (by decide +kernel)) (m_acons (m_call (h_counts_of F) (by decide) (by decide +kernel) (m_acons (m_var 1 (by decide +kernel)) a_nil (by decide +kernel))) (m_acons n_int a_nil (by decide +kernel)) (by decide +kernel)) (by decide +kernel))) rfl)
  (s_cons (s_ret (m_call (h_checked F) (by decide) (by decide +kernel) (m_acons (m_var 2 (by decide +kernel)) a_nil (by decide +kernel))))
  s_nil)))
theorem h_added {U : Ud} (F : Fct hd U) : FnHas U.P U.w U.K U.mg U.base 4 "added" sp_added := F.fn (N := ["p", "q", "counts"]) (ps := ["p", "q"]) 8 21 rfl rfl ⟨rfl, rfl⟩ rfl ⟨rfl, rfl, rfl, by decide +kernel, rfl, by decide +kernel, by decide +kernel⟩ (fun _ _ _ _ _ _ us hl => match us, hl with | [_, _], _ => rfl) (k_added F)
/-! multiplied -/
def w_multiplied : WS :=
  (wSeq (wRet (wCall sp_checked (wCons (wCall sp_counts_product (wCons (wCall sp_counts_of (wCons (wVar 0) wNil)) (wCons (wCall sp_counts_of (wCons (wVar 1) wNil)) wNil))) wNil)))
  wNext)
def sp_multiplied : SpD := spW ["p", "q"] 2 w_multiplied
theorem k_multiplied {U : Ud} (F : Fct hd U) : JSs U 3 ⟨["p", "q"], d_multiplied.scope, fun _ => true, false, none, true⟩ d_multiplied.body w_multiplied :=
  (s_cons (s_ret (m_call (h_checked F) (by decide) (by decide +kernel) (m_acons (m_call (h_counts_product F) (by decide) (by decide +kernel) (m_acons (m_call (h_counts_of F) (by decide) (by decide +kernel) (m_acons (m_var 0 (by decide +kernel)) a_nil (by decide +kernel))) (m_acons (m_call (h_counts_of F) (by decide) (by decide +kernel) (m_acons (m_var 1 (by decide +kernel)) a_nil (by decide +kernel))) a_nil (by decide +kernel)) (by decide +kernel))) a_nil (by decide +kernel))))
  s_nil)
theorem h_multiplied {U : Ud} (F : Fct hd U) : FnHas U.P U.w U.K U.mg U.base 4 "multiplied" sp_multiplied := F.fn (N := ["p", "q"]) (ps := ["p", "q"]) 9 22 rfl rfl ⟨rfl, rfl⟩ rfl ⟨rfl, rfl, rfl, by decide +kernel, rfl, by decide +kernel, by decide +kernel⟩ (fun _ _ _ _ _ _ us hl => match us, hl with | [_, _], _ => rfl) (k_multiplied F)
/-! variables -/
def w_variables : WS :=
  (wSeq (wRet (wCl cTuple (wCons (wCl cSortT (wCons (wCl cLst (wCons (wDc2 (wWk (wVar 0)) [1, 2, 3] (gTp [(gNm 1), (gNm 2)]) wYes (wWk (wVar 1)) (gTp [(gNm 3), (gNm 2)]) wYes (wVar 3) (wCst (.bl true)) [3, 2]) wNil)) wNil)) wNil)))
  wNext)
def sp_variables : SpD := spW ["p", "monomial", "_", "name"] 1 w_variables
theorem k_variables {U : Ud} (F : Fct hd U) : JSs U 0 ⟨["p", "monomial", "_", "name"], d_variables.scope, fun _ => true, false, none, true⟩ d_variables.body w_variables :=
  (s_cons (s_ret (m_bty f_tuple (F.free 0 rfl) (by decide +kernel) (m_acons (m_blt f_sortT (F.free 14 rfl) (by decide +kernel) (m_acons (m_bty (f_lst rfl) (F.free 23 rfl) (by decide +kernel) (m_acons (m_dc2 [("monomial", 1), ("_", 2), ("name", 3)] [3, 2] (by decide +kernel) (m_wk (m_var 0 (by decide +kernel))) (g_tp rfl (gs_cons (fun _ _ _ h1 h2 => h2.trans h1) (m_gnm 1 (by decide +kernel) (fun σ v => ownR_set (by decide) σ _)) (gs_cons (fun _ _ _ h1 h2 => h2.trans h1) (m_gnm 2 (by decide +kernel) (fun σ v => ownR_set (by decide) σ _)) (gs_nil (fun _ => rfl)) (fun _ => rfl)) (fun _ => rfl)) (fun _ => rfl) (fun _ => rfl)) ts_nil (m_wk (m_var 1 (by decide +kernel))) (g_tp rfl (gs_cons (fun _ _ _ h1 h2 => h2.trans h1) (m_gnm 3 (by decide +kernel) (fun σ v => ownR_set (by decide) σ _)) (gs_cons (fun _ _ _ h1 h2 => h2.trans h1) (m_gnm 2 (by decide +kernel) (fun σ v => ownR_set (by decide) σ _)) (gs_nil (fun _ => rfl)) (fun _ => rfl)) (fun _ => rfl)) (fun _ => rfl) (fun _ => rfl)) ts_nil (m_var 3 (by decide +kernel)) n_bl) a_nil (by decide +kernel))) a_nil (by decide +kernel))) a_nil (by decide +kernel))))
  s_nil)
theorem h_variables {U : Ud} (F : Fct hd U) : FnHas U.P U.w U.K U.mg U.base 1 "variables" sp_variables := F.fn (N := ["p", "monomial", "_", "name"]) (ps := ["p"]) 10 24 rfl rfl ⟨rfl, rfl⟩ rfl ⟨rfl, rfl, rfl, by decide +kernel, rfl, by decide +kernel, by decide +kernel⟩ (fun _ _ _ _ _ _ us hl => match us, hl with | [_], _ => rfl) (k_variables F)
/-! divisor_of -/
def w_divisor_of_3 : WS :=
  (wSeq (wRet (wVar 0))
  wNext)
def w_divisor_of_2 : WS :=
  (wSeq (wWhile (wBl (wOp dGt (wVar 1) (wCst (.int 0)))) (wSeq (wPar 0 1 (wVar 1) (wOp dMod (wVar 0) (wVar 1)))
  wNext))
  w_divisor_of_3)
def w_divisor_of_1 : WS :=
  (wSeq (wAsg (wCl cAbs (wCons (wVar 1) wNil)) (gNm 1))
  w_divisor_of_2)
def w_divisor_of : WS :=
  (wSeq (wAsg (wCl cAbs (wCons (wVar 0) wNil)) (gNm 0))
  w_divisor_of_1)
def sp_divisor_of : SpD := spW ["a", "b"] 2 w_divisor_of
theorem k_divisor_of {U : Ud} (F : Fct hd U) : JSs U 0 ⟨["a", "b"], d_divisor_of.scope, fun _ => true, false, none, true⟩ d_divisor_of.body w_divisor_of :=
  (s_cons (m_set 0 (by decide +kernel) (m_blt f_abs (F.free 7 rfl) (by decide +kernel) (m_acons (m_var 0 (by decide +kernel)) a_nil (by decide +kernel))))
  (s_cons (m_set 1 (by decide +kernel) (m_blt f_abs (F.free 7 rfl) (by decide +kernel) (m_acons (m_var 1 (by decide +kernel)) a_nil (by decide +kernel))))
  (s_cons (s_while rfl (t_cmp c_gt (m_var 1 (by decide +kernel)) n_int (by decide +kernel)) (s_cons (m_par 0 1 (by decide +kernel) (fun env h => by unfold swappedStores PySem.Env.blockKind PySem.Env.kindOf; rw [h]; rfl) (m_var 1 (by decide +kernel)) (n_bin b_mod (m_var 0 (by decide +kernel)) (m_var 1 (by decide +kernel))))
  s_nil))
  (s_cons (s_ret (m_var 0 (by decide +kernel)))
  s_nil))))
theorem h_divisor_of {U : Ud} (F : Fct hd U) : FnHas U.P U.w U.K U.mg U.base 1 "divisor_of" sp_divisor_of := F.fn (N := ["a", "b"]) (ps := ["a", "b"]) 11 25 rfl rfl ⟨rfl, rfl⟩ rfl ⟨rfl, rfl, rfl, by decide +kernel, rfl, by decide +kernel, by decide +kernel⟩ (fun _ _ _ _ _ _ us hl => match us, hl with | [_, _], _ => rfl) (k_divisor_of F)
/-! fraction -/
def w_fraction_1 : WS :=
  (wSeq (wRet (wTup (wCons (wOp dDiv (wVar 0) (wVar 2)) (wCons (wOp dDiv (wVar 1) (wVar 2)) wNil))))
  wNext)
def w_fraction : WS :=
  (wSeq (wAsg (wCall sp_divisor_of (wCons (wVar 0) (wCons (wVar 1) wNil))) (gNm 2))
  w_fraction_1)
def sp_fraction : SpD := spW ["n", "d", "common"] 2 w_fraction
theorem k_fraction {U : Ud} (F : Fct hd U) : JSs U 1 ⟨["n", "d", "common"], d_fraction.scope, fun _ => true, false, none, true⟩ d_fraction.body w_fraction :=
  (s_cons (m_set 2 (by decide +kernel) (m_call (h_divisor_of F) (by decide) (by decide +kernel) (m_acons (m_var 0 (by decide +kernel)) (m_acons (m_var 1 (by decide +kernel)) a_nil (by decide +kernel)) (by decide +kernel))))
  (s_cons (s_ret (n_tup (m_acons (n_bin b_div (m_var 0 (by decide +kernel)) (m_var 2 (by decide +kernel))) (m_acons (n_bin b_div (m_var 1 (by decide +kernel)) (m_var 2 (by decide +kernel))) a_nil (by decide +kernel)) (by decide +kernel))))
  s_nil))
theorem h_fraction {U : Ud} (F : Fct hd U) : FnHas U.P U.w U.K U.mg U.base 2 "fraction" sp_fraction := F.fn (N := ["n", "d", "common"]) (ps := ["n", "d"]) 12 26 rfl rfl ⟨rfl, rfl⟩ rfl ⟨rfl, rfl, rfl, by decide +kernel, rfl, by decide +kernel, by decide +kernel⟩ (fun _ _ _ _ _ _ us hl => match us, hl with | [_, _], _ => rfl) (k_fraction F)
/-! value -/
def w_value_4 : WS :=
  (wSeq (wRet (wVar 4))
  wNext)
def w_value_3 : WS :=
  (wSeq (wFor (wWk (wVar 0)) (gTp [(gNm 5), (gNm 6)]) (wSeq (wAsg (wTup (wCons (wVar 6) (wCons (wCst (.int 1)) wNil))) (gNm 7))
  (wSeq (wFor (wWk (wVar 5)) (gTp [(gNm 3), (gNm 8)]) (wSeq (wFor (wRng1 (wCons (wVar 8) wNil)) (gNm 9) (wSeq (wAsg (wCall sp_fraction (wCons (wOp dMul (wOp dIx (wVar 7) (wCst (.int 0))) (wOp dIx (wOp dIx (wVar 2) (wVar 3)) (wCst (.int 0)))) (wCons (wOp dMul (wOp dIx (wVar 7) (wCst (.int 1))) (wOp dIx (wOp dIx (wVar 2) (wVar 3)) (wCst (.int 1)))) wNil))) (gNm 7))
  wNext))
  wNext))
  (wSeq (wAsg (wCall sp_fraction (wCons (wOp dAdd (wOp dMul (wOp dIx (wVar 4) (wCst (.int 0))) (wOp dIx (wVar 7) (wCst (.int 1)))) (wOp dMul (wOp dIx (wVar 7) (wCst (.int 0))) (wOp dIx (wVar 4) (wCst (.int 1))))) (wCons (wOp dMul (wOp dIx (wVar 4) (wCst (.int 1))) (wOp dIx (wVar 7) (wCst (.int 1)))) wNil))) (gNm 4))
  wNext))))
  w_value_4)
def w_value_2 : WS :=
  (wSeq (wAsg (wTup (wCons (wCst (.int 0)) (wCons (wCst (.int 1)) wNil))) (gNm 4))
  w_value_3)
def w_value_1 : WS :=
  (wSeq (wFor (wWk (wCall sp_variables (wCons (wVar 0) wNil))) (gNm 3) (wSeq (wIfS (wBl (wOp dNotIn (wVar 3) (wVar 2))) (wSeq (wRaise "NothingThere" "word" (wVar 3))
  wNext) wNext)
  wNext))
  w_value_2)
def w_value : WS :=
  (wSeq (wAsg (wDc (wWk (wVar 1)) [3, 10, 11] (gTp [(gNm 3), (gTp [(gNm 10), (gNm 11)])]) wYes (wVar 3) (wTup (wCons (wVar 10) (wCons (wVar 11) wNil)))) (gNm 2))
  w_value_1)
def sp_value : SpD := spW ["p", "pairs", "by", "name", "total", "monomial", "coefficient", "part", "exponent", "_", "n", "d"] 2 w_value
theorem k_value {U : Ud} (F : Fct hd U) : JSs U 2 ⟨["p", "pairs", "by", "name", "total", "monomial", "coefficient", "part", "exponent", "_", "n", "d"], d_value.scope, fun _ => true, false, none, true⟩ d_value.body w_value :=
  (s_cons (m_sdc [("name", 3), ("n", 10), ("d", 11)] 2 (by decide +kernel) (m_wk (m_var 1 (by decide +kernel))) (g_tp rfl (gs_cons (fun _ _ _ h1 h2 => h2.trans h1) (m_gnm 3 (by decide +kernel) (fun σ v => ownR_set (by decide) σ _)) (gs_cons (fun _ _ _ h1 h2 => h2.trans h1) (g_tp rfl (gs_cons (fun _ _ _ h1 h2 => h2.trans h1) (m_gnm 10 (by decide +kernel) (fun σ v => ownR_set (by decide) σ _)) (gs_cons (fun _ _ _ h1 h2 => h2.trans h1) (m_gnm 11 (by decide +kernel) (fun σ v => ownR_set (by decide) σ _)) (gs_nil (fun _ => rfl)) (fun _ => rfl)) (fun _ => rfl)) (fun _ => rfl) (fun _ => rfl)) (gs_nil (fun _ => rfl)) (fun _ => rfl)) (fun _ => rfl)) (fun _ => rfl) (fun _ => rfl)) ts_nil (m_var 3 (by decide +kernel)) (n_tup (m_acons (m_var 10 (by decide +kernel)) (m_acons (m_var 11 (by decide +kernel)) a_nil (by decide +kernel)) (by decide +kernel))))
  (s_cons (m_for (by decide +kernel) (m_wk (m_call (h_variables F) (by decide) (by decide +kernel) (m_acons (m_var 0 (by decide +kernel)) a_nil (by decide +kernel)))) (m_gnm 3 (by decide +kernel) (fun _ _ => trivial)) (s_cons (s_if (t_cmp c_nin (m_var 3 (by decide +kernel)) (m_var 2 (by decide +kernel)) (by decide +kernel)) (s_cons (by obtain ⟨I, e1, T⟩ := F.exi (c := "NothingThere") (f := "word") 1 rfl (F.free 10 rfl); exact s_raise T e1 (by decide) rfl (by decide +kernel) (F.glo 28 rfl) (by decide +kernel) (m_var 3 (by decide +kernel)) (by decide +kernel))
  s_nil) s_nil)
  s_nil))
  (s_cons (m_set 4 (by decide +kernel) (n_tup (m_acons n_int (m_acons n_int a_nil (by decide +kernel)) (by decide +kernel))))
  (s_cons (m_for (by decide +kernel) (m_wk (m_var 0 (by decide +kernel))) (g_tp rfl (gs_cons (fun _ _ _ _ _ => trivial) (m_gnm 5 (by decide +kernel) (fun _ _ => trivial)) (gs_cons (fun _ _ _ _ _ => trivial) (m_gnm 6 (by decide +kernel) (fun _ _ => trivial)) (gs_nil (fun _ => trivial)) (fun _ => rfl)) (fun _ => rfl)) (fun _ => rfl) (fun _ => rfl)) (s_cons (m_set 7 (by decide +kernel) (n_tup (m_acons (m_var 6 (by decide +kernel)) (m_acons n_int a_nil (by decide +kernel)) (by decide +kernel))))
  (s_cons (m_for (by decide +kernel) (m_wk (m_var 5 (by decide +kernel))) (g_tp rfl (gs_cons (fun _ _ _ _ _ => trivial) (m_gnm 3 (by decide +kernel) (fun _ _ => trivial)) (gs_cons (fun _ _ _ _ _ => trivial) (m_gnm 8 (by decide +kernel) (fun _ _ => trivial)) (gs_nil (fun _ => trivial)) (fun _ => rfl)) (fun _ => rfl)) (fun _ => rfl) (fun _ => rfl)) (s_cons (m_for (by decide +kernel) (m_rng1 (F.free 2 rfl) (by decide +kernel) (m_acons (m_var 8 (by decide +kernel)) a_nil (by decide +kernel))) (m_gnm 9 (by decide +kernel) (fun _ _ => trivial)) (s_cons (m_set 7 (by decide +kernel) (m_call (h_fraction F) (by decide) (by decide +kernel) (m_acons (n_bin b_mul (n_ix (m_var 7 (by decide +kernel)) n_int (fun _ _ => rfl)) (n_ix (n_ix (m_var 2 (by decide +kernel)) (m_var 3 (by decide +kernel)) (fun _ _ => rfl)) n_int (fun _ _ => rfl))) (m_acons (n_bin b_mul (n_ix (m_var 7 (by decide +kernel)) n_int (fun _ _ => rfl)) (n_ix (n_ix (m_var 2 (by decide +kernel)) (m_var 3 (by decide +kernel)) (fun _ _ => rfl)) n_int (fun _ _ => rfl))) a_nil (by decide +kernel)) (by decide +kernel))))
  s_nil))
  s_nil))
  (s_cons (m_set 4 (by decide +kernel) (m_call (h_fraction F) (by decide) (by decide +kernel) (m_acons (n_bin b_add (n_bin b_mul (n_ix (m_var 4 (by decide +kernel)) n_int (fun _ _ => rfl)) (n_ix (m_var 7 (by decide +kernel)) n_int (fun _ _ => rfl))) (n_bin b_mul (n_ix (m_var 7 (by decide +kernel)) n_int (fun _ _ => rfl)) (n_ix (m_var 4 (by decide +kernel)) n_int (fun _ _ => rfl)))) (m_acons (n_bin b_mul (n_ix (m_var 4 (by decide +kernel)) n_int (fun _ _ => rfl)) (n_ix (m_var 7 (by decide +kernel)) n_int (fun _ _ => rfl))) a_nil (by decide +kernel)) (by decide +kernel))))
  s_nil))))
  (s_cons (s_ret (m_var 4 (by decide +kernel)))
  s_nil)))))
theorem h_value {U : Ud} (F : Fct hd U) : FnHas U.P U.w U.K U.mg U.base 3 "value" sp_value := F.fn (N := ["p", "pairs", "by", "name", "total", "monomial", "coefficient", "part", "exponent", "_", "n", "d"]) (ps := ["p", "pairs"]) 13 29 rfl rfl ⟨rfl, rfl⟩ rfl ⟨rfl, rfl, rfl, by decide +kernel, rfl, by decide +kernel, by decide +kernel⟩ (fun _ _ _ _ _ _ us hl => match us, hl with | [_, _], _ => rfl) (k_value F)
/-! _law_tape -/
def w_tape_l_2 : WS :=
  (wSeq (wRet (wDisp [((wCst (.str "cells")), (wCl cLst (wCons (wVar 0) wNil))), ((wCst (.str "at")), (wCst (.int 0))), ((wCst (.str "value")), (wCst (.int 0))), ((wCst (.str "digits")), (wCst (.int 0))), ((wCst (.str "mixed")), (wCst (.int 0))), ((wCst (.str "salt")), (wVar 1))]))
  wNext)
def w_tape_l_1 : WS :=
  (wSeq (wFor (wWk (wVar 0)) (gNm 2) (wSeq (wAsg (wOp dMod (wCl cInt (wCons (wOp dAdd (wOp dAdd (wOp dMul (wVar 1) (wCst (.int 69621))) (wCl cAbs (wCons (wVar 2) wNil))) (wCst (.int 3))) wNil)) (wCst (.int 2147483647))) (gNm 1))
  wNext))
  w_tape_l_2)
def w_tape_l : WS :=
  (wSeq (wAsg (wOp dAdd (wCst (.int 11)) (wCl cLen (wCons (wVar 0) wNil))) (gNm 1))
  w_tape_l_1)
def sp_tape_l : SpD := spW ["_law_script", "_law_salt", "_law_number"] 1 w_tape_l
theorem k_tape_l {U : Ud} (F : Fct hd U) : JSs U 0 ⟨["_law_script", "_law_salt", "_law_number"], d_tape_l.scope, fun _ => true, false, none, true⟩ d_tape_l.body w_tape_l :=
  (s_cons (m_set 1 (by decide +kernel) (n_bin b_add n_int (m_blt f_len (F.free 12 rfl) (by decide +kernel) (m_acons (m_var 0 (by decide +kernel)) a_nil (by decide +kernel)))))
  (s_cons (m_for (by decide +kernel) (m_wk (m_var 0 (by decide +kernel))) (m_gnm 2 (by decide +kernel) (fun _ _ => trivial)) (s_cons (m_set 1 (by decide +kernel) (n_bin b_mod (m_bty f_int (F.free 30 rfl) (by decide +kernel) (m_acons (n_bin b_add (n_bin b_add (n_bin b_mul (m_var 1 (by decide +kernel)) n_int) (m_blt f_abs (F.free 7 rfl) (by decide +kernel) (m_acons (m_var 2 (by decide +kernel)) a_nil (by decide +kernel)))) n_int) a_nil (by decide +kernel))) n_int))
  s_nil))
  (s_cons (s_ret (n_disp (p_cons n_str (m_bty (f_lst rfl) (F.free 23 rfl) (by decide +kernel) (m_acons (m_var 0 (by decide +kernel)) a_nil (by decide +kernel))) (p_cons n_str n_int (p_cons n_str n_int (p_cons n_str n_int (p_cons n_str n_int (p_cons n_str (m_var 1 (by decide +kernel)) p_nil)))))) rfl))
  s_nil)))
theorem h_tape_l {U : Ud} (F : Fct hd U) : FnHas U.P U.w U.K U.mg U.base 1 "_law_tape" sp_tape_l := F.fn (N := ["_law_script", "_law_salt", "_law_number"]) (ps := ["_law_script"]) 14 31 rfl rfl ⟨rfl, rfl⟩ rfl ⟨rfl, rfl, rfl, by decide +kernel, rfl, by decide +kernel, by decide +kernel⟩ (fun _ _ _ _ _ _ us hl => match us, hl with | [_], _ => rfl) (k_tape_l F)
/-! _law_load -/
def w_load_l_2 : WS :=
  (wSeq (wIfS (wBl (wOp dEq (wOp dMod (wCl cInt (wCons (wVar 1) wNil)) (wCst (.int 2))) (wCst (.int 0)))) (wSeq (wAsg (wOp dDiv (wCl cAbs (wCons (wVar 1) wNil)) (wCst (.int 2))) (gSubD (wVar 0) (wCst (.str "value"))))
  (wSeq (wAsg (wCst (.int 60)) (gSubD (wVar 0) (wCst (.str "digits"))))
  wNext)) (wSeq (wAsg (wOp dMod (wCl cInt (wCons (wOp dAdd (wOp dAdd (wOp dMul (wOp dIx (wVar 0) (wCst (.str "salt"))) (wCst (.int 16807))) (wOp dDiv (wCl cAbs (wCons (wVar 1) wNil)) (wCst (.int 2)))) (wCst (.int 1))) wNil)) (wCst (.int 2147483647))) (gSubD (wVar 0) (wCst (.str "salt"))))
  (wSeq (wAsg (wCst (.int 9)) (gSubD (wVar 0) (wCst (.str "mixed"))))
  wNext)))
  wNext)
def w_load_l_1 : WS :=
  (wSeq (wAsg (wOp dAdd (wOp dIx (wVar 0) (wCst (.str "at"))) (wCst (.int 1))) (gSubD (wVar 0) (wCst (.str "at"))))
  w_load_l_2)
def w_load_l : WS :=
  (wSeq (wAsg (wOp dIx (wOp dIx (wVar 0) (wCst (.str "cells"))) (wOp dIx (wVar 0) (wCst (.str "at")))) (gNm 1))
  w_load_l_1)
def sp_load_l : SpD := spW ["_law_tape_here", "_law_number"] 1 w_load_l
theorem k_load_l {U : Ud} (F : Fct hd U) : JSs U 0 ⟨["_law_tape_here", "_law_number"], d_load_l.scope, fun _ => true, false, none, true⟩ d_load_l.body w_load_l :=
  (s_cons (m_set 1 (by decide +kernel) (n_ix (n_ix (m_var 0 (by decide +kernel)) n_str (fun _ _ => rfl)) (n_ix (m_var 0 (by decide +kernel)) n_str (fun _ _ => rfl)) (fun _ _ => rfl)))
  (s_cons (s_asg (n_bin b_add (n_ix (m_var 0 (by decide +kernel)) n_str (fun _ _ => rfl)) n_int) (g_sub (m_var 0 (by decide +kernel)) n_str (fun _ _ => rfl)) (fun _ => rfl) (fun _ => rfl) (fun _ => rfl))
  (s_cons (s_if (t_cmp c_eq (n_bin b_mod (m_bty f_int (F.free 30 rfl) (by decide +kernel) (m_acons (m_var 1 (by decide +kernel)) a_nil (by decide +kernel))) n_int) n_int (by decide +kernel)) (s_cons (s_asg (n_bin b_div (m_blt f_abs (F.free 7 rfl) (by decide +kernel) (m_acons (m_var 1 (by decide +kernel)) a_nil (by decide +kernel))) n_int) (g_sub (m_var 0 (by decide +kernel)) n_str (fun _ _ => rfl)) (fun _ => rfl) (fun _ => rfl) (fun _ => rfl))
  (s_cons (s_asg n_int (g_sub (m_var 0 (by decide +kernel)) n_str (fun _ _ => rfl)) (fun _ => rfl) (fun _ => rfl) (fun _ => rfl))
  s_nil)) (s_cons (s_asg (n_bin b_mod (m_bty f_int (F.free 30 rfl) (by decide +kernel) (m_acons (n_bin b_add (n_bin b_add (n_bin b_mul (n_ix (m_var 0 (by decide +kernel)) n_str (fun _ _ => rfl)) n_int) (n_bin b_div (m_blt f_abs (F.free 7 rfl) (by decide +kernel) (m_acons (m_var 1 (by decide +kernel)) a_nil (by decide +kernel))) n_int)) n_int) a_nil (by decide +kernel))) n_int) (g_sub (m_var 0 (by decide +kernel)) n_str (fun _ _ => rfl)) (fun _ => rfl) (fun _ => rfl) (fun _ => rfl))
  (s_cons (s_asg n_int (g_sub (m_var 0 (by decide +kernel)) n_str (fun _ _ => rfl)) (fun _ => rfl) (fun _ => rfl) (fun _ => rfl))
  s_nil)))
  s_nil)))
theorem h_load_l {U : Ud} (F : Fct hd U) : FnHas U.P U.w U.K U.mg U.base 1 "_law_load" sp_load_l := F.fn (N := ["_law_tape_here", "_law_number"]) (ps := ["_law_tape_here"]) 15 32 rfl rfl ⟨rfl, rfl⟩ rfl ⟨rfl, rfl, rfl, by decide +kernel, rfl, by decide +kernel, by decide +kernel⟩ (fun _ _ _ _ _ _ us hl => match us, hl with | [_], _ => rfl) (k_load_l F)
/-! _law_draw -/
def w_draw_l_4 : WS :=
  (wSeq (wRet (wOp dMod (wOp dMod (wCl cInt (wCons (wOp dAdd (wOp dMul (wOp dDiv (wOp dIx (wVar 0) (wCst (.str "salt"))) (wCst (.int 13))) (wCst (.int 69621))) (wCst (.int 5))) wNil)) (wCst (.int 1000003))) (wVar 1)))
  wNext)
def w_draw_l_3 : WS :=
  (wSeq (wAsg (wOp dMod (wCl cInt (wCons (wOp dAdd (wOp dMul (wOp dIx (wVar 0) (wCst (.str "salt"))) (wCst (.int 48271))) (wCst (.int 7))) wNil)) (wCst (.int 2147483647))) (gSubD (wVar 0) (wCst (.str "salt"))))
  w_draw_l_4)
def w_draw_l_2 : WS :=
  (wSeq (wIfS (wBl (wOp dGt (wOp dIx (wVar 0) (wCst (.str "mixed"))) (wCst (.int 0)))) (wSeq (wAsg (wOp dSub (wOp dIx (wVar 0) (wCst (.str "mixed"))) (wCst (.int 1))) (gSubD (wVar 0) (wCst (.str "mixed"))))
  wNext) wNext)
  w_draw_l_3)
def w_draw_l_1 : WS :=
  (wSeq (wFor (wRng1 (wCons (wCst (.int 64)) wNil)) (gNm 2) (wSeq (wIfS (wAndB (wBl (wOp dGt (wOp dIx (wVar 0) (wCst (.str "digits"))) (wCst (.int 0)))) (wBl (wOp dGt (wOp dIx (wVar 0) (wCst (.str "value"))) (wCst (.int 1))))) (wSeq (wAsg (wOp dMod (wCl cInt (wCons (wOp dIx (wVar 0) (wCst (.str "value"))) wNil)) (wVar 1)) (gNm 3))
  (wSeq (wAsg (wOp dSub (wOp dIx (wVar 0) (wCst (.str "digits"))) (wCst (.int 1))) (gSubD (wVar 0) (wCst (.str "digits"))))
  (wSeq (wAsg (wOp dDiv (wOp dIx (wVar 0) (wCst (.str "value"))) (wVar 1)) (gSubD (wVar 0) (wCst (.str "value"))))
  (wSeq (wRet (wVar 3))
  wNext)))) wNext)
  (wSeq (wIfS (wOrB (wBl (wOp dGt (wOp dIx (wVar 0) (wCst (.str "mixed"))) (wCst (.int 0)))) (wBl (wOp dGe (wOp dIx (wVar 0) (wCst (.str "at"))) (wCl cLen (wCons (wOp dIx (wVar 0) (wCst (.str "cells"))) wNil))))) (wSeq wBrk
  wNext) wNext)
  (wSeq (wDrop (wCall sp_load_l (wCons (wVar 0) wNil)))
  wNext))))
  w_draw_l_2)
def w_draw_l : WS :=
  (wSeq (wIfS (wBl (wOp dLt (wVar 1) (wCst (.int 2)))) (wSeq (wRet (wCst (.int 0)))
  wNext) wNext)
  w_draw_l_1)
def sp_draw_l : SpD := spW ["_law_tape_here", "_law_many", "_law_turn", "_law_digit"] 2 w_draw_l
theorem k_draw_l {U : Ud} (F : Fct hd U) : JSs U 1 ⟨["_law_tape_here", "_law_many", "_law_turn", "_law_digit"], d_draw_l.scope, fun _ => true, false, none, true⟩ d_draw_l.body w_draw_l :=
  (s_cons (s_if (t_cmp c_lt (m_var 1 (by decide +kernel)) n_int (by decide +kernel)) (s_cons (s_ret n_int)
  s_nil) s_nil)
  (s_cons (m_for (by decide +kernel) (m_rng1 (F.free 2 rfl) (by decide +kernel) (m_acons n_int a_nil (by decide +kernel))) (m_gnm 2 (by decide +kernel) (fun _ _ => trivial)) (s_cons (s_if (t_w (w_and (t_cmp c_gt (n_ix (m_var 0 (by decide +kernel)) n_str (fun _ _ => rfl)) n_int (by decide +kernel)) (w_and1 (t_cmp c_gt (n_ix (m_var 0 (by decide +kernel)) n_str (fun _ _ => rfl)) n_int (by decide +kernel))))) (s_cons (m_set 3 (by decide +kernel) (n_bin b_mod (m_bty f_int (F.free 30 rfl) (by decide +kernel) (m_acons (n_ix (m_var 0 (by decide +kernel)) n_str (fun _ _ => rfl)) a_nil (by decide +kernel))) (m_var 1 (by decide +kernel))))
  (s_cons (s_asg (n_bin b_sub (n_ix (m_var 0 (by decide +kernel)) n_str (fun _ _ => rfl)) n_int) (g_sub (m_var 0 (by decide +kernel)) n_str (fun _ _ => rfl)) (fun _ => rfl) (fun _ => rfl) (fun _ => rfl))
  (s_cons (s_asg (n_bin b_div (n_ix (m_var 0 (by decide +kernel)) n_str (fun _ _ => rfl)) (m_var 1 (by decide +kernel))) (g_sub (m_var 0 (by decide +kernel)) n_str (fun _ _ => rfl)) (fun _ => rfl) (fun _ => rfl) (fun _ => rfl))
  (s_cons (s_ret (m_var 3 (by decide +kernel)))
  s_nil)))) s_nil)
  (s_cons (s_if (t_w (w_or (t_cmp c_gt (n_ix (m_var 0 (by decide +kernel)) n_str (fun _ _ => rfl)) n_int (by decide +kernel)) (w_or1 (t_cmp c_ge (n_ix (m_var 0 (by decide +kernel)) n_str (fun _ _ => rfl)) (m_blt f_len (F.free 12 rfl) (by decide +kernel) (m_acons (n_ix (m_var 0 (by decide +kernel)) n_str (fun _ _ => rfl)) a_nil (by decide +kernel))) (by decide +kernel))))) (s_cons s_brk
  s_nil) s_nil)
  (s_cons (s_expr (m_call (h_load_l F) (by decide) (by decide +kernel) (m_acons (m_var 0 (by decide +kernel)) a_nil (by decide +kernel))) rfl)
  s_nil))))
  (s_cons (s_if (t_cmp c_gt (n_ix (m_var 0 (by decide +kernel)) n_str (fun _ _ => rfl)) n_int (by decide +kernel)) (s_cons (s_asg (n_bin b_sub (n_ix (m_var 0 (by decide +kernel)) n_str (fun _ _ => rfl)) n_int) (g_sub (m_var 0 (by decide +kernel)) n_str (fun _ _ => rfl)) (fun _ => rfl) (fun _ => rfl) (fun _ => rfl))
  s_nil) s_nil)
  (s_cons (s_asg (n_bin b_mod (m_bty f_int (F.free 30 rfl) (by decide +kernel) (m_acons (n_bin b_add (n_bin b_mul (n_ix (m_var 0 (by decide +kernel)) n_str (fun _ _ => rfl)) n_int) n_int) a_nil (by decide +kernel))) n_int) (g_sub (m_var 0 (by decide +kernel)) n_str (fun _ _ => rfl)) (fun _ => rfl) (fun _ => rfl) (fun _ => rfl))
  (s_cons (s_ret (n_bin b_mod (n_bin b_mod (m_bty f_int (F.free 30 rfl) (by decide +kernel) (m_acons (n_bin b_add (n_bin b_mul (n_bin b_div (n_ix (m_var 0 (by decide +kernel)) n_str (fun _ _ => rfl)) n_int) n_int) n_int) a_nil (by decide +kernel))) n_int) (m_var 1 (by decide +kernel))))
  s_nil)))))
theorem h_draw_l {U : Ud} (F : Fct hd U) : FnHas U.P U.w U.K U.mg U.base 2 "_law_draw" sp_draw_l := F.fn (N := ["_law_tape_here", "_law_many", "_law_turn", "_law_digit"]) (ps := ["_law_tape_here", "_law_many"]) 16 33 rfl rfl ⟨rfl, rfl⟩ rfl ⟨rfl, rfl, rfl, by decide +kernel, rfl, by decide +kernel, by decide +kernel⟩ (fun _ _ _ _ _ _ us hl => match us, hl with | [_, _], _ => rfl) (k_draw_l F)
/-! _law_same -/
def w_same_l_4 (sp : SpD) : WS :=
  (wSeq (wRet (wAndV (wCl cIsi (wCons (wVar 0) (wCons (wCst (.ty "int")) wNil))) (wAndV (wNotV (wCl cIsi (wCons (wVar 0) (wCons (wCst (.ty "bool")) wNil)))) (wOp dEq (wVar 0) (wVar 1)))))
  wNext)
def w_same_l_3 (sp : SpD) : WS :=
  (wSeq (wIfS (wTru (wCl cIsi (wCons (wVar 1) (wCons (wCst (.ty "str")) wNil)))) (wSeq (wRet (wAndV (wCl cIsi (wCons (wVar 0) (wCons (wCst (.ty "str")) wNil))) (wOp dEq (wVar 0) (wVar 1))))
  wNext) wNext)
  (w_same_l_4 sp))
def w_same_l_2 (sp : SpD) : WS :=
  (wSeq (wIfS (wTru (wCl cIsi (wCons (wVar 1) (wCons (wCst (.ty "bool")) wNil)))) (wSeq (wRet (wAndV (wCl cIsi (wCons (wVar 0) (wCons (wCst (.ty "bool")) wNil))) (wOp dEq (wVar 0) (wVar 1))))
  wNext) wNext)
  (w_same_l_3 sp))
def w_same_l_1 (sp : SpD) : WS :=
  (wSeq (wIfS (wBl (wOp dIs (wVar 1) (wCst .non))) (wSeq (wRet (wOp dIs (wVar 0) (wCst .non)))
  wNext) wNext)
  (w_same_l_2 sp))
def w_same_l (sp : SpD) : WS :=
  (wSeq (wIfS (wOrB (wTru (wCl cIsi (wCons (wVar 1) (wCons (wCst (.ty "tuple")) wNil)))) (wTru (wCl cIsi (wCons (wVar 1) (wCons (wCst (.ty "list")) wNil))))) (wSeq (wIfS (wOrB (wBl (wOp dNe (wCl cIsi (wCons (wVar 1) (wCons (wCst (.ty "tuple")) wNil))) (wCl cIsi (wCons (wVar 0) (wCons (wCst (.ty "tuple")) wNil))))) (wBl (wOp dNe (wCl cIsi (wCons (wVar 1) (wCons (wCst (.ty "list")) wNil))) (wCl cIsi (wCons (wVar 0) (wCons (wCst (.ty "list")) wNil)))))) (wSeq (wRet (wCst (.bl false)))
  wNext) wNext)
  (wSeq (wIfS (wBl (wOp dNe (wCl cLen (wCons (wVar 0) wNil)) (wCl cLen (wCons (wVar 1) wNil)))) (wSeq (wRet (wCst (.bl false)))
  wNext) wNext)
  (wSeq (wFor (wRng1 (wCons (wCl cLen (wCons (wVar 1) wNil)) wNil)) (gNm 2) (wSeq (wIfS (wNotB (wTru (wCall sp (wCons (wOp dIx (wVar 0) (wVar 2)) (wCons (wOp dIx (wVar 1) (wVar 2)) wNil))))) (wSeq (wRet (wCst (.bl false)))
  wNext) wNext)
  wNext))
  (wSeq (wRet (wCst (.bl true)))
  wNext)))) wNext)
  (w_same_l_1 sp))
def sp_same_l : Nat → SpD
  | 0 => fun _ _ _ _ => False
  | d + 1 => spW ["_law_actual", "_law_due", "_law_k"] 2 (w_same_l (sp_same_l d))
theorem k_same_l {U : Ud} (F : Fct hd U) (d : Nat) (hr : FnHas U.P U.w U.K U.mg U.base (0 + d) "_law_same" (sp_same_l d)) : JSs U (0 + d) ⟨["_law_actual", "_law_due", "_law_k"], d_same_l.scope, fun _ => true, false, none, true⟩ d_same_l.body (w_same_l (sp_same_l d)) := by
  generalize sp_same_l d = sp at *
  exact (s_cons (s_if (t_w (w_or (t_val (m_blt f_isi (F.free 35 rfl) (by decide +kernel) (m_acons (m_var 1 (by decide +kernel)) (m_acons (m_ty "tuple" (F.free 0 rfl) (by decide +kernel)) a_nil (by decide +kernel)) (by decide +kernel))) (fun _ _ => rfl)) (w_or1 (t_val (m_blt f_isi (F.free 35 rfl) (by decide +kernel) (m_acons (m_var 1 (by decide +kernel)) (m_acons (m_ty "list" (F.free 23 rfl) (by decide +kernel)) a_nil (by decide +kernel)) (by decide +kernel))) (fun _ _ => rfl))))) (s_cons (s_if (t_w (w_or (t_cmp c_ne (m_blt f_isi (F.free 35 rfl) (by decide +kernel) (m_acons (m_var 1 (by decide +kernel)) (m_acons (m_ty "tuple" (F.free 0 rfl) (by decide +kernel)) a_nil (by decide +kernel)) (by decide +kernel))) (m_blt f_isi (F.free 35 rfl) (by decide +kernel) (m_acons (m_var 0 (by decide +kernel)) (m_acons (m_ty "tuple" (F.free 0 rfl) (by decide +kernel)) a_nil (by decide +kernel)) (by decide +kernel))) (by decide +kernel)) (w_or1 (t_cmp c_ne (m_blt f_isi (F.free 35 rfl) (by decide +kernel) (m_acons (m_var 1 (by decide +kernel)) (m_acons (m_ty "list" (F.free 23 rfl) (by decide +kernel)) a_nil (by decide +kernel)) (by decide +kernel))) (m_blt f_isi (F.free 35 rfl) (by decide +kernel) (m_acons (m_var 0 (by decide +kernel)) (m_acons (m_ty "list" (F.free 23 rfl) (by decide +kernel)) a_nil (by decide +kernel)) (by decide +kernel))) (by decide +kernel))))) (s_cons (s_ret n_bl)
  s_nil) s_nil)
  (s_cons (s_if (t_cmp c_ne (m_blt f_len (F.free 12 rfl) (by decide +kernel) (m_acons (m_var 0 (by decide +kernel)) a_nil (by decide +kernel))) (m_blt f_len (F.free 12 rfl) (by decide +kernel) (m_acons (m_var 1 (by decide +kernel)) a_nil (by decide +kernel))) (by decide +kernel)) (s_cons (s_ret n_bl)
  s_nil) s_nil)
  (s_cons (m_for (by decide +kernel) (m_rng1 (F.free 2 rfl) (by decide +kernel) (m_acons (m_blt f_len (F.free 12 rfl) (by decide +kernel) (m_acons (m_var 1 (by decide +kernel)) a_nil (by decide +kernel))) a_nil (by decide +kernel))) (m_gnm 2 (by decide +kernel) (fun _ _ => trivial)) (s_cons (s_if (t_not (t_val (m_call hr (Nat.le_refl _) (by decide +kernel) (m_acons (n_ix (m_var 0 (by decide +kernel)) (m_var 2 (by decide +kernel)) (fun _ _ => rfl)) (m_acons (n_ix (m_var 1 (by decide +kernel)) (m_var 2 (by decide +kernel)) (fun _ _ => rfl)) a_nil (by decide +kernel)) (by decide +kernel))) (fun _ _ => rfl))) (s_cons (s_ret n_bl)
  s_nil) s_nil)
  s_nil))
  (s_cons (s_ret n_bl)
  s_nil)))) s_nil)
  (s_cons (s_if (t_cmp c_is (m_var 1 (by decide +kernel)) n_non (by decide +kernel)) (s_cons (s_ret (n_cmp c_is (m_var 0 (by decide +kernel)) n_non (by decide +kernel)))
  s_nil) s_nil)
  (s_cons (s_if (t_val (m_blt f_isi (F.free 35 rfl) (by decide +kernel) (m_acons (m_var 1 (by decide +kernel)) (m_acons (m_ty "bool" (F.free 34 rfl) (by decide +kernel)) a_nil (by decide +kernel)) (by decide +kernel))) (fun _ _ => rfl)) (s_cons (s_ret (n_and (m_blt f_isi (F.free 35 rfl) (by decide +kernel) (m_acons (m_var 0 (by decide +kernel)) (m_acons (m_ty "bool" (F.free 34 rfl) (by decide +kernel)) a_nil (by decide +kernel)) (by decide +kernel))) (n_one (n_cmp c_eq (m_var 0 (by decide +kernel)) (m_var 1 (by decide +kernel)) (by decide +kernel)))))
  s_nil) s_nil)
  (s_cons (s_if (t_val (m_blt f_isi (F.free 35 rfl) (by decide +kernel) (m_acons (m_var 1 (by decide +kernel)) (m_acons (m_ty "str" (F.free 36 rfl) (by decide +kernel)) a_nil (by decide +kernel)) (by decide +kernel))) (fun _ _ => rfl)) (s_cons (s_ret (n_and (m_blt f_isi (F.free 35 rfl) (by decide +kernel) (m_acons (m_var 0 (by decide +kernel)) (m_acons (m_ty "str" (F.free 36 rfl) (by decide +kernel)) a_nil (by decide +kernel)) (by decide +kernel))) (n_one (n_cmp c_eq (m_var 0 (by decide +kernel)) (m_var 1 (by decide +kernel)) (by decide +kernel)))))
  s_nil) s_nil)
  (s_cons (s_ret (n_and (m_blt f_isi (F.free 35 rfl) (by decide +kernel) (m_acons (m_var 0 (by decide +kernel)) (m_acons (m_ty "int" (F.free 30 rfl) (by decide +kernel)) a_nil (by decide +kernel)) (by decide +kernel))) (n_and (n_not (m_blt f_isi (F.free 35 rfl) (by decide +kernel) (m_acons (m_var 0 (by decide +kernel)) (m_acons (m_ty "bool" (F.free 34 rfl) (by decide +kernel)) a_nil (by decide +kernel)) (by decide +kernel)))) (n_one (n_cmp c_eq (m_var 0 (by decide +kernel)) (m_var 1 (by decide +kernel)) (by decide +kernel))))))
  s_nil)))))
theorem h_same_l {U : Ud} (F : Fct hd U) : ∀ d, FnHas U.P U.w U.K U.mg U.base (0 + d) "_law_same" (sp_same_l d)
  | 0 => F.fn0 (ps := ["_law_actual", "_law_due"]) 17 37 rfl rfl ⟨rfl, rfl⟩ rfl (fun _ _ _ _ _ _ us hl => match us, hl with | [_, _], _ => rfl)
  | d + 1 => F.fn (N := ["_law_actual", "_law_due", "_law_k"]) (ps := ["_law_actual", "_law_due"]) 17 37 rfl rfl ⟨rfl, rfl⟩ rfl ⟨rfl, rfl, rfl, by decide +kernel, rfl, by decide +kernel, by decide +kernel⟩ (fun _ _ _ _ _ _ us hl => match us, hl with | [_, _], _ => rfl) (k_same_l F d (h_same_l F d))
/-! _law_signs -/
def w_signs_l_2 : WS :=
  (wSeq (wRet (wVar 1))
  wNext)
def w_signs_l_1 : WS :=
  (wSeq (wFor (wRng1 (wCons (wOp dAdd (wCst (.int 2)) (wCall sp_draw_l (wCons (wVar 0) (wCons (wCst (.int 5)) wNil)))) wNil)) (gNm 2) (wSeq (wAsg (wCst (.str "")) (gNm 3))
  (wSeq (wFor (wRng1 (wCons (wOp dAdd (wCst (.int 1)) (wCall sp_draw_l (wCons (wVar 0) (wCons (wOp dIx (wLst (wCons (wCst (.int 1)) (wCons (wCst (.int 1)) (wCons (wCst (.int 2)) (wCons (wCst (.int 4)) wNil))))) (wCall sp_draw_l (wCons (wVar 0) (wCons (wCst (.int 4)) wNil)))) wNil)))) wNil)) (gNm 4) (wSeq (wAsg (wOp dAdd (wVar 3) (wOp dIx (wCst (.str "abxyz")) (wCall sp_draw_l (wCons (wVar 0) (wCons (wCst (.int 5)) wNil))))) (gNm 3))
  wNext))
  (wSeq (wAsg (wOp dAdd (wOp dAdd (wOp dIx (wCst (.str "xytXYWaZ")) (wCall sp_draw_l (wCons (wVar 0) (wCons (wCst (.int 8)) wNil)))) (wCst (.str "_"))) (wVar 3)) (gNm 5))
  (wSeq (wIfS (wBl (wOp dNotIn (wVar 5) (wVar 1))) (wSeq (wDrop (wBm "list" mApp (wVar 1) (wCons (wVar 5) wNil)))
  wNext) wNext)
  wNext)))))
  w_signs_l_2)
def w_signs_l : WS :=
  (wSeq (wAsg (wLst wNil) (gNm 1))
  w_signs_l_1)
def sp_signs_l : SpD := spW ["_law_tape_here", "_law_found", "_law_k", "_law_name", "_law_turn", "_law_sign"] 1 w_signs_l
theorem k_signs_l {U : Ud} (F : Fct hd U) : JSs U 2 ⟨["_law_tape_here", "_law_found", "_law_k", "_law_name", "_law_turn", "_law_sign"], d_signs_l.scope, fun _ => true, false, none, true⟩ d_signs_l.body w_signs_l :=
  (s_cons (m_set 1 (by decide +kernel) (n_lst a_nil))
  (s_cons (m_for (by decide +kernel) (m_rng1 (F.free 2 rfl) (by decide +kernel) (m_acons (n_bin b_add n_int (m_call (h_draw_l F) (by decide) (by decide +kernel) (m_acons (m_var 0 (by decide +kernel)) (m_acons n_int a_nil (by decide +kernel)) (by decide +kernel)))) a_nil (by decide +kernel))) (m_gnm 2 (by decide +kernel) (fun _ _ => trivial)) (s_cons (m_set 3 (by decide +kernel) n_str)
  (s_cons (m_for (by decide +kernel) (m_rng1 (F.free 2 rfl) (by decide +kernel) (m_acons (n_bin b_add n_int (m_call (h_draw_l F) (by decide) (by decide +kernel) (m_acons (m_var 0 (by decide +kernel)) (m_acons (n_ix (n_lst (m_acons n_int (m_acons n_int (m_acons n_int (m_acons n_int a_nil (by decide +kernel)) (by decide +kernel)) (by decide +kernel)) (by decide +kernel))) (m_call (h_draw_l F) (by decide) (by decide +kernel) (m_acons (m_var 0 (by decide +kernel)) (m_acons n_int a_nil (by decide +kernel)) (by decide +kernel))) (fun _ _ => rfl)) a_nil (by decide +kernel)) (by decide +kernel)))) a_nil (by decide +kernel))) (m_gnm 4 (by decide +kernel) (fun _ _ => trivial)) (s_cons (m_set 3 (by decide +kernel) (n_bin b_add (m_var 3 (by decide +kernel)) (n_ix n_str (m_call (h_draw_l F) (by decide) (by decide +kernel) (m_acons (m_var 0 (by decide +kernel)) (m_acons n_int a_nil (by decide +kernel)) (by decide +kernel))) (fun _ _ => rfl))))
  s_nil))
  (s_cons (m_set 5 (by decide +kernel) (n_bin b_add (n_bin b_add (n_ix n_str (m_call (h_draw_l F) (by decide) (by decide +kernel) (m_acons (m_var 0 (by decide +kernel)) (m_acons n_int a_nil (by decide +kernel)) (by decide +kernel))) (fun _ _ => rfl)) n_str) (m_var 3 (by decide +kernel))))
  (s_cons (s_if (t_cmp c_nin (m_var 5 (by decide +kernel)) (m_var 1 (by decide +kernel)) (by decide +kernel)) (s_cons (s_expr (m_bm f_app (fun _ _ _ => md_app) (by decide +kernel) (m_var 1 (by decide +kernel)) (m_acons (m_var 5 (by decide +kernel)) a_nil (by decide +kernel))) rfl)
  s_nil) s_nil)
  s_nil)))))
  (s_cons (s_ret (m_var 1 (by decide +kernel)))
  s_nil)))
theorem h_signs_l {U : Ud} (F : Fct hd U) : FnHas U.P U.w U.K U.mg U.base 3 "_law_signs" sp_signs_l := F.fn (N := ["_law_tape_here", "_law_found", "_law_k", "_law_name", "_law_turn", "_law_sign"]) (ps := ["_law_tape_here"]) 18 38 rfl rfl ⟨rfl, rfl⟩ rfl ⟨rfl, rfl, rfl, by decide +kernel, rfl, by decide +kernel, by decide +kernel⟩ (fun _ _ _ _ _ _ us hl => match us, hl with | [_], _ => rfl) (k_signs_l F)
/-! _law_factor -/
def w_factor_l_1 : WS :=
  (wSeq (wRet (wOp dIx (wLst (wCons (wVar 2) (wCons (wOp dSub (wCst (.int 0)) (wVar 2)) wNil))) (wCall sp_draw_l (wCons (wVar 0) (wCons (wCst (.int 2)) wNil)))))
  wNext)
def w_factor_l : WS :=
  (wSeq (wAsg (wOp dAdd (wCst (.int 1)) (wCall sp_draw_l (wCons (wVar 0) (wCons (wOp dIx (wLst (wCons (wCst (.int 3)) (wCons (wCst (.int 12)) (wCons (wOp dPow (wCst (.int 10)) (wCst (.int 6))) (wCons (wVar 1) wNil))))) (wCall sp_draw_l (wCons (wVar 0) (wCons (wCst (.int 4)) wNil)))) wNil)))) (gNm 2))
  w_factor_l_1)
def sp_factor_l : SpD := spW ["_law_tape_here", "_law_great", "_law_number"] 2 w_factor_l
theorem k_factor_l {U : Ud} (F : Fct hd U) : JSs U 2 ⟨["_law_tape_here", "_law_great", "_law_number"], d_factor_l.scope, fun _ => true, false, none, true⟩ d_factor_l.body w_factor_l :=
  (s_cons (m_set 2 (by decide +kernel) (n_bin b_add n_int (m_call (h_draw_l F) (by decide) (by decide +kernel) (m_acons (m_var 0 (by decide +kernel)) (m_acons (n_ix (n_lst (m_acons n_int (m_acons n_int (m_acons (n_bin b_pow n_int n_int) (m_acons (m_var 1 (by decide +kernel)) a_nil (by decide +kernel)) (by decide +kernel)) (by decide +kernel)) (by decide +kernel))) (m_call (h_draw_l F) (by decide) (by decide +kernel) (m_acons (m_var 0 (by decide +kernel)) (m_acons n_int a_nil (by decide +kernel)) (by decide +kernel))) (fun _ _ => rfl)) a_nil (by decide +kernel)) (by decide +kernel)))))
  (s_cons (s_ret (n_ix (n_lst (m_acons (m_var 2 (by decide +kernel)) (m_acons (n_bin b_sub n_int (m_var 2 (by decide +kernel))) a_nil (by decide +kernel)) (by decide +kernel))) (m_call (h_draw_l F) (by decide) (by decide +kernel) (m_acons (m_var 0 (by decide +kernel)) (m_acons n_int a_nil (by decide +kernel)) (by decide +kernel))) (fun _ _ => rfl)))
  s_nil))
theorem h_factor_l {U : Ud} (F : Fct hd U) : FnHas U.P U.w U.K U.mg U.base 3 "_law_factor" sp_factor_l := F.fn (N := ["_law_tape_here", "_law_great", "_law_number"]) (ps := ["_law_tape_here", "_law_great"]) 19 39 rfl rfl ⟨rfl, rfl⟩ rfl ⟨rfl, rfl, rfl, by decide +kernel, rfl, by decide +kernel, by decide +kernel⟩ (fun _ _ _ _ _ _ us hl => match us, hl with | [_, _], _ => rfl) (k_factor_l F)
/-! _law_table -/
def w_table_l_2 : WS :=
  (wSeq (wRet (wVar 5))
  wNext)
def w_table_l_1 : WS :=
  (wSeq (wFor (wRng1 (wCons (wCall sp_draw_l (wCons (wVar 0) (wCons (wOp dAdd (wVar 2) (wCst (.int 1))) wNil))) wNil)) (gNm 6) (wSeq (wAsg wDct0 (gNm 7))
  (wSeq (wAsg (wVar 3) (gNm 8))
  (wSeq (wFor (wRng1 (wCons (wCall sp_draw_l (wCons (wVar 0) (wCons (wCst (.int 4)) wNil))) wNil)) (gNm 9) (wSeq (wAsg (wOp dAdd (wCst (.int 1)) (wCall sp_draw_l (wCons (wVar 0) (wCons (wCst (.int 3)) wNil)))) (gNm 11))
  (wSeq (wIfS (wBl (wOp dLe (wVar 11) (wVar 8))) (wSeq (wAsg (wOp dIx (wVar 1) (wCall sp_draw_l (wCons (wVar 0) (wCons (wCl cLen (wCons (wVar 1) wNil)) wNil)))) (gNm 12))
  (wSeq (wAsg (wOp dAdd (wBm "dict" mGet2 (wVar 7) (wCons (wVar 12) (wCons (wCst (.int 0)) wNil))) (wVar 11)) (gSubD (wVar 7) (wVar 12)))
  (wSeq (wAsg (wOp dSub (wVar 8) (wVar 11)) (gNm 8))
  wNext))) wNext)
  wNext)))
  (wSeq (wAsg (wCl cTuple (wCons (wLc (wWk (wCl cSortT (wCons (wCl cLst (wCons (wVar 7) wNil)) wNil))) [12] (gNm 12) wYes (wTup (wCons (wVar 12) (wCons (wOp dIx (wVar 7) (wVar 12)) wNil)))) wNil)) (gNm 10))
  (wSeq (wAsg (wCall sp_factor_l (wCons (wVar 0) (wCons (wVar 4) wNil))) (gSubD (wVar 5) (wVar 10)))
  wNext))))))
  w_table_l_2)
def w_table_l : WS :=
  (wSeq (wAsg wDct0 (gNm 5))
  w_table_l_1)
def sp_table_l : SpD := spW ["_law_tape_here", "_law_signs_here", "_law_terms", "_law_height", "_law_great", "_law_table_here", "_law_k", "_law_exponents", "_law_left", "_law_turn", "_law_monomial", "_law_more", "_law_sign"] 5 w_table_l
theorem k_table_l {U : Ud} (F : Fct hd U) : JSs U 3 ⟨["_law_tape_here", "_law_signs_here", "_law_terms", "_law_height", "_law_great", "_law_table_here", "_law_k", "_law_exponents", "_law_left", "_law_turn", "_law_monomial", "_law_more", "_law_sign"], d_table_l.scope, fun _ => true, false, none, true⟩ d_table_l.body w_table_l :=
  (s_cons (m_set 5 (by decide +kernel) n_dct0)
  (s_cons (m_for (by decide +kernel) (m_rng1 (F.free 2 rfl) (by decide +kernel) (m_acons (m_call (h_draw_l F) (by decide) (by decide +kernel) (m_acons (m_var 0 (by decide +kernel)) (m_acons (n_bin b_add (m_var 2 (by decide +kernel)) n_int) a_nil (by decide +kernel)) (by decide +kernel))) a_nil (by decide +kernel))) (m_gnm 6 (by decide +kernel) (fun _ _ => trivial)) (s_cons (m_set 7 (by decide +kernel) n_dct0)
  (s_cons (m_set 8 (by decide +kernel) (m_var 3 (by decide +kernel)))
  (s_cons (m_for (by decide +kernel) (m_rng1 (F.free 2 rfl) (by decide +kernel) (m_acons (m_call (h_draw_l F) (by decide) (by decide +kernel) (m_acons (m_var 0 (by decide +kernel)) (m_acons n_int a_nil (by decide +kernel)) (by decide +kernel))) a_nil (by decide +kernel))) (m_gnm 9 (by decide +kernel) (fun _ _ => trivial)) (s_cons (m_set 11 (by decide +kernel) (n_bin b_add n_int (m_call (h_draw_l F) (by decide) (by decide +kernel) (m_acons (m_var 0 (by decide +kernel)) (m_acons n_int a_nil (by decide +kernel)) (by decide +kernel)))))
  (s_cons (s_if (t_cmp c_le (m_var 11 (by decide +kernel)) (m_var 8 (by decide +kernel)) (by decide +kernel)) (s_cons (m_set 12 (by decide +kernel) (n_ix (m_var 1 (by decide +kernel)) (m_call (h_draw_l F) (by decide) (by decide +kernel) (m_acons (m_var 0 (by decide +kernel)) (m_acons (m_blt f_len (F.free 12 rfl) (by decide +kernel) (m_acons (m_var 1 (by decide +kernel)) a_nil (by decide +kernel))) a_nil (by decide +kernel)) (by decide +kernel))) (fun _ _ => rfl)))
  (s_cons (s_asg (n_bin b_add (m_bm f_get (fun _ _ g => md_get2 g.hu) (by decide +kernel) (m_var 7 (by decide +kernel)) (m_acons (m_var 12 (by decide +kernel)) (m_acons n_int a_nil (by decide +kernel)) (by decide +kernel))) (m_var 11 (by decide +kernel))) (g_sub (m_var 7 (by decide +kernel)) (m_var 12 (by decide +kernel)) (fun _ _ => rfl)) (fun _ => rfl) (fun _ => rfl) (fun _ => rfl))
  (s_cons (m_set 8 (by decide +kernel) (n_bin b_sub (m_var 8 (by decide +kernel)) (m_var 11 (by decide +kernel))))
  s_nil))) s_nil)
  s_nil)))
  (s_cons (m_set 10 (by decide +kernel) (m_bty f_tuple (F.free 0 rfl) (by decide +kernel) (m_acons (m_lc [("_law_sign", 12)] (by decide +kernel) (m_wk (m_blt f_sortT (F.free 14 rfl) (by decide +kernel) (m_acons (m_bty (f_lst rfl) (F.free 23 rfl) (by decide +kernel) (m_acons (m_var 7 (by decide +kernel)) a_nil (by decide +kernel))) a_nil (by decide +kernel)))) (m_gnm 12 (by decide +kernel) (fun σ v => ownR_set (by decide) σ _)) ts_nil (n_tup (m_acons (m_var 12 (by decide +kernel)) (m_acons (n_ix (m_var 7 (by decide +kernel)) (m_var 12 (by decide +kernel)) (fun _ _ => rfl)) a_nil (by decide +kernel)) (by decide +kernel)))) a_nil (by decide +kernel))))
  (s_cons (s_asg (m_call (h_factor_l F) (by decide) (by decide +kernel) (m_acons (m_var 0 (by decide +kernel)) (m_acons (m_var 4 (by decide +kernel)) a_nil (by decide +kernel)) (by decide +kernel))) (g_sub (m_var 5 (by decide +kernel)) (m_var 10 (by decide +kernel)) (fun _ _ => rfl)) (fun _ => rfl) (fun _ => rfl) (fun _ => rfl))
  s_nil))))))
  (s_cons (s_ret (m_var 5 (by decide +kernel)))
  s_nil)))
theorem h_table_l {U : Ud} (F : Fct hd U) : FnHas U.P U.w U.K U.mg U.base 4 "_law_table" sp_table_l := F.fn (N := ["_law_tape_here", "_law_signs_here", "_law_terms", "_law_height", "_law_great", "_law_table_here", "_law_k", "_law_exponents", "_law_left", "_law_turn", "_law_monomial", "_law_more", "_law_sign"]) (ps := ["_law_tape_here", "_law_signs_here", "_law_terms", "_law_height", "_law_great"]) 20 40 rfl rfl ⟨rfl, rfl⟩ rfl ⟨rfl, rfl, rfl, by decide +kernel, rfl, by decide +kernel, by decide +kernel⟩ (fun _ _ _ _ _ _ us hl => match us, hl with | [_, _, _, _, _], _ => rfl) (k_table_l F)
/-! _law_poly -/
def w_poly_l : WS :=
  (wSeq (wRet (wCl cTuple (wCons (wLc (wWk (wCl cSortT (wCons (wCl cLst (wCons (wVar 0) wNil)) wNil))) [1] (gNm 1) (wBl (wOp dNe (wOp dIx (wVar 0) (wVar 1)) (wCst (.int 0)))) (wTup (wCons (wVar 1) (wCons (wOp dIx (wVar 0) (wVar 1)) wNil)))) wNil)))
  wNext)
def sp_poly_l : SpD := spW ["_law_table_here", "_law_monomial"] 1 w_poly_l
theorem k_poly_l {U : Ud} (F : Fct hd U) : JSs U 0 ⟨["_law_table_here", "_law_monomial"], d_poly_l.scope, fun _ => true, false, none, true⟩ d_poly_l.body w_poly_l :=
  (s_cons (s_ret (m_bty f_tuple (F.free 0 rfl) (by decide +kernel) (m_acons (m_lc [("_law_monomial", 1)] (by decide +kernel) (m_wk (m_blt f_sortT (F.free 14 rfl) (by decide +kernel) (m_acons (m_bty (f_lst rfl) (F.free 23 rfl) (by decide +kernel) (m_acons (m_var 0 (by decide +kernel)) a_nil (by decide +kernel))) a_nil (by decide +kernel)))) (m_gnm 1 (by decide +kernel) (fun σ v => ownR_set (by decide) σ _)) (ts_one (t_cmp c_ne (n_ix (m_var 0 (by decide +kernel)) (m_var 1 (by decide +kernel)) (fun _ _ => rfl)) n_int (by decide +kernel))) (n_tup (m_acons (m_var 1 (by decide +kernel)) (m_acons (n_ix (m_var 0 (by decide +kernel)) (m_var 1 (by decide +kernel)) (fun _ _ => rfl)) a_nil (by decide +kernel)) (by decide +kernel)))) a_nil (by decide +kernel))))
  s_nil)
theorem h_poly_l {U : Ud} (F : Fct hd U) : FnHas U.P U.w U.K U.mg U.base 1 "_law_poly" sp_poly_l := F.fn (N := ["_law_table_here", "_law_monomial"]) (ps := ["_law_table_here"]) 21 41 rfl rfl ⟨rfl, rfl⟩ rfl ⟨rfl, rfl, rfl, by decide +kernel, rfl, by decide +kernel, by decide +kernel⟩ (fun _ _ _ _ _ _ us hl => match us, hl with | [_], _ => rfl) (k_poly_l F)
/-! _law_handed -/
def w_handed_l_1 : WS :=
  (wSeq (wRet (wVar 1))
  wNext)
def w_handed_l : WS :=
  (wSeq (wIfS (wBl (wOp dEq (wCall sp_draw_l (wCons (wVar 0) (wCons (wCst (.int 4)) wNil))) (wCst (.int 0)))) (wSeq (wRet (wLc (wWk (wVar 1)) [2, 3] (gTp [(gNm 2), (gNm 3)]) wYes (wLst (wCons (wLc (wWk (wVar 2)) [4] (gNm 4) wYes (wCl cLst (wCons (wVar 4) wNil))) (wCons (wVar 3) wNil)))))
  wNext) wNext)
  w_handed_l_1)
def sp_handed_l : SpD := spW ["_law_tape_here", "_law_poly_here", "_law_monomial", "_law_number", "_law_pair"] 2 w_handed_l
theorem k_handed_l {U : Ud} (F : Fct hd U) : JSs U 2 ⟨["_law_tape_here", "_law_poly_here", "_law_monomial", "_law_number", "_law_pair"], d_handed_l.scope, fun _ => true, false, none, true⟩ d_handed_l.body w_handed_l :=
  (s_cons (s_if (t_cmp c_eq (m_call (h_draw_l F) (by decide) (by decide +kernel) (m_acons (m_var 0 (by decide +kernel)) (m_acons n_int a_nil (by decide +kernel)) (by decide +kernel))) n_int (by decide +kernel)) (s_cons (s_ret (m_lc [("_law_monomial", 2), ("_law_number", 3)] (by decide +kernel) (m_wk (m_var 1 (by decide +kernel))) (g_tp rfl (gs_cons (fun _ _ _ h1 h2 => h2.trans h1) (m_gnm 2 (by decide +kernel) (fun σ v => ownR_set (by decide) σ _)) (gs_cons (fun _ _ _ h1 h2 => h2.trans h1) (m_gnm 3 (by decide +kernel) (fun σ v => ownR_set (by decide) σ _)) (gs_nil (fun _ => rfl)) (fun _ => rfl)) (fun _ => rfl)) (fun _ => rfl) (fun _ => rfl)) ts_nil (n_lst (m_acons (m_lc [("_law_pair", 4)] (by decide +kernel) (m_wk (m_var 2 (by decide +kernel))) (m_gnm 4 (by decide +kernel) (fun σ v => ownR_set (by decide) σ _)) ts_nil (m_bty (f_lst rfl) (F.free 23 rfl) (by decide +kernel) (m_acons (m_var 4 (by decide +kernel)) a_nil (by decide +kernel)))) (m_acons (m_var 3 (by decide +kernel)) a_nil (by decide +kernel)) (by decide +kernel)))))
  s_nil) s_nil)
  (s_cons (s_ret (m_var 1 (by decide +kernel)))
  s_nil))
theorem h_handed_l {U : Ud} (F : Fct hd U) : FnHas U.P U.w U.K U.mg U.base 3 "_law_handed" sp_handed_l := F.fn (N := ["_law_tape_here", "_law_poly_here", "_law_monomial", "_law_number", "_law_pair"]) (ps := ["_law_tape_here", "_law_poly_here"]) 22 42 rfl rfl ⟨rfl, rfl⟩ rfl ⟨rfl, rfl, rfl, by decide +kernel, rfl, by decide +kernel, by decide +kernel⟩ (fun _ _ _ _ _ _ us hl => match us, hl with | [_, _], _ => rfl) (k_handed_l F)
/-! _law_divisor -/
def w_divisor_l_3 : WS :=
  (wSeq (wRet (wVar 2))
  wNext)
def w_divisor_l_2 : WS :=
  (wSeq (wFor (wRng1 (wCons (wCst (.int 30000)) wNil)) (gNm 4) (wSeq (wIfS (wBl (wOp dEq (wVar 3) (wCst (.int 0)))) (wSeq wBrk
  wNext) wNext)
  (wSeq (wAsg (wOp dMod (wCl cInt (wCons (wVar 2) wNil)) (wVar 3)) (gNm 5))
  (wSeq (wAsg (wVar 3) (gNm 2))
  (wSeq (wAsg (wVar 5) (gNm 3))
  wNext)))))
  w_divisor_l_3)
def w_divisor_l_1 : WS :=
  (wSeq (wAsg (wVar 1) (gNm 3))
  w_divisor_l_2)
def w_divisor_l : WS :=
  (wSeq (wAsg (wCl cMax (wCons (wVar 0) (wCons (wOp dSub (wCst (.int 0)) (wVar 0)) wNil))) (gNm 2))
  w_divisor_l_1)
def sp_divisor_l : SpD := spW ["_law_one", "_law_two", "_law_high", "_law_low", "_law_turn", "_law_rest"] 2 w_divisor_l
theorem k_divisor_l {U : Ud} (F : Fct hd U) : JSs U 0 ⟨["_law_one", "_law_two", "_law_high", "_law_low", "_law_turn", "_law_rest"], d_divisor_l.scope, fun _ => true, false, none, true⟩ d_divisor_l.body w_divisor_l :=
  (s_cons (m_set 2 (by decide +kernel) (m_blt (f_max rfl) (F.free 43 rfl) (by decide +kernel) (m_acons (m_var 0 (by decide +kernel)) (m_acons (n_bin b_sub n_int (m_var 0 (by decide +kernel))) a_nil (by decide +kernel)) (by decide +kernel))))
  (s_cons (m_set 3 (by decide +kernel) (m_var 1 (by decide +kernel)))
  (s_cons (m_for (by decide +kernel) (m_rng1 (F.free 2 rfl) (by decide +kernel) (m_acons n_int a_nil (by decide +kernel))) (m_gnm 4 (by decide +kernel) (fun _ _ => trivial)) (s_cons (s_if (t_cmp c_eq (m_var 3 (by decide +kernel)) n_int (by decide +kernel)) (s_cons s_brk
  s_nil) s_nil)
  (s_cons (m_set 5 (by decide +kernel) (n_bin b_mod (m_bty f_int (F.free 30 rfl) (by decide +kernel) (m_acons (m_var 2 (by decide +kernel)) a_nil (by decide +kernel))) (m_var 3 (by decide +kernel))))
  (s_cons (m_set 2 (by decide +kernel) (m_var 3 (by decide +kernel)))
  (s_cons (m_set 3 (by decide +kernel) (m_var 5 (by decide +kernel)))
  s_nil)))))
  (s_cons (s_ret (m_var 2 (by decide +kernel)))
  s_nil))))
theorem h_divisor_l {U : Ud} (F : Fct hd U) : FnHas U.P U.w U.K U.mg U.base 1 "_law_divisor" sp_divisor_l := F.fn (N := ["_law_one", "_law_two", "_law_high", "_law_low", "_law_turn", "_law_rest"]) (ps := ["_law_one", "_law_two"]) 23 44 rfl rfl ⟨rfl, rfl⟩ rfl ⟨rfl, rfl, rfl, by decide +kernel, rfl, by decide +kernel, by decide +kernel⟩ (fun _ _ _ _ _ _ us hl => match us, hl with | [_, _], _ => rfl) (k_divisor_l F)
/-! _law_lowest -/
def w_lowest_l_1 : WS :=
  (wSeq (wRet (wTup (wCons (wOp dDiv (wVar 0) (wVar 2)) (wCons (wOp dDiv (wVar 1) (wVar 2)) wNil))))
  wNext)
def w_lowest_l : WS :=
  (wSeq (wAsg (wCall sp_divisor_l (wCons (wVar 0) (wCons (wVar 1) wNil))) (gNm 2))
  w_lowest_l_1)
def sp_lowest_l : SpD := spW ["_law_top", "_law_bottom", "_law_shared"] 2 w_lowest_l
theorem k_lowest_l {U : Ud} (F : Fct hd U) : JSs U 1 ⟨["_law_top", "_law_bottom", "_law_shared"], d_lowest_l.scope, fun _ => true, false, none, true⟩ d_lowest_l.body w_lowest_l :=
  (s_cons (m_set 2 (by decide +kernel) (m_call (h_divisor_l F) (by decide) (by decide +kernel) (m_acons (m_var 0 (by decide +kernel)) (m_acons (m_var 1 (by decide +kernel)) a_nil (by decide +kernel)) (by decide +kernel))))
  (s_cons (s_ret (n_tup (m_acons (n_bin b_div (m_var 0 (by decide +kernel)) (m_var 2 (by decide +kernel))) (m_acons (n_bin b_div (m_var 1 (by decide +kernel)) (m_var 2 (by decide +kernel))) a_nil (by decide +kernel)) (by decide +kernel))))
  s_nil))
theorem h_lowest_l {U : Ud} (F : Fct hd U) : FnHas U.P U.w U.K U.mg U.base 2 "_law_lowest" sp_lowest_l := F.fn (N := ["_law_top", "_law_bottom", "_law_shared"]) (ps := ["_law_top", "_law_bottom"]) 24 45 rfl rfl ⟨rfl, rfl⟩ rfl ⟨rfl, rfl, rfl, by decide +kernel, rfl, by decide +kernel, by decide +kernel⟩ (fun _ _ _ _ _ _ us hl => match us, hl with | [_, _], _ => rfl) (k_lowest_l F)
/-! _law_fraction -/
def w_fraction_l_4 : WS :=
  (wSeq (wRet (wCall sp_lowest_l (wCons (wVar 3) (wCons (wOp dAdd (wCst (.int 1)) (wCall sp_draw_l (wCons (wVar 0) (wCons (wVar 2) wNil)))) wNil))))
  wNext)
def w_fraction_l_3 : WS :=
  (wSeq (wAsg (wOp dSub (wCall sp_draw_l (wCons (wVar 0) (wCons (wVar 2) wNil))) (wOp dDiv (wVar 2) (wCst (.int 3)))) (gNm 3))
  w_fraction_l_4)
def w_fraction_l_2 : WS :=
  (wSeq (wAsg (wOp dIx (wLst (wCons (wCst (.int 6)) (wCons (wCst (.int 6)) (wCons (wCst (.int 1000)) (wCons (wOp dPow (wCst (.int 10)) (wCst (.int 28))) wNil))))) (wOp dSub (wVar 1) (wCst (.int 2)))) (gNm 2))
  w_fraction_l_3)
def w_fraction_l_1 : WS :=
  (wSeq (wIfS (wBl (wOp dLt (wVar 1) (wCst (.int 2)))) (wSeq (wRet (wTup (wCons (wOp dSub (wCall sp_draw_l (wCons (wVar 0) (wCons (wCst (.int 9)) wNil))) (wCst (.int 4))) (wCons (wCst (.int 1)) wNil))))
  wNext) wNext)
  w_fraction_l_2)
def w_fraction_l : WS :=
  (wSeq (wAsg (wCall sp_draw_l (wCons (wVar 0) (wCons (wCst (.int 6)) wNil))) (gNm 1))
  w_fraction_l_1)
def sp_fraction_l : SpD := spW ["_law_tape_here", "_law_way", "_law_size", "_law_top"] 1 w_fraction_l
theorem k_fraction_l {U : Ud} (F : Fct hd U) : JSs U 2 ⟨["_law_tape_here", "_law_way", "_law_size", "_law_top"], d_fraction_l.scope, fun _ => true, false, none, true⟩ d_fraction_l.body w_fraction_l :=
  (s_cons (m_set 1 (by decide +kernel) (m_call (h_draw_l F) (by decide) (by decide +kernel) (m_acons (m_var 0 (by decide +kernel)) (m_acons n_int a_nil (by decide +kernel)) (by decide +kernel))))
  (s_cons (s_if (t_cmp c_lt (m_var 1 (by decide +kernel)) n_int (by decide +kernel)) (s_cons (s_ret (n_tup (m_acons (n_bin b_sub (m_call (h_draw_l F) (by decide) (by decide +kernel) (m_acons (m_var 0 (by decide +kernel)) (m_acons n_int a_nil (by decide +kernel)) (by decide +kernel))) n_int) (m_acons n_int a_nil (by decide +kernel)) (by decide +kernel))))
  s_nil) s_nil)
  (s_cons (m_set 2 (by decide +kernel) (n_ix (n_lst (m_acons n_int (m_acons n_int (m_acons n_int (m_acons (n_bin b_pow n_int n_int) a_nil (by decide +kernel)) (by decide +kernel)) (by decide +kernel)) (by decide +kernel))) (n_bin b_sub (m_var 1 (by decide +kernel)) n_int) (fun _ _ => rfl)))
  (s_cons (m_set 3 (by decide +kernel) (n_bin b_sub (m_call (h_draw_l F) (by decide) (by decide +kernel) (m_acons (m_var 0 (by decide +kernel)) (m_acons (m_var 2 (by decide +kernel)) a_nil (by decide +kernel)) (by decide +kernel))) (n_bin b_div (m_var 2 (by decide +kernel)) n_int)))
  (s_cons (s_ret (m_call (h_lowest_l F) (by decide) (by decide +kernel) (m_acons (m_var 3 (by decide +kernel)) (m_acons (n_bin b_add n_int (m_call (h_draw_l F) (by decide) (by decide +kernel) (m_acons (m_var 0 (by decide +kernel)) (m_acons (m_var 2 (by decide +kernel)) a_nil (by decide +kernel)) (by decide +kernel)))) a_nil (by decide +kernel)) (by decide +kernel))))
  s_nil)))))
theorem h_fraction_l {U : Ud} (F : Fct hd U) : FnHas U.P U.w U.K U.mg U.base 3 "_law_fraction" sp_fraction_l := F.fn (N := ["_law_tape_here", "_law_way", "_law_size", "_law_top"]) (ps := ["_law_tape_here"]) 25 46 rfl rfl ⟨rfl, rfl⟩ rfl ⟨rfl, rfl, rfl, by decide +kernel, rfl, by decide +kernel, by decide +kernel⟩ (fun _ _ _ _ _ _ us hl => match us, hl with | [_], _ => rfl) (k_fraction_l F)
/-! _law_own_raised -/
def w_own_raised_l_2 : WS :=
  (wSeq (wRet (wVar 2))
  wNext)
def w_own_raised_l_1 : WS :=
  (wSeq (wFor (wRng1 (wCons (wVar 1) wNil)) (gNm 3) (wSeq (wAsg (wOp dMul (wVar 2) (wVar 0)) (gNm 2))
  wNext))
  w_own_raised_l_2)
def w_own_raised_l : WS :=
  (wSeq (wAsg (wCst (.int 1)) (gNm 2))
  w_own_raised_l_1)
def sp_own_raised_l : SpD := spW ["_law_number", "_law_exponent", "_law_product", "_law_turn"] 2 w_own_raised_l
theorem k_own_raised_l {U : Ud} (F : Fct hd U) : JSs U 0 ⟨["_law_number", "_law_exponent", "_law_product", "_law_turn"], d_own_raised_l.scope, fun _ => true, false, none, true⟩ d_own_raised_l.body w_own_raised_l :=
  (s_cons (m_set 2 (by decide +kernel) n_int)
  (s_cons (m_for (by decide +kernel) (m_rng1 (F.free 2 rfl) (by decide +kernel) (m_acons (m_var 1 (by decide +kernel)) a_nil (by decide +kernel))) (m_gnm 3 (by decide +kernel) (fun _ _ => trivial)) (s_cons (m_set 2 (by decide +kernel) (n_bin b_mul (m_var 2 (by decide +kernel)) (m_var 0 (by decide +kernel))))
  s_nil))
  (s_cons (s_ret (m_var 2 (by decide +kernel)))
  s_nil)))
theorem h_own_raised_l {U : Ud} (F : Fct hd U) : FnHas U.P U.w U.K U.mg U.base 1 "_law_own_raised" sp_own_raised_l := F.fn (N := ["_law_number", "_law_exponent", "_law_product", "_law_turn"]) (ps := ["_law_number", "_law_exponent"]) 26 47 rfl rfl ⟨rfl, rfl⟩ rfl ⟨rfl, rfl, rfl, by decide +kernel, rfl, by decide +kernel, by decide +kernel⟩ (fun _ _ _ _ _ _ us hl => match us, hl with | [_, _], _ => rfl) (k_own_raised_l F)
/-! _law_reckoned -/
def w_reckoned_l_6 : WS :=
  (wSeq (wRet (wCall sp_lowest_l (wCons (wVar 5) (wCons (wVar 3) wNil))))
  wNext)
def w_reckoned_l_5 : WS :=
  (wSeq (wFor (wWk (wVar 0)) (gTp [(gNm 6), (gNm 7)]) (wSeq (wAsg (wCl cDict (wCons (wVar 6) wNil)) (gNm 8))
  (wSeq (wFor (wWk (wVar 2)) (gNm 4) (wSeq (wAsg (wBm "dict" mGet2 (wVar 8) (wCons (wVar 4) (wCons (wCst (.int 0)) wNil))) (gNm 9))
  (wSeq (wAsg (wOp dMul (wVar 7) (wCall sp_own_raised_l (wCons (wOp dIx (wOp dIx (wVar 1) (wVar 4)) (wCst (.int 0))) (wCons (wVar 9) wNil)))) (gNm 7))
  (wSeq (wAsg (wOp dMul (wVar 7) (wCall sp_own_raised_l (wCons (wOp dIx (wOp dIx (wVar 1) (wVar 4)) (wCst (.int 1))) (wCons (wOp dSub (wOp dIx (wVar 2) (wVar 4)) (wVar 9)) wNil)))) (gNm 7))
  wNext))))
  (wSeq (wAsg (wOp dAdd (wVar 5) (wVar 7)) (gNm 5))
  wNext))))
  w_reckoned_l_6)
def w_reckoned_l_4 : WS :=
  (wSeq (wAsg (wCst (.int 0)) (gNm 5))
  w_reckoned_l_5)
def w_reckoned_l_3 : WS :=
  (wSeq (wFor (wWk (wVar 2)) (gNm 4) (wSeq (wAsg (wOp dMul (wVar 3) (wCall sp_own_raised_l (wCons (wOp dIx (wOp dIx (wVar 1) (wVar 4)) (wCst (.int 1))) (wCons (wOp dIx (wVar 2) (wVar 4)) wNil)))) (gNm 3))
  wNext))
  w_reckoned_l_4)
def w_reckoned_l_2 : WS :=
  (wSeq (wAsg (wCst (.int 1)) (gNm 3))
  w_reckoned_l_3)
def w_reckoned_l_1 : WS :=
  (wSeq (wFor (wWk (wVar 0)) (gTp [(gNm 6), (gNm 7)]) (wSeq (wFor (wWk (wVar 6)) (gTp [(gNm 4), (gNm 9)]) (wSeq (wAsg (wCl cMax (wCons (wVar 9) (wCons (wBm "dict" mGet2 (wVar 2) (wCons (wVar 4) (wCons (wCst (.int 0)) wNil))) wNil))) (gSubD (wVar 2) (wVar 4)))
  wNext))
  wNext))
  w_reckoned_l_2)
def w_reckoned_l : WS :=
  (wSeq (wAsg wDct0 (gNm 2))
  w_reckoned_l_1)
def sp_reckoned_l : SpD := spW ["_law_poly_here", "_law_spot", "_law_highest", "_law_bottom", "_law_sign", "_law_total", "_law_monomial", "_law_number", "_law_exponents", "_law_exponent"] 2 w_reckoned_l
theorem k_reckoned_l {U : Ud} (F : Fct hd U) : JSs U 2 ⟨["_law_poly_here", "_law_spot", "_law_highest", "_law_bottom", "_law_sign", "_law_total", "_law_monomial", "_law_number", "_law_exponents", "_law_exponent"], d_reckoned_l.scope, fun _ => true, false, none, true⟩ d_reckoned_l.body w_reckoned_l :=
  (s_cons (m_set 2 (by decide +kernel) n_dct0)
  (s_cons (m_for (by decide +kernel) (m_wk (m_var 0 (by decide +kernel))) (g_tp rfl (gs_cons (fun _ _ _ _ _ => trivial) (m_gnm 6 (by decide +kernel) (fun _ _ => trivial)) (gs_cons (fun _ _ _ _ _ => trivial) (m_gnm 7 (by decide +kernel) (fun _ _ => trivial)) (gs_nil (fun _ => trivial)) (fun _ => rfl)) (fun _ => rfl)) (fun _ => rfl) (fun _ => rfl)) (s_cons (m_for (by decide +kernel) (m_wk (m_var 6 (by decide +kernel))) (g_tp rfl (gs_cons (fun _ _ _ _ _ => trivial) (m_gnm 4 (by decide +kernel) (fun _ _ => trivial)) (gs_cons (fun _ _ _ _ _ => trivial) (m_gnm 9 (by decide +kernel) (fun _ _ => trivial)) (gs_nil (fun _ => trivial)) (fun _ => rfl)) (fun _ => rfl)) (fun _ => rfl) (fun _ => rfl)) (s_cons (s_asg (m_blt (f_max rfl) (F.free 43 rfl) (by decide +kernel) (m_acons (m_var 9 (by decide +kernel)) (m_acons (m_bm f_get (fun _ _ g => md_get2 g.hu) (by decide +kernel) (m_var 2 (by decide +kernel)) (m_acons (m_var 4 (by decide +kernel)) (m_acons n_int a_nil (by decide +kernel)) (by decide +kernel))) a_nil (by decide +kernel)) (by decide +kernel))) (g_sub (m_var 2 (by decide +kernel)) (m_var 4 (by decide +kernel)) (fun _ _ => rfl)) (fun _ => rfl) (fun _ => rfl) (fun _ => rfl))
  s_nil))
  s_nil))
  (s_cons (m_set 3 (by decide +kernel) n_int)
  (s_cons (m_for (by decide +kernel) (m_wk (m_var 2 (by decide +kernel))) (m_gnm 4 (by decide +kernel) (fun _ _ => trivial)) (s_cons (m_set 3 (by decide +kernel) (n_bin b_mul (m_var 3 (by decide +kernel)) (m_call (h_own_raised_l F) (by decide) (by decide +kernel) (m_acons (n_ix (n_ix (m_var 1 (by decide +kernel)) (m_var 4 (by decide +kernel)) (fun _ _ => rfl)) n_int (fun _ _ => rfl)) (m_acons (n_ix (m_var 2 (by decide +kernel)) (m_var 4 (by decide +kernel)) (fun _ _ => rfl)) a_nil (by decide +kernel)) (by decide +kernel)))))
  s_nil))
  (s_cons (m_set 5 (by decide +kernel) n_int)
  (s_cons (m_for (by decide +kernel) (m_wk (m_var 0 (by decide +kernel))) (g_tp rfl (gs_cons (fun _ _ _ _ _ => trivial) (m_gnm 6 (by decide +kernel) (fun _ _ => trivial)) (gs_cons (fun _ _ _ _ _ => trivial) (m_gnm 7 (by decide +kernel) (fun _ _ => trivial)) (gs_nil (fun _ => trivial)) (fun _ => rfl)) (fun _ => rfl)) (fun _ => rfl) (fun _ => rfl)) (s_cons (m_set 8 (by decide +kernel) (m_bty (f_dict rfl) (F.free 16 rfl) (by decide +kernel) (m_acons (m_var 6 (by decide +kernel)) a_nil (by decide +kernel))))
  (s_cons (m_for (by decide +kernel) (m_wk (m_var 2 (by decide +kernel))) (m_gnm 4 (by decide +kernel) (fun _ _ => trivial)) (s_cons (m_set 9 (by decide +kernel) (m_bm f_get (fun _ _ g => md_get2 g.hu) (by decide +kernel) (m_var 8 (by decide +kernel)) (m_acons (m_var 4 (by decide +kernel)) (m_acons n_int a_nil (by decide +kernel)) (by decide +kernel))))
  (s_cons (m_set 7 (by decide +kernel) (n_bin b_mul (m_var 7 (by decide +kernel)) (m_call (h_own_raised_l F) (by decide) (by decide +kernel) (m_acons (n_ix (n_ix (m_var 1 (by decide +kernel)) (m_var 4 (by decide +kernel)) (fun _ _ => rfl)) n_int (fun _ _ => rfl)) (m_acons (m_var 9 (by decide +kernel)) a_nil (by decide +kernel)) (by decide +kernel)))))
  (s_cons (m_set 7 (by decide +kernel) (n_bin b_mul (m_var 7 (by decide +kernel)) (m_call (h_own_raised_l F) (by decide) (by decide +kernel) (m_acons (n_ix (n_ix (m_var 1 (by decide +kernel)) (m_var 4 (by decide +kernel)) (fun _ _ => rfl)) n_int (fun _ _ => rfl)) (m_acons (n_bin b_sub (n_ix (m_var 2 (by decide +kernel)) (m_var 4 (by decide +kernel)) (fun _ _ => rfl)) (m_var 9 (by decide +kernel))) a_nil (by decide +kernel)) (by decide +kernel)))))
  s_nil))))
  (s_cons (m_set 5 (by decide +kernel) (n_bin b_add (m_var 5 (by decide +kernel)) (m_var 7 (by decide +kernel))))
  s_nil))))
  (s_cons (s_ret (m_call (h_lowest_l F) (by decide) (by decide +kernel) (m_acons (m_var 5 (by decide +kernel)) (m_acons (m_var 3 (by decide +kernel)) a_nil (by decide +kernel)) (by decide +kernel))))
  s_nil)))))))
theorem h_reckoned_l {U : Ud} (F : Fct hd U) : FnHas U.P U.w U.K U.mg U.base 3 "_law_reckoned" sp_reckoned_l := F.fn (N := ["_law_poly_here", "_law_spot", "_law_highest", "_law_bottom", "_law_sign", "_law_total", "_law_monomial", "_law_number", "_law_exponents", "_law_exponent"]) (ps := ["_law_poly_here", "_law_spot"]) 27 48 rfl rfl ⟨rfl, rfl⟩ rfl ⟨rfl, rfl, rfl, by decide +kernel, rfl, by decide +kernel, by decide +kernel⟩ (fun _ _ _ _ _ _ us hl => match us, hl with | [_, _], _ => rfl) (k_reckoned_l F)
/-! _law_pairs -/
def w_pairs_l_4 : WS :=
  (wSeq (wRet (wVar 4))
  wNext)
def w_pairs_l_3 : WS :=
  (wSeq (wIfS (wBl (wOp dEq (wCall sp_draw_l (wCons (wVar 0) (wCons (wCst (.int 2)) wNil))) (wCst (.int 1)))) (wSeq (wRet (wCl cTuple (wCons (wVar 4) wNil)))
  wNext) wNext)
  w_pairs_l_4)
def w_pairs_l_2 : WS :=
  (wSeq (wFor (wRng1 (wCons (wCl cLen (wCons (wVar 1) wNil)) wNil)) (gNm 5) (wSeq (wAsg (wBm "list" mPopA (wVar 3) (wCons (wCall sp_draw_l (wCons (wVar 0) (wCons (wCl cLen (wCons (wVar 3) wNil)) wNil))) wNil)) (gNm 6))
  (wSeq (wDrop (wBm "list" mApp (wVar 4) (wCons (wOp dIx (wLst (wCons (wTup (wCons (wVar 6) (wCons (wOp dIx (wVar 2) (wVar 6)) wNil))) (wCons (wLst (wCons (wVar 6) (wCons (wCl cLst (wCons (wOp dIx (wVar 2) (wVar 6)) wNil)) wNil))) wNil))) (wCall sp_draw_l (wCons (wVar 0) (wCons (wCst (.int 2)) wNil)))) wNil)))
  wNext)))
  w_pairs_l_3)
def w_pairs_l_1 : WS :=
  (wSeq (wAsg (wLst wNil) (gNm 4))
  w_pairs_l_2)
def w_pairs_l : WS :=
  (wSeq (wAsg (wCl cLst (wCons (wVar 1) wNil)) (gNm 3))
  w_pairs_l_1)
def sp_pairs_l : SpD := spW ["_law_tape_here", "_law_names_here", "_law_spot", "_law_left", "_law_pairs_here", "_law_k", "_law_sign"] 3 w_pairs_l
theorem k_pairs_l {U : Ud} (F : Fct hd U) : JSs U 2 ⟨["_law_tape_here", "_law_names_here", "_law_spot", "_law_left", "_law_pairs_here", "_law_k", "_law_sign"], d_pairs_l.scope, fun _ => true, false, none, true⟩ d_pairs_l.body w_pairs_l :=
  (s_cons (m_set 3 (by decide +kernel) (m_bty (f_lst rfl) (F.free 23 rfl) (by decide +kernel) (m_acons (m_var 1 (by decide +kernel)) a_nil (by decide +kernel))))
  (s_cons (m_set 4 (by decide +kernel) (n_lst a_nil))
  (s_cons (m_for (by decide +kernel) (m_rng1 (F.free 2 rfl) (by decide +kernel) (m_acons (m_blt f_len (F.free 12 rfl) (by decide +kernel) (m_acons (m_var 1 (by decide +kernel)) a_nil (by decide +kernel))) a_nil (by decide +kernel))) (m_gnm 5 (by decide +kernel) (fun _ _ => trivial)) (s_cons (m_set 6 (by decide +kernel) (m_bm f_pop (fun _ _ _ => md_popA) (by decide +kernel) (m_var 3 (by decide +kernel)) (m_acons (m_call (h_draw_l F) (by decide) (by decide +kernel) (m_acons (m_var 0 (by decide +kernel)) (m_acons (m_blt f_len (F.free 12 rfl) (by decide +kernel) (m_acons (m_var 3 (by decide +kernel)) a_nil (by decide +kernel))) a_nil (by decide +kernel)) (by decide +kernel))) a_nil (by decide +kernel))))
  (s_cons (s_expr (m_bm f_app (fun _ _ _ => md_app) (by decide +kernel) (m_var 4 (by decide +kernel)) (m_acons (n_ix (n_lst (m_acons (n_tup (m_acons (m_var 6 (by decide +kernel)) (m_acons (n_ix (m_var 2 (by decide +kernel)) (m_var 6 (by decide +kernel)) (fun _ _ => rfl)) a_nil (by decide +kernel)) (by decide +kernel))) (m_acons (n_lst (m_acons (m_var 6 (by decide +kernel)) (m_acons (m_bty (f_lst rfl) (F.free 23 rfl) (by decide +kernel) (m_acons (n_ix (m_var 2 (by decide +kernel)) (m_var 6 (by decide +kernel)) (fun _ _ => rfl)) a_nil (by decide +kernel))) a_nil (by decide +kernel)) (by decide +kernel))) a_nil (by decide +kernel)) (by decide +kernel))) (m_call (h_draw_l F) (by decide) (by decide +kernel) (m_acons (m_var 0 (by decide +kernel)) (m_acons n_int a_nil (by decide +kernel)) (by decide +kernel))) (fun _ _ => rfl)) a_nil (by decide +kernel))) rfl)
  s_nil)))
  (s_cons (s_if (t_cmp c_eq (m_call (h_draw_l F) (by decide) (by decide +kernel) (m_acons (m_var 0 (by decide +kernel)) (m_acons n_int a_nil (by decide +kernel)) (by decide +kernel))) n_int (by decide +kernel)) (s_cons (s_ret (m_bty f_tuple (F.free 0 rfl) (by decide +kernel) (m_acons (m_var 4 (by decide +kernel)) a_nil (by decide +kernel))))
  s_nil) s_nil)
  (s_cons (s_ret (m_var 4 (by decide +kernel)))
  s_nil)))))
theorem h_pairs_l {U : Ud} (F : Fct hd U) : FnHas U.P U.w U.K U.mg U.base 3 "_law_pairs" sp_pairs_l := F.fn (N := ["_law_tape_here", "_law_names_here", "_law_spot", "_law_left", "_law_pairs_here", "_law_k", "_law_sign"]) (ps := ["_law_tape_here", "_law_names_here", "_law_spot"]) 28 49 rfl rfl ⟨rfl, rfl⟩ rfl ⟨rfl, rfl, rfl, by decide +kernel, rfl, by decide +kernel, by decide +kernel⟩ (fun _ _ _ _ _ _ us hl => match us, hl with | [_, _, _], _ => rfl) (k_pairs_l F)
/-! _law_names -/
def w_names_l_2 : WS :=
  (wSeq (wRet (wCl cSortT (wCons (wVar 1) wNil)))
  wNext)
def w_names_l_1 : WS :=
  (wSeq (wFor (wWk (wVar 0)) (gTp [(gNm 2), (gNm 3)]) (wSeq (wAsg (wOp dAdd (wVar 1) (wLc (wWk (wVar 2)) [4, 5] (gTp [(gNm 4), (gNm 5)]) (wBl (wOp dNotIn (wVar 4) (wVar 1))) (wVar 4))) (gNm 1))
  wNext))
  w_names_l_2)
def w_names_l : WS :=
  (wSeq (wAsg (wLst wNil) (gNm 1))
  w_names_l_1)
def sp_names_l : SpD := spW ["_law_poly_here", "_law_names_here", "_law_monomial", "_law_number", "_law_sign", "_law_exponent"] 1 w_names_l
theorem k_names_l {U : Ud} (F : Fct hd U) : JSs U 0 ⟨["_law_poly_here", "_law_names_here", "_law_monomial", "_law_number", "_law_sign", "_law_exponent"], d_names_l.scope, fun _ => true, false, none, true⟩ d_names_l.body w_names_l :=
  (s_cons (m_set 1 (by decide +kernel) (n_lst a_nil))
  (s_cons (m_for (by decide +kernel) (m_wk (m_var 0 (by decide +kernel))) (g_tp rfl (gs_cons (fun _ _ _ _ _ => trivial) (m_gnm 2 (by decide +kernel) (fun _ _ => trivial)) (gs_cons (fun _ _ _ _ _ => trivial) (m_gnm 3 (by decide +kernel) (fun _ _ => trivial)) (gs_nil (fun _ => trivial)) (fun _ => rfl)) (fun _ => rfl)) (fun _ => rfl) (fun _ => rfl)) (s_cons (m_set 1 (by decide +kernel) (n_bin b_add (m_var 1 (by decide +kernel)) (m_lc [("_law_sign", 4), ("_law_exponent", 5)] (by decide +kernel) (m_wk (m_var 2 (by decide +kernel))) (g_tp rfl (gs_cons (fun _ _ _ h1 h2 => h2.trans h1) (m_gnm 4 (by decide +kernel) (fun σ v => ownR_set (by decide) σ _)) (gs_cons (fun _ _ _ h1 h2 => h2.trans h1) (m_gnm 5 (by decide +kernel) (fun σ v => ownR_set (by decide) σ _)) (gs_nil (fun _ => rfl)) (fun _ => rfl)) (fun _ => rfl)) (fun _ => rfl) (fun _ => rfl)) (ts_one (t_cmp c_nin (m_var 4 (by decide +kernel)) (m_var 1 (by decide +kernel)) (by decide +kernel))) (m_var 4 (by decide +kernel)))))
  s_nil))
  (s_cons (s_ret (m_blt f_sortT (F.free 14 rfl) (by decide +kernel) (m_acons (m_var 1 (by decide +kernel)) a_nil (by decide +kernel))))
  s_nil)))
theorem h_names_l {U : Ud} (F : Fct hd U) : FnHas U.P U.w U.K U.mg U.base 1 "_law_names" sp_names_l := F.fn (N := ["_law_poly_here", "_law_names_here", "_law_monomial", "_law_number", "_law_sign", "_law_exponent"]) (ps := ["_law_poly_here"]) 29 50 rfl rfl ⟨rfl, rfl⟩ rfl ⟨rfl, rfl, rfl, by decide +kernel, rfl, by decide +kernel, by decide +kernel⟩ (fun _ _ _ _ _ _ us hl => match us, hl with | [_], _ => rfl) (k_names_l F)
/-! _law_lacking_right -/
def w_same_l_h_4 : WS :=
  (wSeq (wRet (wAndV (wCl cIsi (wCons (wVar 0) (wCons (wCst (.ty "int")) wNil))) (wAndV (wNotV (wCl cIsi (wCons (wVar 0) (wCons (wCst (.ty "bool")) wNil)))) (wOp dEq (wVar 0) (wVar 1)))))
  wNext)
def w_same_l_h_3 : WS :=
  (wSeq (wIfS (wTru (wCl cIsi (wCons (wVar 1) (wCons (wCst (.ty "str")) wNil)))) (wSeq (wRet (wAndV (wCl cIsi (wCons (wVar 0) (wCons (wCst (.ty "str")) wNil))) (wOp dEq (wVar 0) (wVar 1))))
  wNext) wNext)
  w_same_l_h_4)
def w_same_l_h_2 : WS :=
  (wSeq (wIfS (wTru (wCl cIsi (wCons (wVar 1) (wCons (wCst (.ty "bool")) wNil)))) (wSeq (wRet (wAndV (wCl cIsi (wCons (wVar 0) (wCons (wCst (.ty "bool")) wNil))) (wOp dEq (wVar 0) (wVar 1))))
  wNext) wNext)
  w_same_l_h_3)
def w_same_l_h_1 : WS :=
  (wSeq (wIfS (wBl (wOp dIs (wVar 1) (wCst .non))) (wSeq (wRet (wOp dIs (wVar 0) (wCst .non)))
  wNext) wNext)
  w_same_l_h_2)
def w_same_l_h : WS :=
  (wSeq (wIfS (wOrB (wTru (wCl cIsi (wCons (wVar 1) (wCons (wCst (.ty "tuple")) wNil)))) (wTru (wCl cIsi (wCons (wVar 1) (wCons (wCst (.ty "list")) wNil))))) (wSeq (wIfS (wOrB (wBl (wOp dNe (wCl cIsi (wCons (wVar 1) (wCons (wCst (.ty "tuple")) wNil))) (wCl cIsi (wCons (wVar 0) (wCons (wCst (.ty "tuple")) wNil))))) (wBl (wOp dNe (wCl cIsi (wCons (wVar 1) (wCons (wCst (.ty "list")) wNil))) (wCl cIsi (wCons (wVar 0) (wCons (wCst (.ty "list")) wNil)))))) (wSeq (wRet (wCst (.bl false)))
  wNext) wNext)
  (wSeq (wIfS (wBl (wOp dNe (wCl cLen (wCons (wVar 0) wNil)) (wCl cLen (wCons (wVar 1) wNil)))) (wSeq (wRet (wCst (.bl false)))
  wNext) wNext)
  (wSeq wNo
  (wSeq (wRet (wCst (.bl true)))
  wNext)))) wNext)
  w_same_l_h_1)
def sp_same_l_h : SpD := spW ["_law_actual", "_law_due", "_law_k"] 2 w_same_l_h
theorem k_same_l_h {U : Ud} (F : Fct hd U) : JSs U 0 ⟨["_law_actual", "_law_due", "_law_k"], d_same_l.scope, fun _ => true, true, none, true⟩ d_same_l.body w_same_l_h :=
  (s_cons (s_if (t_w (w_or (t_val (m_blt f_isi (F.free 35 rfl) (by decide +kernel) (m_acons (m_var 1 (by decide +kernel)) (m_acons (m_ty "tuple" (F.free 0 rfl) (by decide +kernel)) a_nil (by decide +kernel)) (by decide +kernel))) (fun _ _ => rfl)) (w_or1 (t_val (m_blt f_isi (F.free 35 rfl) (by decide +kernel) (m_acons (m_var 1 (by decide +kernel)) (m_acons (m_ty "list" (F.free 23 rfl) (by decide +kernel)) a_nil (by decide +kernel)) (by decide +kernel))) (fun _ _ => rfl))))) (s_cons (s_if (t_w (w_or (t_cmp c_ne (m_blt f_isi (F.free 35 rfl) (by decide +kernel) (m_acons (m_var 1 (by decide +kernel)) (m_acons (m_ty "tuple" (F.free 0 rfl) (by decide +kernel)) a_nil (by decide +kernel)) (by decide +kernel))) (m_blt f_isi (F.free 35 rfl) (by decide +kernel) (m_acons (m_var 0 (by decide +kernel)) (m_acons (m_ty "tuple" (F.free 0 rfl) (by decide +kernel)) a_nil (by decide +kernel)) (by decide +kernel))) (by decide +kernel)) (w_or1 (t_cmp c_ne (m_blt f_isi (F.free 35 rfl) (by decide +kernel) (m_acons (m_var 1 (by decide +kernel)) (m_acons (m_ty "list" (F.free 23 rfl) (by decide +kernel)) a_nil (by decide +kernel)) (by decide +kernel))) (m_blt f_isi (F.free 35 rfl) (by decide +kernel) (m_acons (m_var 0 (by decide +kernel)) (m_acons (m_ty "list" (F.free 23 rfl) (by decide +kernel)) a_nil (by decide +kernel)) (by decide +kernel))) (by decide +kernel))))) (s_cons (s_ret n_bl)
  s_nil) s_nil)
  (s_cons (s_if (t_cmp c_ne (m_blt f_len (F.free 12 rfl) (by decide +kernel) (m_acons (m_var 0 (by decide +kernel)) a_nil (by decide +kernel))) (m_blt f_len (F.free 12 rfl) (by decide +kernel) (m_acons (m_var 1 (by decide +kernel)) a_nil (by decide +kernel))) (by decide +kernel)) (s_cons (s_ret n_bl)
  s_nil) s_nil)
  (s_cons s_no
  (s_cons (s_ret n_bl)
  s_nil)))) s_nil)
  (s_cons (s_if (t_cmp c_is (m_var 1 (by decide +kernel)) n_non (by decide +kernel)) (s_cons (s_ret (n_cmp c_is (m_var 0 (by decide +kernel)) n_non (by decide +kernel)))
  s_nil) s_nil)
  (s_cons (s_if (t_val (m_blt f_isi (F.free 35 rfl) (by decide +kernel) (m_acons (m_var 1 (by decide +kernel)) (m_acons (m_ty "bool" (F.free 34 rfl) (by decide +kernel)) a_nil (by decide +kernel)) (by decide +kernel))) (fun _ _ => rfl)) (s_cons (s_ret (n_and (m_blt f_isi (F.free 35 rfl) (by decide +kernel) (m_acons (m_var 0 (by decide +kernel)) (m_acons (m_ty "bool" (F.free 34 rfl) (by decide +kernel)) a_nil (by decide +kernel)) (by decide +kernel))) (n_one (n_cmp c_eq (m_var 0 (by decide +kernel)) (m_var 1 (by decide +kernel)) (by decide +kernel)))))
  s_nil) s_nil)
  (s_cons (s_if (t_val (m_blt f_isi (F.free 35 rfl) (by decide +kernel) (m_acons (m_var 1 (by decide +kernel)) (m_acons (m_ty "str" (F.free 36 rfl) (by decide +kernel)) a_nil (by decide +kernel)) (by decide +kernel))) (fun _ _ => rfl)) (s_cons (s_ret (n_and (m_blt f_isi (F.free 35 rfl) (by decide +kernel) (m_acons (m_var 0 (by decide +kernel)) (m_acons (m_ty "str" (F.free 36 rfl) (by decide +kernel)) a_nil (by decide +kernel)) (by decide +kernel))) (n_one (n_cmp c_eq (m_var 0 (by decide +kernel)) (m_var 1 (by decide +kernel)) (by decide +kernel)))))
  s_nil) s_nil)
  (s_cons (s_ret (n_and (m_blt f_isi (F.free 35 rfl) (by decide +kernel) (m_acons (m_var 0 (by decide +kernel)) (m_acons (m_ty "int" (F.free 30 rfl) (by decide +kernel)) a_nil (by decide +kernel)) (by decide +kernel))) (n_and (n_not (m_blt f_isi (F.free 35 rfl) (by decide +kernel) (m_acons (m_var 0 (by decide +kernel)) (m_acons (m_ty "bool" (F.free 34 rfl) (by decide +kernel)) a_nil (by decide +kernel)) (by decide +kernel)))) (n_one (n_cmp c_eq (m_var 0 (by decide +kernel)) (m_var 1 (by decide +kernel)) (by decide +kernel))))))
  s_nil)))))
theorem h_same_l_h {U : Ud} (F : Fct hd U) : FnHasH U.P U.w U.K U.mg U.base 1 "_law_same" sp_same_l_h := F.fnH (N := ["_law_actual", "_law_due", "_law_k"]) (ps := ["_law_actual", "_law_due"]) 17 37 rfl rfl ⟨rfl, rfl⟩ rfl ⟨rfl, rfl, rfl, by decide +kernel, rfl, by decide +kernel, by decide +kernel⟩ (fun _ _ _ _ _ _ us hl => match us, hl with | [_, _], _ => rfl) (k_same_l_h F)
def w_lacking_right_l_3 : WS :=
  (wSeq (wRet (wCst (.bl false)))
  wNext)
def w_lacking_right_l_2 : WS :=
  (wSeq (wTry xs (wSeq (wDrop (wCall sp_value (wCons (wVar 1) (wCons (wVar 5) wNil))))
  wNext) [("NothingThere", some 6, fun x a dd => (wSeq (wIfS (wOrB (wNotB (wTru (wXIs xs a x dd [.own "FigureError"] (wVar 6)))) (wTru (wXIs xs a x dd [.own "TooMany"] (wVar 6)))) (wSeq (wRet (wCst (.bl false)))
  wNext) wNext)
  (wSeq (wRet (wCallH sp_same_l_h (wCons (wXAtt xs "word" a x dd (wVar 6)) (wCons (wCl cMinS (wCons (wVar 4) wNil)) wNil))))
  wNext)))])
  w_lacking_right_l_3)
def w_lacking_right_l_1 : WS :=
  (wSeq (wAsg (wCall sp_pairs_l (wCons (wVar 0) (wCons (wLc (wWk (wVar 3)) [7] (gNm 7) (wBl (wOp dNotIn (wVar 7) (wVar 4))) (wVar 7)) (wCons (wVar 3) wNil)))) (gNm 5))
  w_lacking_right_l_2)
def w_lacking_right_l : WS :=
  (wSeq (wAsg (wLst (wCons (wOp dIx (wVar 2) (wCall sp_draw_l (wCons (wVar 0) (wCons (wCl cLen (wCons (wVar 2) wNil)) wNil)))) (wCons (wOp dIx (wVar 2) (wCall sp_draw_l (wCons (wVar 0) (wCons (wCl cLen (wCons (wVar 2) wNil)) wNil)))) wNil))) (gNm 4))
  w_lacking_right_l_1)
def sp_lacking_right_l : SpD := spW ["_law_tape_here", "_law_poly_here", "_law_names_here", "_law_spot", "_law_gone", "_law_pairs_here", "error", "_law_name"] 4 w_lacking_right_l
theorem k_lacking_right_l {U : Ud} (F : Fct hd U) : JSs U 6 ⟨["_law_tape_here", "_law_poly_here", "_law_names_here", "_law_spot", "_law_gone", "_law_pairs_here", "error", "_law_name"], d_lacking_right_l.scope, fun _ => true, false, none, true⟩ d_lacking_right_l.body w_lacking_right_l :=
  (s_cons (m_set 4 (by decide +kernel) (n_lst (m_acons (n_ix (m_var 2 (by decide +kernel)) (m_call (h_draw_l F) (by decide) (by decide +kernel) (m_acons (m_var 0 (by decide +kernel)) (m_acons (m_blt f_len (F.free 12 rfl) (by decide +kernel) (m_acons (m_var 2 (by decide +kernel)) a_nil (by decide +kernel))) a_nil (by decide +kernel)) (by decide +kernel))) (fun _ _ => rfl)) (m_acons (n_ix (m_var 2 (by decide +kernel)) (m_call (h_draw_l F) (by decide) (by decide +kernel) (m_acons (m_var 0 (by decide +kernel)) (m_acons (m_blt f_len (F.free 12 rfl) (by decide +kernel) (m_acons (m_var 2 (by decide +kernel)) a_nil (by decide +kernel))) a_nil (by decide +kernel)) (by decide +kernel))) (fun _ _ => rfl)) a_nil (by decide +kernel)) (by decide +kernel))))
  (s_cons (m_set 5 (by decide +kernel) (m_call (h_pairs_l F) (by decide) (by decide +kernel) (m_acons (m_var 0 (by decide +kernel)) (m_acons (m_lc [("_law_name", 7)] (by decide +kernel) (m_wk (m_var 3 (by decide +kernel))) (m_gnm 7 (by decide +kernel) (fun σ v => ownR_set (by decide) σ _)) (ts_one (t_cmp c_nin (m_var 7 (by decide +kernel)) (m_var 4 (by decide +kernel)) (by decide +kernel))) (m_var 7 (by decide +kernel))) (m_acons (m_var 3 (by decide +kernel)) a_nil (by decide +kernel)) (by decide +kernel)) (by decide +kernel))))
  (s_cons (s_try F.xc rfl rfl rfl (s_cons (s_expr (m_call (h_value F) (by decide) (by decide +kernel) (m_acons (m_var 1 (by decide +kernel)) (m_acons (m_var 5 (by decide +kernel)) a_nil (by decide +kernel)) (by decide +kernel))) rfl)
  s_nil) (.named (by decide +kernel) (by decide +kernel) (by decide +kernel) (F.glo 28 rfl) (by decide +kernel) (by decide +kernel) (fun a x dd => (s_cons (s_if (t_w (w_or (t_not (t_val (n_xis1 F.xc rfl (F.free 35 rfl) rfl rfl (.own (F.glo 52 rfl) rfl (.nil)) (m_var 6 rfl)) (fun _ _ => rfl))) (w_or1 (t_val (n_xis1 F.xc rfl (F.free 35 rfl) rfl rfl (.own (F.glo 11 rfl) rfl (.nil)) (m_var 6 rfl)) (fun _ _ => rfl))))) (s_cons (s_ret n_bl)
  s_nil) s_nil)
  (s_cons (s_ret (m_callH (h_same_l_h F) rfl (by decide) rfl (m_acons (n_xatt F.xc rfl (m_var 6 rfl) rfl) (m_acons (m_blt (f_minSH rfl) (F.free 51 rfl) rfl (m_acons (m_var 4 rfl) a_nil rfl)) a_nil rfl) rfl)))
  s_nil))) (.nil)))
  (s_cons (s_ret n_bl)
  s_nil))))
theorem h_lacking_right_l {U : Ud} (F : Fct hd U) : FnHas U.P U.w U.K U.mg U.base 7 "_law_lacking_right" sp_lacking_right_l := F.fn (N := ["_law_tape_here", "_law_poly_here", "_law_names_here", "_law_spot", "_law_gone", "_law_pairs_here", "error", "_law_name"]) (ps := ["_law_tape_here", "_law_poly_here", "_law_names_here", "_law_spot"]) 30 53 rfl rfl ⟨rfl, rfl⟩ rfl ⟨rfl, rfl, rfl, by decide +kernel, rfl, by decide +kernel, by decide +kernel⟩ (fun _ _ _ _ _ _ us hl => match us, hl with | [_, _, _, _], _ => rfl) (k_lacking_right_l F)
/-! _law_drawn -/
def w_drawn_l_2 : WS :=
  (wSeq (wRet (wVar 2))
  wNext)
def w_drawn_l_1 : WS :=
  (wSeq (wIfS (wBl (wOp dEq (wCall sp_draw_l (wCons (wVar 0) (wCons (wCst (.int 5)) wNil))) (wCst (.int 0)))) (wSeq (wAsg (wOp dIx (wVar 1) (wCall sp_draw_l (wCons (wVar 0) (wCons (wCl cLen (wCons (wVar 1) wNil)) wNil)))) (gNm 3))
  (wSeq (wAsg (wCall sp_poly_l (wCons (wDisp [((wTup (wCons (wTup (wCons (wVar 3) (wCons (wOp dAdd (wCst (.int 7)) (wCall sp_draw_l (wCons (wVar 0) (wCons (wCst (.int 34)) wNil)))) wNil))) wNil)), (wCall sp_factor_l (wCons (wVar 0) (wCons (wOp dPow (wCst (.int 10)) (wCst (.int 6))) wNil)))), ((wTup wNil), (wCst (.int 1))), ((wTup (wCons (wTup (wCons (wVar 3) (wCons (wCst (.int 1)) wNil))) wNil)), (wUn dNeg (wCst (.int 2))))]) wNil)) (gNm 2))
  wNext)) wNext)
  w_drawn_l_2)
def w_drawn_l : WS :=
  (wSeq (wAsg (wCall sp_poly_l (wCons (wCall sp_table_l (wCons (wVar 0) (wCons (wVar 1) (wCons (wCst (.int 6)) (wCons (wCst (.int 6)) (wCons (wOp dPow (wCst (.int 10)) (wCst (.int 40))) wNil)))))) wNil)) (gNm 2))
  w_drawn_l_1)
def sp_drawn_l : SpD := spW ["_law_tape_here", "_law_signs_here", "_law_poly_here", "_law_sign"] 2 w_drawn_l
theorem k_drawn_l {U : Ud} (F : Fct hd U) : JSs U 4 ⟨["_law_tape_here", "_law_signs_here", "_law_poly_here", "_law_sign"], d_drawn_l.scope, fun _ => true, false, none, true⟩ d_drawn_l.body w_drawn_l :=
  (s_cons (m_set 2 (by decide +kernel) (m_call (h_poly_l F) (by decide) (by decide +kernel) (m_acons (m_call (h_table_l F) (by decide) (by decide +kernel) (m_acons (m_var 0 (by decide +kernel)) (m_acons (m_var 1 (by decide +kernel)) (m_acons n_int (m_acons n_int (m_acons (n_bin b_pow n_int n_int) a_nil (by decide +kernel)) (by decide +kernel)) (by decide +kernel)) (by decide +kernel)) (by decide +kernel))) a_nil (by decide +kernel))))
  (s_cons (s_if (t_cmp c_eq (m_call (h_draw_l F) (by decide) (by decide +kernel) (m_acons (m_var 0 (by decide +kernel)) (m_acons n_int a_nil (by decide +kernel)) (by decide +kernel))) n_int (by decide +kernel)) (s_cons (m_set 3 (by decide +kernel) (n_ix (m_var 1 (by decide +kernel)) (m_call (h_draw_l F) (by decide) (by decide +kernel) (m_acons (m_var 0 (by decide +kernel)) (m_acons (m_blt f_len (F.free 12 rfl) (by decide +kernel) (m_acons (m_var 1 (by decide +kernel)) a_nil (by decide +kernel))) a_nil (by decide +kernel)) (by decide +kernel))) (fun _ _ => rfl)))
  (s_cons (m_set 2 (by decide +kernel) (m_call (h_poly_l F) (by decide) (by decide +kernel) (m_acons (n_disp (p_cons (n_tup (m_acons (n_tup (m_acons (m_var 3 (by decide +kernel)) (m_acons (n_bin b_add n_int (m_call (h_draw_l F) (by decide) (by decide +kernel) (m_acons (m_var 0 (by decide +kernel)) (m_acons n_int a_nil (by decide +kernel)) (by decide +kernel)))) a_nil (by decide +kernel)) (by decide +kernel))) a_nil (by decide +kernel))) (m_call (h_factor_l F) (by decide) (by decide +kernel) (m_acons (m_var 0 (by decide +kernel)) (m_acons (n_bin b_pow n_int n_int) a_nil (by decide +kernel)) (by decide +kernel))) (p_cons (n_tup a_nil) n_int (p_cons (n_tup (m_acons (n_tup (m_acons (m_var 3 (by decide +kernel)) (m_acons n_int a_nil (by decide +kernel)) (by decide +kernel))) a_nil (by decide +kernel))) (n_neg n_int) p_nil))) rfl) a_nil (by decide +kernel))))
  s_nil)) s_nil)
  (s_cons (s_ret (m_var 2 (by decide +kernel)))
  s_nil)))
theorem h_drawn_l {U : Ud} (F : Fct hd U) : FnHas U.P U.w U.K U.mg U.base 5 "_law_drawn" sp_drawn_l := F.fn (N := ["_law_tape_here", "_law_signs_here", "_law_poly_here", "_law_sign"]) (ps := ["_law_tape_here", "_law_signs_here"]) 31 54 rfl rfl ⟨rfl, rfl⟩ rfl ⟨rfl, rfl, rfl, by decide +kernel, rfl, by decide +kernel, by decide +kernel⟩ (fun _ _ _ _ _ _ us hl => match us, hl with | [_, _], _ => rfl) (k_drawn_l F)
/-! _law_two_right -/
def w_two_right_l_1 : WS :=
  (wSeq (wRet (wCst (.bl true)))
  wNext)
def w_two_right_l : WS :=
  (wSeq (wFor (wWk (wLst (wCons (wTup (wCons (wCst (.str "sum")) (wCons (wCall sp_added (wCons (wVar 3) (wCons (wVar 4) wNil))) wNil))) (wCons (wTup (wCons (wCst (.str "product")) (wCons (wCall sp_multiplied (wCons (wVar 3) (wCons (wVar 4) wNil))) wNil))) wNil)))) (gTp [(gNm 5), (gNm 6)]) (wSeq (wAsg (wCall sp_reckoned_l (wCons (wVar 3) (wCons (wVar 2) wNil))) (gNm 7))
  (wSeq (wAsg (wCall sp_reckoned_l (wCons (wVar 4) (wCons (wVar 2) wNil))) (gNm 8))
  (wSeq (wAsg (wCall sp_lowest_l (wCons (wOp dMul (wOp dIx (wVar 7) (wCst (.int 0))) (wOp dIx (wVar 8) (wCst (.int 0)))) (wCons (wOp dMul (wOp dIx (wVar 7) (wCst (.int 1))) (wOp dIx (wVar 8) (wCst (.int 1)))) wNil))) (gNm 9))
  (wSeq (wIfS (wBl (wOp dEq (wVar 5) (wCst (.str "sum")))) (wSeq (wAsg (wCall sp_lowest_l (wCons (wOp dAdd (wOp dMul (wOp dIx (wVar 7) (wCst (.int 0))) (wOp dIx (wVar 8) (wCst (.int 1)))) (wOp dMul (wOp dIx (wVar 8) (wCst (.int 0))) (wOp dIx (wVar 7) (wCst (.int 1))))) (wCons (wOp dMul (wOp dIx (wVar 7) (wCst (.int 1))) (wOp dIx (wVar 8) (wCst (.int 1)))) wNil))) (gNm 9))
  wNext) wNext)
  (wSeq (wIfS (wNotB (wTru (wCall (sp_same_l 6) (wCons (wCall sp_value (wCons (wVar 6) (wCons (wCall sp_pairs_l (wCons (wVar 0) (wCons (wCl cLst (wCons (wCall sp_variables (wCons (wVar 6) wNil)) wNil)) (wCons (wVar 2) wNil)))) wNil))) (wCons (wVar 9) wNil))))) (wSeq (wRet (wCst (.bl false)))
  wNext) wNext)
  wNext))))))
  w_two_right_l_1)
def sp_two_right_l : SpD := spW ["_law_tape_here", "_law_signs_here", "_law_spot", "_law_one", "_law_two", "_law_top", "_law_told", "_law_first", "_law_second", "_law_due"] 5 w_two_right_l
theorem k_two_right_l {U : Ud} (F : Fct hd U) : JSs U 6 ⟨["_law_tape_here", "_law_signs_here", "_law_spot", "_law_one", "_law_two", "_law_top", "_law_told", "_law_first", "_law_second", "_law_due"], d_two_right_l.scope, fun _ => true, false, none, true⟩ d_two_right_l.body w_two_right_l :=
  (s_cons (m_for (by decide +kernel) (m_wk (n_lst (m_acons (n_tup (m_acons n_str (m_acons (m_call (h_added F) (by decide) (by decide +kernel) (m_acons (m_var 3 (by decide +kernel)) (m_acons (m_var 4 (by decide +kernel)) a_nil (by decide +kernel)) (by decide +kernel))) a_nil (by decide +kernel)) (by decide +kernel))) (m_acons (n_tup (m_acons n_str (m_acons (m_call (h_multiplied F) (by decide) (by decide +kernel) (m_acons (m_var 3 (by decide +kernel)) (m_acons (m_var 4 (by decide +kernel)) a_nil (by decide +kernel)) (by decide +kernel))) a_nil (by decide +kernel)) (by decide +kernel))) a_nil (by decide +kernel)) (by decide +kernel)))) (g_tp rfl (gs_cons (fun _ _ _ _ _ => trivial) (m_gnm 5 (by decide +kernel) (fun _ _ => trivial)) (gs_cons (fun _ _ _ _ _ => trivial) (m_gnm 6 (by decide +kernel) (fun _ _ => trivial)) (gs_nil (fun _ => trivial)) (fun _ => rfl)) (fun _ => rfl)) (fun _ => rfl) (fun _ => rfl)) (s_cons (m_set 7 (by decide +kernel) (m_call (h_reckoned_l F) (by decide) (by decide +kernel) (m_acons (m_var 3 (by decide +kernel)) (m_acons (m_var 2 (by decide +kernel)) a_nil (by decide +kernel)) (by decide +kernel))))
  (s_cons (m_set 8 (by decide +kernel) (m_call (h_reckoned_l F) (by decide) (by decide +kernel) (m_acons (m_var 4 (by decide +kernel)) (m_acons (m_var 2 (by decide +kernel)) a_nil (by decide +kernel)) (by decide +kernel))))
  (s_cons (m_set 9 (by decide +kernel) (m_call (h_lowest_l F) (by decide) (by decide +kernel) (m_acons (n_bin b_mul (n_ix (m_var 7 (by decide +kernel)) n_int (fun _ _ => rfl)) (n_ix (m_var 8 (by decide +kernel)) n_int (fun _ _ => rfl))) (m_acons (n_bin b_mul (n_ix (m_var 7 (by decide +kernel)) n_int (fun _ _ => rfl)) (n_ix (m_var 8 (by decide +kernel)) n_int (fun _ _ => rfl))) a_nil (by decide +kernel)) (by decide +kernel))))
  (s_cons (s_if (t_cmp c_eq (m_var 5 (by decide +kernel)) n_str (by decide +kernel)) (s_cons (m_set 9 (by decide +kernel) (m_call (h_lowest_l F) (by decide) (by decide +kernel) (m_acons (n_bin b_add (n_bin b_mul (n_ix (m_var 7 (by decide +kernel)) n_int (fun _ _ => rfl)) (n_ix (m_var 8 (by decide +kernel)) n_int (fun _ _ => rfl))) (n_bin b_mul (n_ix (m_var 8 (by decide +kernel)) n_int (fun _ _ => rfl)) (n_ix (m_var 7 (by decide +kernel)) n_int (fun _ _ => rfl)))) (m_acons (n_bin b_mul (n_ix (m_var 7 (by decide +kernel)) n_int (fun _ _ => rfl)) (n_ix (m_var 8 (by decide +kernel)) n_int (fun _ _ => rfl))) a_nil (by decide +kernel)) (by decide +kernel))))
  s_nil) s_nil)
  (s_cons (s_if (t_not (t_val (m_call (h_same_l F 6) (by decide) (by decide +kernel) (m_acons (m_call (h_value F) (by decide) (by decide +kernel) (m_acons (m_var 6 (by decide +kernel)) (m_acons (m_call (h_pairs_l F) (by decide) (by decide +kernel) (m_acons (m_var 0 (by decide +kernel)) (m_acons (m_bty (f_lst rfl) (F.free 23 rfl) (by decide +kernel) (m_acons (m_call (h_variables F) (by decide) (by decide +kernel) (m_acons (m_var 6 (by decide +kernel)) a_nil (by decide +kernel))) a_nil (by decide +kernel))) (m_acons (m_var 2 (by decide +kernel)) a_nil (by decide +kernel)) (by decide +kernel)) (by decide +kernel))) a_nil (by decide +kernel)) (by decide +kernel))) (m_acons (m_var 9 (by decide +kernel)) a_nil (by decide +kernel)) (by decide +kernel))) (fun _ _ => rfl))) (s_cons (s_ret n_bl)
  s_nil) s_nil)
  s_nil))))))
  (s_cons (s_ret n_bl)
  s_nil))
theorem h_two_right_l {U : Ud} (F : Fct hd U) : FnHas U.P U.w U.K U.mg U.base 7 "_law_two_right" sp_two_right_l := F.fn (N := ["_law_tape_here", "_law_signs_here", "_law_spot", "_law_one", "_law_two", "_law_top", "_law_told", "_law_first", "_law_second", "_law_due"]) (ps := ["_law_tape_here", "_law_signs_here", "_law_spot", "_law_one", "_law_two"]) 32 55 rfl rfl ⟨rfl, rfl⟩ rfl ⟨rfl, rfl, rfl, by decide +kernel, rfl, by decide +kernel, by decide +kernel⟩ (fun _ _ _ _ _ _ us hl => match us, hl with | [_, _, _, _, _], _ => rfl) (k_two_right_l F)
/-! law -/
theorem hk_value_0_pairs_p {U : Ud} (F : Fct hd U) : FnHasK U.P U.w U.K U.mg U.base 3 "value" ["pairs", "p"] 0 [1, 0] sp_value := F.fnK (N := ["p", "pairs", "by", "name", "total", "monomial", "coefficient", "part", "exponent", "_", "n", "d"]) (ps := ["p", "pairs"]) 13 29 ["pairs", "p"] 0 [1, 0] rfl rfl ⟨rfl, rfl⟩ rfl ⟨rfl, rfl, rfl, by decide +kernel, rfl, by decide +kernel, by decide +kernel⟩ (fun _ _ _ _ _ _ us ws hu hw => match us, ws, hu, hw with | [], [_, _], _, _ => rfl) (k_value F)
def w_law_4 : WS :=
  (wSeq (wRet (wAndV (wCall (sp_same_l 6) (wCons (wCall sp_value (wCons (wTup (wCons (wTup (wCons (wTup wNil) (wCons (wVar 4) wNil))) wNil)) (wCons (wTup wNil) wNil))) (wCons (wTup (wCons (wVar 4) (wCons (wCst (.int 1)) wNil))) wNil))) (wCall (sp_same_l 6) (wCons (wCall sp_value (wCons (wTup wNil) (wCons (wLst wNil) wNil))) (wCons (wTup (wCons (wCst (.int 0)) (wCons (wCst (.int 1)) wNil))) wNil)))))
  wNext)
def w_law_3 : WS :=
  (wSeq (wAsg (wCall sp_factor_l (wCons (wVar 1) (wCons (wOp dPow (wCst (.int 10)) (wCst (.int 40))) wNil))) (gNm 4))
  w_law_4)
def w_law_2 : WS :=
  (wSeq (wFor (wRng1 (wCons (wCst (.int 3)) wNil)) (gNm 3) (wSeq (wAsg (wCall sp_drawn_l (wCons (wVar 1) (wCons (wVar 2) wNil))) (gNm 5))
  (wSeq (wAsg wDct0 (gNm 6))
  (wSeq (wFor (wWk (wVar 2)) (gNm 7) (wSeq (wAsg (wCall sp_fraction_l (wCons (wVar 1) wNil)) (gSubD (wVar 6) (wVar 7)))
  wNext))
  (wSeq (wAsg (wCall sp_names_l (wCons (wVar 5) wNil)) (gNm 8))
  (wSeq (wAsg (wCall sp_reckoned_l (wCons (wVar 5) (wCons (wVar 6) wNil))) (gNm 9))
  (wSeq (wIfS (wNotB (wTru (wCall (sp_same_l 6) (wCons (wCall sp_value (wCons (wCall sp_handed_l (wCons (wVar 1) (wCons (wVar 5) wNil))) (wCons (wCall sp_pairs_l (wCons (wVar 1) (wCons (wVar 8) (wCons (wVar 6) wNil)))) wNil))) (wCons (wVar 9) wNil))))) (wSeq (wRet (wCst (.bl false)))
  wNext) wNext)
  (wSeq (wAsg (wOp dAdd (wVar 8) (wLc (wWk (wVar 2)) [7] (gNm 7) (wBl (wOp dNotIn (wVar 7) (wVar 8))) (wVar 7))) (gNm 10))
  (wSeq (wIfS (wNotB (wTru (wCall (sp_same_l 6) (wCons (wCallK sp_value 0 2 [1, 0] wNil (wCons (wCall sp_pairs_l (wCons (wVar 1) (wCons (wVar 10) (wCons (wVar 6) wNil)))) (wCons (wVar 5) wNil))) (wCons (wVar 9) wNil))))) (wSeq (wRet (wCst (.bl false)))
  wNext) wNext)
  (wSeq (wIfS (wAndB (wBl (wOp dGt (wCl cLen (wCons (wVar 8) wNil)) (wCst (.int 0)))) (wNotB (wTru (wCall sp_lacking_right_l (wCons (wVar 1) (wCons (wVar 5) (wCons (wVar 8) (wCons (wVar 6) wNil)))))))) (wSeq (wRet (wCst (.bl false)))
  wNext) wNext)
  (wSeq (wAsg (wCall sp_poly_l (wCons (wCall sp_table_l (wCons (wVar 1) (wCons (wVar 2) (wCons (wCst (.int 3)) (wCons (wCst (.int 3)) (wCons (wOp dPow (wCst (.int 10)) (wCst (.int 10))) wNil)))))) wNil)) (gNm 11))
  (wSeq (wAsg (wCall sp_poly_l (wCons (wCall sp_table_l (wCons (wVar 1) (wCons (wVar 2) (wCons (wCst (.int 3)) (wCons (wCst (.int 3)) (wCons (wOp dPow (wCst (.int 10)) (wCst (.int 10))) wNil)))))) wNil)) (gNm 12))
  (wSeq (wIfS (wNotB (wTru (wCall sp_two_right_l (wCons (wVar 1) (wCons (wVar 2) (wCons (wVar 6) (wCons (wVar 11) (wCons (wVar 12) wNil)))))))) (wSeq (wRet (wCst (.bl false)))
  wNext) wNext)
  wNext)))))))))))))
  w_law_3)
def w_law_1 : WS :=
  (wSeq (wAsg (wCall sp_signs_l (wCons (wVar 1) wNil)) (gNm 2))
  w_law_2)
def w_law : WS :=
  (wSeq (wAsg (wCall sp_tape_l (wCons (wVar 0) wNil)) (gNm 1))
  w_law_1)
def sp_law : SpD := spW ["_law_script", "_law_tape_here", "_law_signs_here", "_law_turn", "_law_number", "_law_poly_here", "_law_spot", "_law_sign", "_law_names_here", "_law_due", "_law_more", "_law_small", "_law_other"] 1 w_law
theorem k_law {U : Ud} (F : Fct hd U) : JSs U 7 ⟨["_law_script", "_law_tape_here", "_law_signs_here", "_law_turn", "_law_number", "_law_poly_here", "_law_spot", "_law_sign", "_law_names_here", "_law_due", "_law_more", "_law_small", "_law_other"], d_law.scope, fun _ => true, false, none, true⟩ d_law.body w_law :=
  (s_cons (m_set 1 (by decide +kernel) (m_call (h_tape_l F) (by decide) (by decide +kernel) (m_acons (m_var 0 (by decide +kernel)) a_nil (by decide +kernel))))
  (s_cons (m_set 2 (by decide +kernel) (m_call (h_signs_l F) (by decide) (by decide +kernel) (m_acons (m_var 1 (by decide +kernel)) a_nil (by decide +kernel))))
  (s_cons (m_for (by decide +kernel) (m_rng1 (F.free 2 rfl) (by decide +kernel) (m_acons n_int a_nil (by decide +kernel))) (m_gnm 3 (by decide +kernel) (fun _ _ => trivial)) (s_cons (m_set 5 (by decide +kernel) (m_call (h_drawn_l F) (by decide) (by decide +kernel) (m_acons (m_var 1 (by decide +kernel)) (m_acons (m_var 2 (by decide +kernel)) a_nil (by decide +kernel)) (by decide +kernel))))
  (s_cons (m_set 6 (by decide +kernel) n_dct0)
  (s_cons (m_for (by decide +kernel) (m_wk (m_var 2 (by decide +kernel))) (m_gnm 7 (by decide +kernel) (fun _ _ => trivial)) (s_cons (s_asg (m_call (h_fraction_l F) (by decide) (by decide +kernel) (m_acons (m_var 1 (by decide +kernel)) a_nil (by decide +kernel))) (g_sub (m_var 6 (by decide +kernel)) (m_var 7 (by decide +kernel)) (fun _ _ => rfl)) (fun _ => rfl) (fun _ => rfl) (fun _ => rfl))
  s_nil))
  (s_cons (m_set 8 (by decide +kernel) (m_call (h_names_l F) (by decide) (by decide +kernel) (m_acons (m_var 5 (by decide +kernel)) a_nil (by decide +kernel))))
  (s_cons (m_set 9 (by decide +kernel) (m_call (h_reckoned_l F) (by decide) (by decide +kernel) (m_acons (m_var 5 (by decide +kernel)) (m_acons (m_var 6 (by decide +kernel)) a_nil (by decide +kernel)) (by decide +kernel))))
  (s_cons (s_if (t_not (t_val (m_call (h_same_l F 6) (by decide) (by decide +kernel) (m_acons (m_call (h_value F) (by decide) (by decide +kernel) (m_acons (m_call (h_handed_l F) (by decide) (by decide +kernel) (m_acons (m_var 1 (by decide +kernel)) (m_acons (m_var 5 (by decide +kernel)) a_nil (by decide +kernel)) (by decide +kernel))) (m_acons (m_call (h_pairs_l F) (by decide) (by decide +kernel) (m_acons (m_var 1 (by decide +kernel)) (m_acons (m_var 8 (by decide +kernel)) (m_acons (m_var 6 (by decide +kernel)) a_nil (by decide +kernel)) (by decide +kernel)) (by decide +kernel))) a_nil (by decide +kernel)) (by decide +kernel))) (m_acons (m_var 9 (by decide +kernel)) a_nil (by decide +kernel)) (by decide +kernel))) (fun _ _ => rfl))) (s_cons (s_ret n_bl)
  s_nil) s_nil)
  (s_cons (m_set 10 (by decide +kernel) (n_bin b_add (m_var 8 (by decide +kernel)) (m_lc [("_law_sign", 7)] (by decide +kernel) (m_wk (m_var 2 (by decide +kernel))) (m_gnm 7 (by decide +kernel) (fun σ v => ownR_set (by decide) σ _)) (ts_one (t_cmp c_nin (m_var 7 (by decide +kernel)) (m_var 8 (by decide +kernel)) (by decide +kernel))) (m_var 7 (by decide +kernel)))))
  (s_cons (s_if (t_not (t_val (m_call (h_same_l F 6) (by decide) (by decide +kernel) (m_acons (m_callK0 (hk_value_0_pairs_p F) (by decide) (by decide +kernel) (k_cons (m_call (h_pairs_l F) (by decide) (by decide +kernel) (m_acons (m_var 1 (by decide +kernel)) (m_acons (m_var 10 (by decide +kernel)) (m_acons (m_var 6 (by decide +kernel)) a_nil (by decide +kernel)) (by decide +kernel)) (by decide +kernel))) (k_cons (m_var 5 (by decide +kernel)) k_nil))) (m_acons (m_var 9 (by decide +kernel)) a_nil (by decide +kernel)) (by decide +kernel))) (fun _ _ => rfl))) (s_cons (s_ret n_bl)
  s_nil) s_nil)
  (s_cons (s_if (t_w (w_and (t_cmp c_gt (m_blt f_len (F.free 12 rfl) (by decide +kernel) (m_acons (m_var 8 (by decide +kernel)) a_nil (by decide +kernel))) n_int (by decide +kernel)) (w_and1 (t_not (t_val (m_call (h_lacking_right_l F) (by decide) (by decide +kernel) (m_acons (m_var 1 (by decide +kernel)) (m_acons (m_var 5 (by decide +kernel)) (m_acons (m_var 8 (by decide +kernel)) (m_acons (m_var 6 (by decide +kernel)) a_nil (by decide +kernel)) (by decide +kernel)) (by decide +kernel)) (by decide +kernel))) (fun _ _ => rfl)))))) (s_cons (s_ret n_bl)
  s_nil) s_nil)
  (s_cons (m_set 11 (by decide +kernel) (m_call (h_poly_l F) (by decide) (by decide +kernel) (m_acons (m_call (h_table_l F) (by decide) (by decide +kernel) (m_acons (m_var 1 (by decide +kernel)) (m_acons (m_var 2 (by decide +kernel)) (m_acons n_int (m_acons n_int (m_acons (n_bin b_pow n_int n_int) a_nil (by decide +kernel)) (by decide +kernel)) (by decide +kernel)) (by decide +kernel)) (by decide +kernel))) a_nil (by decide +kernel))))
  (s_cons (m_set 12 (by decide +kernel) (m_call (h_poly_l F) (by decide) (by decide +kernel) (m_acons (m_call (h_table_l F) (by decide) (by decide +kernel) (m_acons (m_var 1 (by decide +kernel)) (m_acons (m_var 2 (by decide +kernel)) (m_acons n_int (m_acons n_int (m_acons (n_bin b_pow n_int n_int) a_nil (by decide +kernel)) (by decide +kernel)) (by decide +kernel)) (by decide +kernel)) (by decide +kernel))) a_nil (by decide +kernel))))
  (s_cons (s_if (t_not (t_val (m_call (h_two_right_l F) (by decide) (by decide +kernel) (m_acons (m_var 1 (by decide +kernel)) (m_acons (m_var 2 (by decide +kernel)) (m_acons (m_var 6 (by decide +kernel)) (m_acons (m_var 11 (by decide +kernel)) (m_acons (m_var 12 (by decide +kernel)) a_nil (by decide +kernel)) (by decide +kernel)) (by decide +kernel)) (by decide +kernel)) (by decide +kernel))) (fun _ _ => rfl))) (s_cons (s_ret n_bl)
  s_nil) s_nil)
  s_nil)))))))))))))
  (s_cons (m_set 4 (by decide +kernel) (m_call (h_factor_l F) (by decide) (by decide +kernel) (m_acons (m_var 1 (by decide +kernel)) (m_acons (n_bin b_pow n_int n_int) a_nil (by decide +kernel)) (by decide +kernel))))
  (s_cons (s_ret (n_and (m_call (h_same_l F 6) (by decide) (by decide +kernel) (m_acons (m_call (h_value F) (by decide) (by decide +kernel) (m_acons (n_tup (m_acons (n_tup (m_acons (n_tup a_nil) (m_acons (m_var 4 (by decide +kernel)) a_nil (by decide +kernel)) (by decide +kernel))) a_nil (by decide +kernel))) (m_acons (n_tup a_nil) a_nil (by decide +kernel)) (by decide +kernel))) (m_acons (n_tup (m_acons (m_var 4 (by decide +kernel)) (m_acons n_int a_nil (by decide +kernel)) (by decide +kernel))) a_nil (by decide +kernel)) (by decide +kernel))) (n_one (m_call (h_same_l F 6) (by decide) (by decide +kernel) (m_acons (m_call (h_value F) (by decide) (by decide +kernel) (m_acons (n_tup a_nil) (m_acons (n_lst a_nil) a_nil (by decide +kernel)) (by decide +kernel))) (m_acons (n_tup (m_acons n_int (m_acons n_int a_nil (by decide +kernel)) (by decide +kernel))) a_nil (by decide +kernel)) (by decide +kernel))))))
  s_nil)))))
theorem h_law {U : Ud} (F : Fct hd U) : FnHas U.P U.w U.K U.mg U.base 8 "law" sp_law := F.fn (N := ["_law_script", "_law_tape_here", "_law_signs_here", "_law_turn", "_law_number", "_law_poly_here", "_law_spot", "_law_sign", "_law_names_here", "_law_due", "_law_more", "_law_small", "_law_other"]) (ps := ["_law_script"]) 33 56 rfl rfl ⟨rfl, rfl⟩ rfl ⟨rfl, rfl, rfl, by decide +kernel, rfl, by decide +kernel, by decide +kernel⟩ (fun _ _ _ _ _ _ us hl => match us, hl with | [_], _ => rfl) (k_law F)
end FgL
/-! C1: what the polynomials' defs do. -/
namespace FgL
open PySem PySem.Spec L2 Fg
open PyProof.Rows hiding St
theorem p_frozen {M : MM} {d : D} {t : Tab} {Q : QD} {E : QX} (h : RPo M d t) (hs : Sml t) (k : ∀ M', Ext M M' → Q (eP t) M') : sp_frozen [d] M Q E := by
  obtain ⟨ds, hd, hp⟩ := h
  have hl : ds.length = t.length := Paired.length hp
  refine ⟨rfl, ?_⟩
  show w_frozen [some d, none, none, none, none, none] M _ _
  simp only [w_frozen, w_frozen_1, wSeq, wAsg, wDrop, wRet, wRetN, wNext, wIfS, wBl, Fg.wTru, wOp, wUn, wCl, wCons, wNil, wVar, wCst, wTup, wLst, gNm, wCall, List.set_cons_zero, List.set_cons_succ, List.getElem?_cons_zero, List.getElem?_cons_succ, wFor, wWk, List.length_nil]
  refine ⟨Nat.zero_le _, fun tl htl => ?_⟩
  obtain ⟨st, hw⟩ := walk_items hd
  have e0 : Ext M (up M tl (.lst [])) := Ext.new htl
  refine ⟨ds, st, (hw _ e0).1, ?_⟩
  have ll := hs.len
  refine for_rule (I := fun i ρ M' => ∃ a b, ρ = [some d, some (.ref tl), a, b, none, none] ∧ Ext M M' ∧ M' tl = some (.lst ((t.take i).map eT))) ⟨none, none, rfl, e0, by rw [up_same]; rfl⟩ (fun i x hx ρ M1 ⟨a, b, e1, ex, e2⟩ K hK => ⟨(hw _ ex).2, ?_⟩) fun ρ M1 ⟨a, b, e1, ex, e2⟩ => ⟨(hw _ ex).2, ?_⟩
  · subst e1
    obtain ⟨⟨m, c⟩, ht, dm, h1, dms, h2, h3⟩ := paired_at hp hx
    have it := (List.getElem?_eq_some_iff.mp ht).1
    refine ⟨_, items_ext ex h1, rfl, ?_⟩
    simp only [gMany, wSeq, wAsg, wDrop, wRet, wRetN, wNext, wIfS, wBl, Fg.wTru, wOp, wUn, wCl, wCons, wNil, wVar, wCst, wTup, wLst, gNm, wCall, List.set_cons_zero, List.set_cons_succ, List.getElem?_cons_zero, List.getElem?_cons_succ, wBm, tyR, e2]
    refine ⟨trivial, ?_⟩
    obtain ⟨st2, hw2⟩ := walk_items (items_ext ex h2)
    have lm : dms.length = m.length := Paired.length h3
    have mm : m.length ≤ 1000000 := hs.mono (m, c) (List.mem_of_getElem? ht)
    refine ⟨dms, st2, (hw2 _ (Ext.refl _)).1, fun p hp1 => ?_⟩
    refine lc_rule hp1 (fun x => match itemsOf M x with
      | some [u, v] => .tup [u, v]
      | _ => .non) (fun _ => true) (fun M' e => (hw2 M' e).2) (by rw [lm, sizeLine_eq]; omega) (fun x hx2 M2 e3 K1 K0 k1 k0 => ?_) fun M2 e3 hp2 => ?_
    · obtain ⟨j, hj⟩ := List.mem_iff_getElem?.mp hx2
      obtain ⟨q, hq, hv⟩ := paired_at h3 hj
      refine ⟨_, items_ext (ex.trans e3) hv, rfl, ?_⟩
      simp only [wYes, gMany, wSeq, wAsg, wDrop, wRet, wRetN, wNext, wIfS, wBl, Fg.wTru, wOp, wUn, wCl, wCons, wNil, wVar, wCst, wTup, wLst, gNm, wCall, List.set_cons_zero, List.set_cons_succ, List.getElem?_cons_zero, List.getElem?_cons_succ, wipeD, if_true, List.length_cons, List.length_nil, sizeLine_eq]
      refine ⟨by decide, ?_⟩
      have z := k1 rfl M2 (Ext.refl _)
      simp only [show itemsOf M x = some [.str q.1, .int q.2] from hv] at z
      exact z
    · have em : (dms.filter fun _ => true).map (fun x => match itemsOf M x with
          | some [u, v] => D.tup [u, v]
          | _ => .non) = m.map eV := by
        rw [List.filter_eq_self.mpr fun _ _ => rfl]
        apply List.ext_getElem?
        intro j
        rw [List.getElem?_map, List.getElem?_map]
        cases hj : dms[j]? with
        | none =>
          have := List.getElem?_eq_none_iff.mp hj
          rw [List.getElem?_eq_none (by omega)]; rfl
        | some x =>
          obtain ⟨q, hq, hv⟩ := paired_at h3 hj
          rw [hq]
          simp only [Option.map_some, show itemsOf M x = some [.str q.1, .int q.2] from hv]; rfl
      rw [em] at hp2
      simp only [cTuple]
      refine ⟨_, _, rfl, items_ref hp2, ?_⟩
      simp only [wSeq, wAsg, wDrop, wRet, wRetN, wNext, wIfS, wBl, Fg.wTru, wOp, wUn, wCl, wCons, wNil, wVar, wCst, wTup, wLst, gNm, wCall, List.set_cons_zero, List.set_cons_succ, List.getElem?_cons_zero, List.getElem?_cons_succ, List.length_cons, List.length_nil, sizeLine_eq, mApp]
      refine ⟨by decide, _, _, _, rfl, rfl, e3 _ _ e2, ?_, ?_⟩
      · rw [List.length_map, List.length_take]; omega
      · refine hK _ _ ⟨_, _, rfl, Ext.upd htl (ex.trans e3), ?_⟩
        rw [up_same, show (D.tup [D.tup (m.map eV), D.int c]) = eT (m, c) from rfl, ← List.map_singleton (f := eT), ← List.map_append, List.take_add_one, ht]; rfl
  · subst e1
    simp only [w_frozen_2, wSeq, wAsg, wDrop, wRet, wRetN, wNext, wIfS, wBl, Fg.wTru, wOp, wUn, wCl, wCons, wNil, wVar, wCst, wTup, wLst, gNm, wCall, List.set_cons_zero, List.set_cons_succ, List.getElem?_cons_zero, List.getElem?_cons_succ, cTuple]
    refine ⟨_, _, rfl, items_ref e2, ?_⟩
    rw [hl, List.take_length]
    exact k M1 ex
theorem p_counts_of {M : MM} {d : D} {t : Tab} {Q : QD} {E : QX} (h : RPo M d t) (hn : ND t) (hs : Sml t) (k : ∀ a o M', M a = none → M' a = some (.dct o (kvs t)) → Ext M M' → Q (.ref a) M') : sp_counts_of [d] M Q E := by
  refine ⟨rfl, ?_⟩
  show w_counts_of [some d] M _ _
  simp only [w_counts_of, wSeq, wAsg, wDrop, wRet, wRetN, wNext, wIfS, wBl, Fg.wTru, wOp, wUn, wCl, wCons, wNil, wVar, wCst, wTup, wLst, gNm, wCall, List.set_cons_zero, List.set_cons_succ, List.getElem?_cons_zero, List.getElem?_cons_succ]
  refine p_frozen h hs fun M1 e => ⟨eP t, kvs t, rfl, ?_, pairsOk_kvs t, fun p o hp => ?_⟩
  · show some (t.map eT) = _
    unfold kvs
    rw [List.map_map]; rfl
  · rw [putAll_nd hn]
    exact k p o _ (e.none hp) up_same (e.trans (Ext.new hp))
theorem pow_bits {n : Nat} (h : n ≤ 1000) : ((10 : Int) ^ n).natAbs < 2 ^ 400000 := by
  rw [Int.natAbs_pow]
  show 10 ^ n < 2 ^ 400000
  have h1 : 10 ^ n ≤ (2 ^ 4) ^ n := Nat.pow_le_pow_left (by decide) n
  have h2 : (2 ^ 4) ^ n < 2 ^ 400000 := by
    rw [← Nat.pow_mul]
    exact Nat.pow_lt_pow_right (by decide) (by omega)
  omega
theorem p_least_with {M : MM} {n : Nat} {Q : QD} {E : QX} (hn : n ≤ 1000) (k : Q (.int (10 ^ n)) M) : sp_least_with [.int ((n : Int) + 1)] M Q E := by
  refine ⟨rfl, ?_⟩
  show w_least_with [some (.int ((n : Int) + 1)), none, none] M _ _
  simp only [w_least_with, w_least_with_1, wSeq, wAsg, wDrop, wRet, wRetN, wNext, wIfS, wBl, Fg.wTru, wOp, wUn, wCl, wCons, wNil, wVar, wCst, wTup, wLst, gNm, wCall, List.set_cons_zero, List.set_cons_succ, List.getElem?_cons_zero, List.getElem?_cons_succ, wFor, wRng1, dSub, exists_eq_left', exists_and_left, Option.some.injEq, List.cons.injEq, and_true, true_and, D.int.injEq, D.ref.injEq, D.str.injEq, D.tup.injEq, D.bl.injEq, exists_eq', and_assoc]
  have en : ((n : Int) + 1 - 1).toNat = n := by omega
  rw [en]
  refine ⟨by omega, by omega, ?_⟩
  refine for_rule (I := fun i ρ M' => ∃ b, ρ = [some (.int ((n : Int) + 1)), some (.int (10 ^ i)), b] ∧ M' = M) ⟨none, rfl, rfl⟩ (fun i x hx ρ M1 ⟨b, e1, e2⟩ K hK => ⟨trivial, ?_⟩) fun ρ M1 ⟨b, e1, e2⟩ => ⟨trivial, ?_⟩
  · have hi : i < n := by
      have := (List.getElem?_eq_some_iff.mp hx).1
      simp [Fg.upTo] at this
      exact this
    subst e1 e2
    simp only [wSeq, wAsg, wDrop, wRet, wRetN, wNext, wIfS, wBl, Fg.wTru, wOp, wUn, wCl, wCons, wNil, wVar, wCst, wTup, wLst, gNm, wCall, List.set_cons_zero, List.set_cons_succ, List.getElem?_cons_zero, List.getElem?_cons_succ, dMul]
    exact ⟨mul_ok (pow_bits (by omega)) (low (by decide)), hK _ _ ⟨some x, by rw [Int.pow_succ], rfl⟩⟩
  · subst e1 e2
    simp only [w_least_with_2, wSeq, wAsg, wDrop, wRet, wRetN, wNext, wIfS, wBl, Fg.wTru, wOp, wUn, wCl, wCons, wNil, wVar, wCst, wTup, wLst, gNm, wCall, List.set_cons_zero, List.set_cons_succ, List.getElem?_cons_zero, List.getElem?_cons_succ]
    have hl : (Fg.upTo 0 n).length = n := by simp [Fg.upTo]
    rw [hl]
    exact k
def big : Int := 10 ^ 200
theorem p_is_great {M : MM} {c : Int} {Q : QD} {E : QX} (k : Q (.bl (decide (big ≤ c))) M) : sp_is_great [.int c] M Q E := by
  refine ⟨rfl, ?_⟩
  show w_is_great [some (.int c)] M _ _
  simp only [w_is_great, wSeq, wAsg, wDrop, wRet, wRetN, wNext, wIfS, wBl, Fg.wTru, wOp, wUn, wCl, wCons, wNil, wVar, wCst, wTup, wLst, gNm, wCall, List.set_cons_zero, List.set_cons_succ, List.getElem?_cons_zero, List.getElem?_cons_succ, wAndV, dGe, dOrd, truD, exists_eq_left', exists_and_left, Option.some.injEq, List.cons.injEq, and_true, true_and, D.int.injEq, D.ref.injEq, D.str.injEq, D.tup.injEq, D.bl.injEq, exists_eq', and_assoc]
  by_cases h : (1000000000000 : Int) ≤ c
  · simp only [h, decide_true, if_true, dAdd]
    exact p_least_with (n := 200) (by decide) k
  · simp only [h, decide_false, Bool.false_eq_true, if_false]
    have : decide (big ≤ c) = false := decide_eq_false (by unfold big; omega)
    rw [this] at k
    exact k
/-- what checked tells of a table -/
def Chk (t : Tab) (M : MM) (Q : QD) (E : QX) : Prop := ∀ M', Ext M M' → if 2000 < (nz t).length then E ⟨"TooMany", "word", .str "terms"⟩ M' else if (nz t).any (fun p => decide (big ≤ (p.2.natAbs : Int))) = true then E ⟨"TooMany", "word", .str "figures"⟩ M' else Q (eP (canon t)) M'
theorem Chk.ext {t : Tab} {M M1 : MM} {Q : QD} {E : QX} (e : Ext M M1) (h : Chk t M Q E) : Chk t M1 Q E := fun M' e' => h M' (e.trans e')
theorem getM {M : MM} {a : Addr} {o : Obj} {t : Tab} {m : Mono} {c : Int} (h : M a = some (.dct o (kvs t))) (hl : look t m = some c) (Q : QD) (q : Q (.int c) M) : dIx (.ref a) (eM m) M Q := by
  unfold dIx
  simp only [h]
  exact ⟨kM m, .int c, kOk t m, by rw [look_kvs, hl]; rfl, q⟩
theorem p_checked {M : MM} {a : Addr} {o : Obj} {t : Tab} {Q : QD} {E : QX} (h : M a = some (.dct o (kvs t))) (hn : ND t) (hz : t.length ≤ 1000000) (k : Chk t M Q E) : sp_checked [.ref a] M Q E := by
  refine ⟨rfl, ?_⟩
  show w_checked [some (.ref a), none, none, none, none] M _ _
  simp only [w_checked, wSeq, wAsg, wDrop, wRet, wRetN, wNext, wIfS, wBl, Fg.wTru, wOp, wUn, wCl, wCons, wNil, wVar, wCst, wTup, wLst, gNm, wCall, List.set_cons_zero, List.set_cons_succ, List.getElem?_cons_zero, List.getElem?_cons_succ, wWk]
  obtain ⟨st, hw, hst⟩ := walk_dct h
  refine ⟨_, st, hw, fun p hp => ?_⟩
  rw [keys_kvs]
  refine lc_map (xs := t) hp (fun p => eM p.1) eT (fun p => decide (p.2 ≠ 0)) (fun M' e => hst M' (e _ _ h)) (by rw [sizeLine_eq]; omega) (fun x hx M1 e K1 K0 k1 k0 => ?_) fun M1 e hp1 => ?_
  · have hl : look t x.1 = some x.2 := look_mem hn hx
    have h1 := e _ _ h
    simp only [wipeD, wSeq, wAsg, wDrop, wRet, wRetN, wNext, wIfS, wBl, Fg.wTru, wOp, wUn, wCl, wCons, wNil, wVar, wCst, wTup, wLst, gNm, wCall, List.set_cons_zero, List.set_cons_succ, List.getElem?_cons_zero, List.getElem?_cons_succ]
    refine getM h1 hl _ ?_
    simp only [dNe, dEq]
    by_cases z : x.2 = 0
    · simp only [z, decide_true, Bool.not_true, Bool.false_eq_true, if_false]
      exact k0 (by simp [z]) M1 (Ext.refl _)
    · simp only [z, decide_false, Bool.not_false, if_true]
      refine getM h1 hl _ ?_
      simp only [List.length_cons, List.length_nil, sizeLine_eq]
      exact ⟨by decide, k1 (by simp [z]) M1 (Ext.refl _)⟩
  · simp only [cSortT]
    refine ⟨_, (nz t).map eT, rfl, lstOf_ref hp1, SortOk.wk (sortOk_eT _), fun q hq => ?_⟩
    rw [srt_map]
    have e1 : Ext M (up M1 q (.lst ((srt (nz t)).map eT))) := e.trans (Ext.new hq)
    have hq1 : up M1 q (.lst ((srt (nz t)).map eT)) q = some (.lst ((srt (nz t)).map eT)) := up_same
    generalize up M1 q (.lst ((srt (nz t)).map eT)) = M2 at e1 hq1 ⊢
    have hl : (srt (nz t)).length = (nz t).length := (srt_perm _).length_eq
    have hz2 := nz_len t
    have hk := k M2 e1
    simp only [w_checked_1, wSeq, wAsg, wDrop, wRet, wRetN, wNext, wIfS, wBl, Fg.wTru, wOp, wUn, wCl, wCons, wNil, wVar, wCst, wTup, wLst, gNm, wCall, List.set_cons_zero, List.set_cons_succ, List.getElem?_cons_zero, List.getElem?_cons_succ, cLen, lenD, hq1, exists_eq_left', exists_and_left, Option.some.injEq, List.cons.injEq, and_true, true_and, D.int.injEq, D.ref.injEq, D.str.injEq, D.tup.injEq, D.bl.injEq, exists_eq', and_assoc, dGt, dOrd, List.length_map, hl]
    by_cases z : (2000 : Int) < ((nz t).length : Int)
    · rw [if_pos (by omega)] at hk
      simp only [z, decide_true, if_true, wRaise, wSeq, wAsg, wDrop, wRet, wRetN, wNext, wIfS, wBl, Fg.wTru, wOp, wUn, wCl, wCons, wNil, wVar, wCst, wTup, wLst, gNm, wCall, List.set_cons_zero, List.set_cons_succ, List.getElem?_cons_zero, List.getElem?_cons_succ]
      exact hk
    · rw [if_neg (by omega)] at hk
      simp only [z, decide_false, Bool.false_eq_true, if_false, w_checked_2, wSeq, wAsg, wDrop, wRet, wRetN, wNext, wIfS, wBl, Fg.wTru, wOp, wUn, wCl, wCons, wNil, wVar, wCst, wTup, wLst, gNm, wCall, List.set_cons_zero, List.set_cons_succ, List.getElem?_cons_zero, List.getElem?_cons_succ, wWk]
      obtain ⟨st2, hw2⟩ := walk_items (items_ref hq1)
      refine ⟨_, st2, (hw2 _ (Ext.refl _)).1, fun r hr => ?_⟩
      refine lc_map (xs := srt (nz t)) hr eT (fun p => .bl (decide (big ≤ (p.2.natAbs : Int)))) (fun _ => true) (fun M' e => (hw2 M' e).2) (by rw [sizeLine_eq, hl]; omega) (fun x hx M3 e3 K1 K0 k1 k0 => ?_) fun M3 e3 hr3 => ?_
      · refine ⟨[eM x.1, .int x.2], rfl, rfl, ?_⟩
        simp only [wYes, gMany, wSeq, wAsg, wDrop, wRet, wRetN, wNext, wIfS, wBl, Fg.wTru, wOp, wUn, wCl, wCons, wNil, wVar, wCst, wTup, wLst, gNm, wCall, List.set_cons_zero, List.set_cons_succ, List.getElem?_cons_zero, List.getElem?_cons_succ, wipeD, if_true, cAbs, exists_eq_left', exists_and_left, Option.some.injEq, List.cons.injEq, and_true, true_and, D.int.injEq, D.ref.injEq, D.str.injEq, D.tup.injEq, D.bl.injEq, exists_eq', and_assoc]
        have ea : (if x.2 < 0 then -x.2 else x.2) = (x.2.natAbs : Int) := by split <;> omega
        rw [ea]
        exact p_is_great (k1 rfl M3 (Ext.refl _))
      · simp only [cAny]
        have eb : ((srt (nz t)).filter fun _ => true).map (fun p => D.bl (decide (big ≤ (p.2.natAbs : Int)))) = ((srt (nz t)).map fun p => decide (big ≤ (p.2.natAbs : Int))).map D.bl := by
          rw [List.filter_eq_self.mpr fun _ _ => rfl, List.map_map]; rfl
        rw [eb] at hr3
        refine ⟨_, _, rfl, lstOf_ref hr3, _, rfl, ?_⟩
        have ec : ((srt (nz t)).map fun p => decide (big ≤ (p.2.natAbs : Int))).any id = (nz t).any fun p => decide (big ≤ (p.2.natAbs : Int)) := by
          rw [List.any_map]
          exact List.Perm.any_eq (srt_perm _)
        rw [ec]
        have hk3 := k M3 (e1.trans e3)
        rw [if_neg (by omega)] at hk3
        cases hb : (nz t).any (fun p => decide (big ≤ (p.2.natAbs : Int))) with
        | true =>
          rw [hb, if_pos rfl] at hk3
          simp only [if_true, wRaise, wSeq, wAsg, wDrop, wRet, wRetN, wNext, wIfS, wBl, Fg.wTru, wOp, wUn, wCl, wCons, wNil, wVar, wCst, wTup, wLst, gNm, wCall, List.set_cons_zero, List.set_cons_succ, List.getElem?_cons_zero, List.getElem?_cons_succ]
          exact hk3
        | false =>
          rw [hb, if_neg (by decide)] at hk3
          simp only [Bool.false_eq_true, if_false, w_checked_3, wSeq, wAsg, wDrop, wRet, wRetN, wNext, wIfS, wBl, Fg.wTru, wOp, wUn, wCl, wCons, wNil, wVar, wCst, wTup, wLst, gNm, wCall, List.set_cons_zero, List.set_cons_succ, List.getElem?_cons_zero, List.getElem?_cons_succ, cTuple]
          exact ⟨_, _, rfl, items_ref (e3 _ _ hq1), hk3⟩
def Bd (u : Tab) : Prop := ∀ p ∈ u, p.2.natAbs < 2 ^ 400000
theorem get2 {M : MM} {a : Addr} {o : Obj} {t : Tab} {m : Mono} {Q : QD} (h : M a = some (.dct o (kvs t))) (q : Q (.int (val t m)) M) : mGet2 (.ref a) [eM m, .int 0] M Q := by
  refine ⟨a, o, kvs t, eM m, kM m, .int 0, rfl, rfl, h, kOk t m, ?_⟩
  rw [look_kvs]
  unfold val at q
  cases e : look t m with
  | none => rw [e] at q; exact q
  | some c => rw [e] at q; exact q
theorem setM {M : MM} {a : Addr} {o : Obj} {t : Tab} {m : Mono} {c : Int} {Q : MM → Prop} (h : M a = some (.dct o (kvs t))) (hz : t.length < sizeLine) (q : ∀ o', Q (up M a (.dct o' (kvs (put t m c))))) : dSetI (.ref a) (eM m) (.int c) M Q := by
  unfold dSetI
  simp only [h]
  refine ⟨kM m, kOk t m, by unfold kvs; rw [List.length_map]; exact hz, fun o' => ?_⟩
  rw [put_kvs]
  exact q o'
theorem p_add_times {M : MM} {a b : Addr} {o o2 : Obj} {t u : Tab} {k : Int} {Q : QD} {E : QX} (ha : M a = some (.dct o (kvs t))) (hb : M b = some (.dct o2 (kvs u))) (hne : b ≠ a) (ht : ND t) (hu : ND u) (hz : t.length + u.length ≤ 2000000) (hk : k.natAbs < 2 ^ 400000) (bd : Bd u)
    (q : ∀ M' o' w, (∀ x, x ≠ a → M' x = M x) → M' a = some (.dct o' (kvs w)) → ND w → (∀ f, sm w f = sm t f + k * sm u f) → w.length ≤ t.length + u.length → Q .non M') : sp_add_times [.ref a, .ref b, .int k] M Q E := by
  refine ⟨rfl, ?_⟩
  show w_add_times [some (.ref a), some (.ref b), some (.int k), none] M _ _
  simp only [w_add_times, wSeq, wAsg, wDrop, wRet, wRetN, wNext, wIfS, wBl, Fg.wTru, wOp, wUn, wCl, wCons, wNil, wVar, wCst, wTup, wLst, gNm, wCall, List.set_cons_zero, List.set_cons_succ, List.getElem?_cons_zero, List.getElem?_cons_succ, wFor, wWk]
  obtain ⟨st, hw, hst⟩ := walk_dct hb
  refine ⟨_, st, hw, ?_⟩
  rw [keys_kvs]
  refine for_rule (I := fun i ρ M' => ∃ v w o', ρ = [some (.ref a), some (.ref b), some (.int k), v] ∧ (∀ x, x ≠ a → M' x = M x) ∧ M' a = some (.dct o' (kvs w)) ∧ ND w ∧ (∀ f, sm w f = sm t f + k * sm (u.take i) f) ∧ w.length ≤ t.length + i)
    ⟨none, t, o, rfl, fun _ _ => rfl, ha, ht, fun f => by rw [List.take_zero, sm_nil]; simp, by omega⟩ (fun i x hx ρ M1 ⟨v, w, o', e1, e2, e3, e4, e5, e6⟩ K hK => ⟨hst _ ((e2 b hne).trans hb), ?_⟩) fun ρ M1 ⟨v, w, o', e1, e2, e3, e4, e5, e6⟩ => ⟨hst _ ((e2 b hne).trans hb), ?_⟩
  · subst e1
    rw [List.getElem?_map] at hx
    obtain ⟨p, hp, ex⟩ := Option.map_eq_some_iff.mp hx
    subst ex
    have hi := (List.getElem?_eq_some_iff.mp hp).1
    have hm := List.mem_of_getElem? hp
    simp only [wSeq, wAsg, wDrop, wRet, wRetN, wNext, wIfS, wBl, Fg.wTru, wOp, wUn, wCl, wCons, wNil, wVar, wCst, wTup, wLst, gNm, wCall, List.set_cons_zero, List.set_cons_succ, List.getElem?_cons_zero, List.getElem?_cons_succ, wBm, tyR, e3]
    refine ⟨trivial, get2 e3 ?_⟩
    refine getM ((e2 b hne).trans hb) (look_mem hu hm) _ ?_
    simp only [dMul, dAdd]
    refine ⟨mul_ok hk (bd p hm), setM e3 (by rw [sizeLine_eq]; omega) fun o3 => hK _ _ ⟨_, put w p.1 (val w p.1 + k * p.2), o3, rfl, fun x h => by rw [up_ne h]; exact e2 x h, up_same, put_nd e4, fun f => ?_, ?_⟩⟩
    · rw [put_sm e4, e5, List.take_add_one, hp, Option.toList_some, sm_append, sm_cons, sm_nil, Int.add_zero, Int.mul_add, show val w p.1 + k * p.2 - val w p.1 = k * p.2 by omega, Int.mul_assoc]
      omega
    · have := put_len w p.1 (val w p.1 + k * p.2)
      omega
  · subst e1
    have hl : (u.map fun p => eM p.1).length = u.length := List.length_map _
    rw [hl] at e5 e6
    rw [List.take_length] at e5
    exact q M1 o' w e2 e3 e4 e5 e6
theorem nd_one (m : Mono) (c : Int) : ND [(m, c)] := List.nodup_cons.mpr ⟨fun h => (nomatch h), List.nodup_nil⟩
/-- sums and differences -/
theorem p_added {M : MM} {d e : D} {t u : Tab} {Q : QD} {E : QX} (h1 : RPo M d t) (h2 : RPo M e u) (n1 : ND t) (n2 : ND u) (s1 : Sml t) (s2 : Sml u) (b2 : Bd u) (hz : t.length + u.length ≤ 1000000)
    (k : ∀ w, ND w → (∀ f, sm w f = sm t f + sm u f) → w.length ≤ t.length + u.length → Chk w M Q E) : sp_added [d, e] M Q E := by
  refine ⟨rfl, ?_⟩
  show w_added [some d, some e, none] M _ _
  simp only [w_added, wSeq, wAsg, wDrop, wRet, wRetN, wNext, wIfS, wBl, Fg.wTru, wOp, wUn, wCl, wCons, wNil, wVar, wCst, wTup, wLst, gNm, wCall, List.set_cons_zero, List.set_cons_succ, List.getElem?_cons_zero, List.getElem?_cons_succ]
  refine p_counts_of h1 n1 s1 fun a o M1 ha e1 x1 => ?_
  simp only [w_added_1, wSeq, wAsg, wDrop, wRet, wRetN, wNext, wIfS, wBl, Fg.wTru, wOp, wUn, wCl, wCons, wNil, wVar, wCst, wTup, wLst, gNm, wCall, List.set_cons_zero, List.set_cons_succ, List.getElem?_cons_zero, List.getElem?_cons_succ]
  refine p_counts_of (h2.ext x1) n2 s2 fun b o2 M2 hb e2 x2 => ?_
  have hne : b ≠ a := fun z => by rw [z, e1] at hb; cases hb
  refine p_add_times (x2 _ _ e1) e2 hne n1 n2 (by omega) (low (by decide)) b2 fun M3 o3 w hx ew nw sw lw => ?_
  simp only [w_added_2, wSeq, wAsg, wDrop, wRet, wRetN, wNext, wIfS, wBl, Fg.wTru, wOp, wUn, wCl, wCons, wNil, wVar, wCst, wTup, wLst, gNm, wCall, List.set_cons_zero, List.set_cons_succ, List.getElem?_cons_zero, List.getElem?_cons_succ]
  refine p_checked ew nw (by omega) ((k w nw (fun f => by rw [sw f, Int.one_mul]) lw).ext fun x ob q => ?_)
  rw [hx x fun z => by rw [z, ha] at q; cases q]
  exact x2 _ _ (x1 _ _ q)
end FgL
/-! C2: products and powers. -/
namespace FgL
open PySem PySem.Spec L2 Fg
open PyProof.Rows hiding St
theorem p_monomial_product {M : MM} {a b : Mono} {Q : QD} {E : QX} (ga : Good a) (gb : Good b) (la : a.length ≤ 100000) (lb : b.length ≤ 100000) (k : ∀ M', Ext M M' → Q (eM (J a b)) M') : sp_monomial_product [eM a, eM b] M Q E := by
  refine ⟨rfl, ?_⟩
  show w_monomial_product [some (eM a), some (eM b), none, none, none] M _ _
  (unfold w_monomial_product; obtain ⟨Tl, hTl⟩ : ∃ x, x = w_monomial_product_1 := ⟨_, rfl⟩; rw [← hTl]; simp only [wSeq, wAsg, wDrop, wRet, wRetN, wNext, wIfS, wBl, Fg.wTru, wOp, wUn, wCl, wCons, wNil, wVar, wCst, wTup, wLst, gNm, wCall, List.set_cons_zero, List.set_cons_succ, List.getElem?_cons_zero, List.getElem?_cons_succ, cDict]; subst hTl)
  refine ⟨eM a, kvsS a, rfl, ?_, pairsOk_kvsS a, fun p o hp => ?_⟩
  · show some (a.map eV) = _
    unfold kvsS
    rw [List.map_map]; rfl
  rw [putAll_ndS ga.nd]
  have x0 : Ext M (Fg.up M p (.dct o (kvsS a))) := Ext.new hp
  have h0 : Fg.up M p (.dct o (kvsS a)) p = some (.dct o (kvsS a)) := up_same
  (unfold w_monomial_product_1; obtain ⟨Tl, hTl⟩ : ∃ x, x = w_monomial_product_2 := ⟨_, rfl⟩; rw [← hTl]; simp only [wSeq, wAsg, wDrop, wRet, wRetN, wNext, wIfS, wBl, Fg.wTru, wOp, wUn, wCl, wCons, wNil, wVar, wCst, wTup, wLst, gNm, wCall, List.set_cons_zero, List.set_cons_succ, List.getElem?_cons_zero, List.getElem?_cons_succ, wFor, wWk]; subst hTl)
  refine ⟨b.map eV, fun _ => True, rfl, ?_⟩
  refine for_rule (I := fun i ρ M' => ∃ v3 v4 o', ρ = [some (eM a), some (eM b), some (.ref p), v3, v4] ∧ Ext M M' ∧ M' p = some (.dct o' (kvsS (mrg a (b.take i)))))
    ⟨none, none, o, rfl, x0, h0⟩ (fun i x hx ρ M1 ⟨v3, v4, o', e1, x1, h1⟩ K hK => ⟨trivial, ?_⟩) fun ρ M1 ⟨v3, v4, o', e1, x1, h1⟩ => ⟨trivial, ?_⟩
  · subst e1
    rw [List.getElem?_map] at hx
    obtain ⟨y, hy, ex⟩ := Option.map_eq_some_iff.mp hx
    subst ex
    have hi := (List.getElem?_eq_some_iff.mp hy).1
    refine ⟨[.str y.1, .int y.2], rfl, rfl, ?_⟩
    simp only [gMany, wSeq, wAsg, wDrop, wRet, wRetN, wNext, wIfS, wBl, Fg.wTru, wOp, wUn, wCl, wCons, wNil, wVar, wCst, wTup, wLst, gNm, wCall, List.set_cons_zero, List.set_cons_succ, List.getElem?_cons_zero, List.getElem?_cons_succ, wBm, tyR, h1]
    refine ⟨trivial, get2S (m := y.1) h1 ?_⟩
    simp only [dAdd, gSubD, wSeq, wAsg, wDrop, wRet, wRetN, wNext, wIfS, wBl, Fg.wTru, wOp, wUn, wCl, wCons, wNil, wVar, wCst, wTup, wLst, gNm, wCall, List.set_cons_zero, List.set_cons_succ, List.getElem?_cons_zero, List.getElem?_cons_succ]
    have lm := mrg_len (b.take i) a
    have lt : (b.take i).length ≤ b.length := by rw [List.length_take]; omega
    refine setMS (m := y.1) h1 (by rw [sizeLine_eq]; omega) fun o3 => hK _ _ ⟨_, _, o3, rfl, Ext.upd hp x1, ?_⟩
    rw [up_same, List.take_add_one, hy]
    unfold mrg
    rw [Option.toList_some, List.foldl_append]; rfl
  · subst e1
    rw [List.length_map, List.take_length] at h1
    have lm := mrg_len b a
    simp only [w_monomial_product_2, wSeq, wAsg, wDrop, wRet, wRetN, wNext, wIfS, wBl, Fg.wTru, wOp, wUn, wCl, wCons, wNil, wVar, wCst, wTup, wLst, gNm, wCall, List.set_cons_zero, List.set_cons_succ, List.getElem?_cons_zero, List.getElem?_cons_succ, wLc, wWk]
    obtain ⟨st, hw, hst⟩ := walk_dct h1
    refine ⟨_, st, hw, fun q hq => ?_⟩
    rw [keys_kvsS]
    refine lc_map (xs := mrg a b) hq (fun p => eS p.1) eV (fun _ => true) (fun M' e => hst M' (e _ _ h1)) (by rw [sizeLine_eq]; omega) (fun x hx M2 e K1 K0 k1 k0 => ?_) fun M2 x2 hq2 => ?_
    · simp only [wYes, wSeq, wAsg, wDrop, wRet, wRetN, wNext, wIfS, wBl, Fg.wTru, wOp, wUn, wCl, wCons, wNil, wVar, wCst, wTup, wLst, gNm, wCall, List.set_cons_zero, List.set_cons_succ, List.getElem?_cons_zero, List.getElem?_cons_succ, wipeD, if_true]
      refine getMS (m := x.1) (e _ _ h1) (look_memS (mrg_nd ga.nd) hx) _ ?_
      simp only [List.length_cons, List.length_nil, sizeLine_eq]
      exact ⟨by decide, k1 rfl M2 (Ext.refl _)⟩
    · rw [List.filter_eq_self.mpr fun _ _ => rfl] at hq2
      simp only [cSortT]
      refine ⟨_, (mrg a b).map eV, rfl, lstOf_ref hq2, SortOk.wk (sortOk_eV _), fun r hr => ?_⟩
      rw [srt_mapS, J_srt ga gb]
      simp only [cTuple]
      exact ⟨_, _, rfl, items_ref up_same, k _ (x1.trans (x2.trans (Ext.new hr)))⟩
/-- a table's dict -/
structure TB (M : MM) (a : Addr) (t : Tab) : Prop where
  at_ : ∃ o, M a = some (.dct o (kvs t))
  nd : ND t
  gk : Gk t
  ml : ∀ x ∈ t, x.1.length ≤ 100000
  bd : Bd t
theorem TB.ext {M M' : MM} {a : Addr} {t : Tab} (h : TB M a t) (e : Ext M M') : TB M' a t := ⟨let ⟨o, q⟩ := h.at_; ⟨o, e _ _ q⟩, h.nd, h.gk, h.ml, h.bd⟩
def row (x : Mono × Int) (u : Tab) : Tab := u.map fun y => (J x.1 y.1, x.2 * y.2)
theorem mulT_app (t u v : Tab) : mulT (t ++ u) v = mulT t v ++ mulT u v := by unfold mulT; rw [List.map_append, List.flatten_append]
theorem mulT_one (x : Mono × Int) (v : Tab) : mulT [x] v = row x v := by unfold mulT row; simp
theorem row_app (x : Mono × Int) (u v : Tab) : row x (u ++ v) = row x u ++ row x v := by unfold row; rw [List.map_append]
theorem put_keys_sub {w : Tab} {m : Mono} {c : Int} {P : Mono → Prop} (hw : ∀ x ∈ w, P x.1) (h : P m) : ∀ x ∈ put w m c, P x.1 := by
  unfold put
  intro x hx
  split at hx
  · obtain ⟨y, hy, e⟩ := List.mem_map.mp hx
    split at e
    · rw [← e]; exact hw y hy
    · rw [← e]; exact hw y hy
  · rcases List.mem_append.mp hx with hx | hx
    · exact hw x hx
    · rw [List.mem_singleton] at hx
      rw [hx]; exact h
theorem p_counts_product {M : MM} {a b : Addr} {t u : Tab} {Q : QD} {E : QX} (ha : TB M a t) (hb : TB M b u) (hz : t.length * u.length ≤ 900000)
    (k : ∀ p o w M', M p = none → M' p = some (.dct o (kvs w)) → Ext M M' → ND w → Eqv w (mulT t u) → (∀ x ∈ w, x.2 ≠ 0) → (∀ x ∈ w, ∃ y ∈ t, ∃ z ∈ u, x.1 = J y.1 z.1) → Q (.ref p) M') : sp_counts_product [.ref a, .ref b] M Q E := by
  obtain ⟨oa, ea⟩ := ha.at_
  obtain ⟨ob, eb⟩ := hb.at_
  refine ⟨rfl, ?_⟩
  show w_counts_product [some (.ref a), some (.ref b), none, none, none, none] M _ _
  (unfold w_counts_product; obtain ⟨Tl, hTl⟩ : ∃ x, x = w_counts_product_1 := ⟨_, rfl⟩; rw [← hTl]; simp only [wSeq, wAsg, wDrop, wRet, wRetN, wNext, wIfS, wBl, Fg.wTru, wOp, wUn, wCl, wCons, wNil, wVar, wCst, wTup, wLst, gNm, wCall, List.set_cons_zero, List.set_cons_succ, List.getElem?_cons_zero, List.getElem?_cons_succ, wDct0]; subst hTl)
  intro p hp
  have x0 : Ext M (Fg.up M p (.dct dct0 [])) := Ext.new hp
  have h0 : Fg.up M p (.dct dct0 []) p = some (.dct dct0 (kvs [])) := up_same
  have hap : a ≠ p := fun z => by rw [z, hp] at ea; cases ea
  have hbp : b ≠ p := fun z => by rw [z, hp] at eb; cases eb
  generalize Fg.up M p (.dct dct0 []) = M0 at x0 h0 ⊢
  (unfold w_counts_product_1; obtain ⟨Tl, hTl⟩ : ∃ x, x = w_counts_product_2 := ⟨_, rfl⟩; rw [← hTl]; simp only [wSeq, wAsg, wDrop, wRet, wRetN, wNext, wIfS, wBl, Fg.wTru, wOp, wUn, wCl, wCons, wNil, wVar, wCst, wTup, wLst, gNm, wCall, List.set_cons_zero, List.set_cons_succ, List.getElem?_cons_zero, List.getElem?_cons_succ, wFor, wWk]; subst hTl)
  obtain ⟨st, hw, hst⟩ := walk_dct (x0 _ _ ea)
  refine ⟨_, st, hw, ?_⟩
  rw [keys_kvs]
  refine for_rule (I := fun i ρ M' => ∃ v3 v4 v5 w o', ρ = [some (.ref a), some (.ref b), some (.ref p), v3, v4, v5] ∧ Ext M M' ∧ M' p = some (.dct o' (kvs w)) ∧ ND w ∧ Eqv w (mulT (t.take i) u) ∧ w.length ≤ i * u.length ∧ ∀ x ∈ w, ∃ y ∈ t, ∃ z ∈ u, x.1 = J y.1 z.1)
    ⟨none, none, none, [], dct0, rfl, x0, h0, List.nodup_nil, Eqv.refl _, by simp, fun _ h => nomatch h⟩ (fun i x hx ρ M1 ⟨v3, v4, v5, w, o', e1, x1, h1, nw, ew, lw, kw⟩ K hK => ⟨hst _ (x1 _ _ ea), ?_⟩) fun ρ M1 ⟨v3, v4, v5, w, o', e1, x1, h1, nw, ew, lw, kw⟩ => ⟨hst _ (x1 _ _ ea), ?_⟩
  · subst e1
    rw [List.getElem?_map] at hx
    obtain ⟨y, hy, ex⟩ := Option.map_eq_some_iff.mp hx
    subst ex
    have hi := (List.getElem?_eq_some_iff.mp hy).1
    have hym := List.mem_of_getElem? hy
    have hik : (i + 1) * u.length ≤ t.length * u.length := Nat.mul_le_mul_right _ hi
    rw [Nat.add_mul, Nat.one_mul] at hik
    simp only [wSeq, wAsg, wDrop, wRet, wRetN, wNext, wIfS, wBl, Fg.wTru, wOp, wUn, wCl, wCons, wNil, wVar, wCst, wTup, wLst, gNm, wCall, List.set_cons_zero, List.set_cons_succ, List.getElem?_cons_zero, List.getElem?_cons_succ, wFor, wWk]
    obtain ⟨st2, hw2, hst2⟩ := walk_dct (x1 _ _ eb)
    refine ⟨_, st2, hw2, ?_⟩
    rw [keys_kvs]
    refine for_rule (I := fun j ρ M' => ∃ v4 v5 w' o', ρ = [some (.ref a), some (.ref b), some (.ref p), some (eM y.1), v4, v5] ∧ Ext M M' ∧ M' p = some (.dct o' (kvs w')) ∧ ND w' ∧ Eqv w' (mulT (t.take i) u ++ row y (u.take j)) ∧ w'.length ≤ i * u.length + j ∧ ∀ x ∈ w', ∃ y ∈ t, ∃ z ∈ u, x.1 = J y.1 z.1)
      ⟨v4, v5, w, o', rfl, x1, h1, nw, (by rw [List.take_zero]; unfold row; rw [List.map_nil, List.append_nil]; exact ew), by omega, kw⟩ (fun j x hx ρ M2 ⟨v4, v5, w', o2, e1, x2, h2, nw2, ew2, lw2, kw2⟩ K2 hK2 => ⟨hst2 _ (x2 _ _ eb), ?_⟩) fun ρ M2 ⟨v4, v5, w', o2, e1, x2, h2, nw2, ew2, lw2, kw2⟩ => ⟨hst2 _ (x2 _ _ eb), ?_⟩
    · subst e1
      rw [List.getElem?_map] at hx
      obtain ⟨z, hz2, ex⟩ := Option.map_eq_some_iff.mp hx
      subst ex
      have hj := (List.getElem?_eq_some_iff.mp hz2).1
      have hzm := List.mem_of_getElem? hz2
      simp only [wSeq, wAsg, wDrop, wRet, wRetN, wNext, wIfS, wBl, Fg.wTru, wOp, wUn, wCl, wCons, wNil, wVar, wCst, wTup, wLst, gNm, wCall, List.set_cons_zero, List.set_cons_succ, List.getElem?_cons_zero, List.getElem?_cons_succ]
      refine p_monomial_product (ha.gk y hym) (hb.gk z hzm) (ha.ml y hym) (hb.ml z hzm) fun M3 x3 => ?_
      have h3 := x3 _ _ h2
      simp only [wBm, wSeq, wAsg, wDrop, wRet, wRetN, wNext, wIfS, wBl, Fg.wTru, wOp, wUn, wCl, wCons, wNil, wVar, wCst, wTup, wLst, gNm, wCall, List.set_cons_zero, List.set_cons_succ, List.getElem?_cons_zero, List.getElem?_cons_succ, tyR, h3]
      refine ⟨trivial, get2 (m := J y.1 z.1) h3 ?_⟩
      refine getM (x3 _ _ (x2 _ _ ea)) (look_mem ha.nd (m := y.1) (c := y.2) hym) _ ?_
      refine getM (x3 _ _ (x2 _ _ eb)) (look_mem hb.nd (m := z.1) (c := z.2) hzm) _ ?_
      simp only [dMul, dAdd, gSubD, wSeq, wAsg, wDrop, wRet, wRetN, wNext, wIfS, wBl, Fg.wTru, wOp, wUn, wCl, wCons, wNil, wVar, wCst, wTup, wLst, gNm, wCall, List.set_cons_zero, List.set_cons_succ, List.getElem?_cons_zero, List.getElem?_cons_succ]
      refine ⟨mul_ok (ha.bd y hym) (hb.bd z hzm), setM (m := J y.1 z.1) h3 (by rw [sizeLine_eq]; omega) fun o3 => hK2 _ _ ⟨_, _, _, o3, rfl, Ext.upd hp (x2.trans x3), up_same, put_nd nw2, fun f => ?_, ?_, put_keys_sub (P := fun m => ∃ y ∈ t, ∃ z ∈ u, m = J y.1 z.1) kw2 ⟨y, hym, z, hzm, rfl⟩⟩⟩
      · have er : sm (row y [z]) f = y.2 * z.2 * f (J y.1 z.1) := by
          unfold row
          rw [List.map_cons, List.map_nil, sm_cons, sm_nil, Int.add_zero]
        rw [put_sm nw2, ew2, List.take_add_one, hz2, Option.toList_some, row_app, sm_append, sm_append, sm_append, er, show val w' (J y.1 z.1) + y.2 * z.2 - val w' (J y.1 z.1) = y.2 * z.2 by omega]
        omega
      · have := put_len w' (J y.1 z.1) (val w' (J y.1 z.1) + y.2 * z.2)
        omega
    · subst e1
      have hl : (u.map fun x => eM x.1).length = u.length := List.length_map _
      rw [hl] at ew2 lw2
      rw [List.take_length] at ew2
      refine hK _ _ ⟨_, _, _, w', o2, rfl, x2, h2, nw2, ?_, by rw [Nat.add_mul, Nat.one_mul]; exact lw2, kw2⟩
      rw [List.take_add_one, hy, Option.toList_some, mulT_app, mulT_one]
      exact ew2
  · subst e1
    have hl : (t.map fun x => eM x.1).length = t.length := List.length_map _
    rw [hl] at ew lw
    rw [List.take_length] at ew
    simp only [w_counts_product_2, wSeq, wAsg, wDrop, wRet, wRetN, wNext, wIfS, wBl, Fg.wTru, wOp, wUn, wCl, wCons, wNil, wVar, wCst, wTup, wLst, gNm, wCall, List.set_cons_zero, List.set_cons_succ, List.getElem?_cons_zero, List.getElem?_cons_succ, wDc, wWk]
    obtain ⟨st2, hw2, hst2⟩ := walk_dct h1
    refine ⟨_, st2, hw2, fun q hq => ?_⟩
    rw [keys_kvs]
    refine dc_tab (xs := w) hq (fun x => decide (x.2 ≠ 0)) (fun M' e => hst2 M' (e _ _ h1)) nw (by omega) (fun x hx M2 e K1 K0 k1 k0 => ?_) fun M2 o2 x2 h2 => ?_
    · have hlk := look_mem nw (m := x.1) (c := x.2) hx
      simp only [wipeD, wSeq, wAsg, wDrop, wRet, wRetN, wNext, wIfS, wBl, Fg.wTru, wOp, wUn, wCl, wCons, wNil, wVar, wCst, wTup, wLst, gNm, wCall, List.set_cons_zero, List.set_cons_succ, List.getElem?_cons_zero, List.getElem?_cons_succ]
      refine getM (e _ _ h1) hlk _ ?_
      simp only [dNe, dEq]
      by_cases z : x.2 = 0
      · simp only [z, decide_true, Bool.not_true, Bool.false_eq_true, if_false]
        exact k0 (by simp [z]) M2 (Ext.refl _)
      · simp only [z, decide_false, Bool.not_false, if_true]
        exact getM (e _ _ h1) hlk _ (k1 (by simp [z]) M2 (Ext.refl _))
    · have hq' : M q = none := by
        cases z : M q with
        | none => rfl
        | some o => rw [x1 _ _ z] at hq; cases hq
      exact k q o2 (nz w) M2 hq' h2 (x1.trans x2) (nz_nd nw) (fun f => by rw [nz_sm]; exact ew f) (fun x hx => by simpa using (List.mem_filter.mp hx).2) fun x hx => kw x (List.mem_filter.mp hx).1
end FgL
/-! C3: multiplied, power. -/
namespace FgL
open PySem PySem.Spec L2 Fg
open PyProof.Rows hiding St
theorem pw_ml {t : Tab} {L : Nat} (h : ∀ x ∈ t, x.1.length ≤ L) : ∀ i, ∀ x ∈ pwT t i, x.1.length ≤ i * L
  | 0, x, hx => by
    rw [pwT, oneT, List.mem_singleton] at hx
    subst hx
    exact Nat.zero_le _
  | i + 1, x, hx => by
    obtain ⟨y, hy, z, hz, rfl⟩ := mem_mul hx
    have h1 := pw_ml h i y hy
    have h2 := h z hz
    have h3 := J_len y.1 z.1
    dsimp only
    rw [Nat.add_mul, Nat.one_mul]
    omega
structure PB (t : Tab) (K N : Nat) : Prop where
  nd : ND t
  gk : Gk t
  nz : ∀ x ∈ t, x.2 ≠ 0
  ml : ∀ x ∈ t, x.1.length ≤ 1000
  kl : K ≤ 100
  bd : ∀ i, i ≤ K → l1 t ^ i < 2 ^ 400000
  b1 : Bd t
  cnt : ∀ i w, i ≤ K → ND w → (∀ x ∈ w, x.2 ≠ 0) → Eqv w (pwT t i) → w.length ≤ N
  cc : ∀ i j w v, i + j ≤ K → ND w → (∀ x ∈ w, x.2 ≠ 0) → Eqv w (pwT t i) → ND v → (∀ x ∈ v, x.2 ≠ 0) → Eqv v (pwT t j) → w.length * v.length ≤ 900000
theorem l1_mem {w : Tab} {x : Mono × Int} (h : x ∈ w) : x.2.natAbs ≤ l1 w := by
  induction w with
  | nil => cases h
  | cons y w ih =>
    rw [l1_cons]
    rcases List.mem_cons.mp h with rfl | h
    · omega
    · have := ih h; omega
theorem PB.tb {t w : Tab} {K N i : Nat} {M : MM} {a : Addr} {o : Obj} (h : PB t K N) (hi : i ≤ K) (nw : ND w) (nz : ∀ x ∈ w, x.2 ≠ 0) (e : Eqv w (pwT t i)) (ha : M a = some (.dct o (kvs w))) : TB M a w := by
  have keys : ∀ x ∈ w, ∃ y ∈ pwT t i, y.1 = x.1 := fun x hx => List.mem_map.mp (eqv_mem nw e hx (nz x hx))
  refine ⟨⟨o, ha⟩, nw, fun x hx => ?_, fun x hx => ?_, fun x hx => ?_⟩
  · obtain ⟨y, hy, ey⟩ := keys x hx
    rw [← ey]
    exact pw_gk h.gk i y hy
  · obtain ⟨y, hy, ey⟩ := keys x hx
    rw [← ey]
    have h1 := pw_ml h.ml i y hy
    have h2 : i * 1000 ≤ 100 * 1000 := Nat.mul_le_mul_right _ (Nat.le_trans hi h.kl)
    omega
  · have h1 := l1_mem hx
    have h2 := l1_eqv nw e
    have h3 := h.bd i hi
    rw [l1_pw] at h2
    omega
structure MB (t : Tab) : Prop where
  nd : ND t
  gk : Gk t
  ml : ∀ x ∈ t, x.1.length ≤ 100000
  bd : Bd t
  sz : t.length ≤ 100000
theorem MB.sml {t : Tab} (h : MB t) : Sml t := ⟨Nat.le_trans h.sz (by decide), fun x hx => Nat.le_trans (h.ml x hx) (by decide)⟩
theorem MB.tb {t : Tab} {M : MM} {a : Addr} {o : Obj} (h : MB t) (ha : M a = some (.dct o (kvs t))) : TB M a t := ⟨⟨o, ha⟩, h.nd, h.gk, h.ml, h.bd⟩
theorem p_multiplied {M : MM} {d e : D} {t u : Tab} {Q : QD} {E : QX} (h1 : RPo M d t) (h2 : RPo M e u) (b1 : MB t) (b2 : MB u) (hz : t.length * u.length ≤ 900000)
    (k : ∀ w, ND w → (∀ x ∈ w, x.2 ≠ 0) → Eqv w (mulT t u) → Chk w M Q E) : sp_multiplied [d, e] M Q E := by
  refine ⟨rfl, ?_⟩
  show w_multiplied [some d, some e] M _ _
  simp only [w_multiplied, wSeq, wAsg, wDrop, wRet, wRetN, wNext, wIfS, wBl, Fg.wTru, wOp, wUn, wCl, wCons, wNil, wVar, wCst, wTup, wLst, gNm, wCall, List.set_cons_zero, List.set_cons_succ, List.getElem?_cons_zero, List.getElem?_cons_succ]
  refine p_counts_of h1 b1.nd b1.sml fun a o M1 ha e1 x1 => ?_
  refine p_counts_of (h2.ext x1) b2.nd b2.sml fun b o2 M2 hb e2 x2 => ?_
  refine p_counts_product (b1.tb (x2 _ _ e1)) (b2.tb e2) hz fun p o3 w M3 _ h3 x3 nw ew zw _ => ?_
  have lw := keys_le nw zw ew
  rw [mul_len] at lw
  exact p_checked h3 nw (by omega) ((k w nw zw ew).ext (x1.trans (x2.trans x3)))
end FgL
/-! N0: tables by what they are as functionals; sums and differences that are told. -/
namespace FgL
open PySem PySem.Spec L2 Fg
open PyProof.Rows hiding St
structure Nice (B : Int) (t : Tab) : Prop where
  nd : ND t
  co : ∀ m, ((sm t (dl m)).natAbs : Int) ≤ B
  mo : ∀ m, sm t (dl m) ≠ 0 → m.length ≤ 1000
theorem mem_sm {t : Tab} (h : ND t) {x : Mono × Int} (hx : x ∈ t) : sm t (dl x.1) = x.2 := by
  rw [← val_sm h]
  unfold val
  rw [look_mem h (c := x.2) hx]; rfl
theorem nice_of {B : Int} {t : Tab} (h : ND t) (hB : 0 ≤ B) (hc : ∀ x ∈ t, x.1.length ≤ 1000 ∧ (x.2.natAbs : Int) ≤ B) : Nice B t := by
  refine ⟨h, fun m => ?_, fun m hm => ?_⟩
  · rw [← val_sm h]
    unfold val
    cases q : look t m with
    | none => simpa using hB
    | some c => exact (hc _ (look_some q)).2
  · rw [← val_sm h] at hm
    unfold val at hm
    cases q : look t m with
    | none => rw [q] at hm; exact absurd rfl hm
    | some c => exact (hc _ (look_some q)).1
theorem Nice.pos {B : Int} {t : Tab} (h : Nice B t) : 0 ≤ B := by have := h.co []; omega
theorem Nice.le {B C : Int} {t : Tab} (h : Nice B t) (hl : B ≤ C) : Nice C t := ⟨h.nd, fun m => by have := h.co m; omega, h.mo⟩
theorem Nice.add {B C : Int} {t u w : Tab} (h1 : Nice B t) (h2 : Nice C u) (nw : ND w) (e : ∀ f, sm w f = sm t f + sm u f) : Nice (B + C) w := by
  refine ⟨nw, fun m => ?_, fun m hm => ?_⟩
  · have a := h1.co m
    have b := h2.co m
    rw [e]
    omega
  · rw [e] at hm
    by_cases q : sm t (dl m) = 0
    · exact h2.mo m (by omega)
    · exact h1.mo m q
theorem nice_nil : Nice 0 [] := ⟨List.nodup_nil, fun m => by rw [sm_nil]; decide, fun m h => absurd rfl h⟩
theorem canon_x {t : Tab} (h : ND t) {x : Mono × Int} (hx : x ∈ canon t) : sm t (dl x.1) = x.2 ∧ x.2 ≠ 0 := by
  obtain ⟨h1, h2⟩ := canon_mem.mp hx
  exact ⟨mem_sm h h1, h2⟩
theorem canon_le (t : Tab) : (canon t).length ≤ t.length := by
  rw [canon_len]
  exact nz_len t
theorem Nice.sml {B : Int} {t : Tab} (h : Nice B t) (hl : t.length ≤ 1000000) : Sml (canon t) := by
  refine ⟨Nat.le_trans (canon_le t) hl, fun x hx => ?_⟩
  obtain ⟨e, hn⟩ := canon_x h.nd hx
  have := h.mo x.1 (by rw [e]; exact hn)
  omega
theorem Nice.bd {B : Int} {t : Tab} (h : Nice B t) (hB : B.natAbs < 2 ^ 400000) : Bd (canon t) := fun x hx => by
  obtain ⟨e, hn⟩ := canon_x h.nd hx
  have := h.co x.1
  rw [e] at this
  have := h.pos
  omega
theorem Nice.canon {B : Int} {t : Tab} (h : Nice B t) : Nice B (canon t) := ⟨canon_nd h.nd, fun m => by rw [canon_sm]; exact h.co m, fun m hm => h.mo m (by rw [canon_sm] at hm; exact hm)⟩
theorem big_bits {B : Int} (h0 : 0 ≤ B) (h : B < big) : B.natAbs < 2 ^ 400000 := by
  have hb : big.natAbs < 2 ^ 8000 := by decide +kernel
  have : (2 : Nat) ^ 8000 < 2 ^ 400000 := Nat.pow_lt_pow_right (by decide) (by decide)
  omega
/-- a table that is told -/
theorem chk_ok {B : Int} {w : Tab} {M : MM} {Q : QD} {E : QX} (h : Nice B w) (hB : B < big) (hl : (nz w).length ≤ 2000) (k : ∀ M', Ext M M' → Q (eP (canon w)) M') : Chk w M Q E := by
  intro M' e
  rw [if_neg (by omega)]
  have ha : (nz w).any (fun p => decide (big ≤ (p.2.natAbs : Int))) = false := by
    rw [List.any_eq_false]
    intro x hx
    have e1 := (mem_nz h.nd).mp hx
    rw [val_sm h.nd] at e1
    have := h.co x.1
    rw [e1.1] at this
    simp only [decide_eq_true_eq]
    omega
  rw [ha, if_neg (by decide)]
  exact k M' e
theorem chk_terms {w : Tab} {M : MM} {Q : QD} {E : QX} (hl : 2000 < (nz w).length) (k : ∀ M', Ext M M' → E ⟨"TooMany", "word", .str "terms"⟩ M') : Chk w M Q E := fun M' e => by
  rw [if_pos hl]
  exact k M' e
theorem chk_fig {w : Tab} {m : Mono} {M : MM} {Q : QD} {E : QX} (h : ND w) (hl : (nz w).length ≤ 2000) (hm : big ≤ ((sm w (dl m)).natAbs : Int)) (k : ∀ M', Ext M M' → E ⟨"TooMany", "word", .str "figures"⟩ M') : Chk w M Q E := fun M' e => by
  rw [if_neg (by omega)]
  have hz : (m, sm w (dl m)) ∈ nz w := (mem_nz h).mpr ⟨val_sm h m, by
    have b : (0 : Int) < big := by decide +kernel
    intro z
    dsimp only at z
    rw [z] at hm
    simp at hm
    omega⟩
  have ha : (nz w).any (fun p => decide (big ≤ (p.2.natAbs : Int))) = true := List.any_eq_true.mpr ⟨_, hz, decide_eq_true hm⟩
  rw [ha, if_pos rfl]
  exact k M' e
theorem add_ok {B C : Int} {t u : Tab} {M : MM} {Q : QD} {E : QX} (h1 : Nice B t) (h2 : Nice C u) (hB : B + C < big) (hl : t.length + u.length ≤ 2000) (k : ∀ w M', Ext M M' → ND w → (∀ f, sm w f = sm t f + sm u f) → w.length ≤ t.length + u.length → Q (eP (canon w)) M') : sp_added [eP (canon t), eP (canon u)] M Q E := by
  have p1 := h1.pos
  have p2 := h2.pos
  have l1 := canon_le t
  have l2 := canon_le u
  refine p_added (rpo_eP _ _) (rpo_eP _ _) (canon_nd h1.nd) (canon_nd h2.nd) (h1.sml (by omega)) (h2.sml (by omega)) (h2.bd (big_bits p2 (by omega))) (by omega) fun w nw sw lw => ?_
  have lz := nz_len w
  refine chk_ok (h1.canon.add h2.canon nw sw) hB (by omega) fun M' e => k w M' e nw (fun f => by rw [sw, canon_sm, canon_sm]) (by omega)
end FgL
/-! X0: tables by how great they are. -/
namespace FgL
open PySem PySem.Spec L2 Fg
open PyProof.Rows hiding St
structure PK (t : Tab) (B N L : Nat) : Prop where
  nd : ND t
  gk : Gk t
  nz : ∀ x ∈ t, x.2 ≠ 0
  ml : ∀ x ∈ t, x.1.length ≤ L
  lb : l1 t ≤ B
  sz : t.length ≤ N
theorem l1_perm {t u : Tab} (h : t.Perm u) : l1 t = l1 u := by
  unfold l1
  exact (h.map _).sum_nat
theorem nz_self {t : Tab} (h : ∀ x ∈ t, x.2 ≠ 0) : nz t = t := List.filter_eq_self.mpr fun x hx => by simpa using h x hx
theorem canon_perm {t : Tab} (h : ∀ x ∈ t, x.2 ≠ 0) : (canon t).Perm t := by
  unfold canon
  rw [nz_self h]
  exact srt_perm t
theorem canon_nz (t : Tab) : canon (nz t) = canon t := by
  unfold canon
  rw [nz_self fun x hx => by simpa using (List.mem_filter.mp hx).2]
theorem PK.canon {t : Tab} {B N L : Nat} (h : PK t B N L) : PK (canon t) B N L := by
  have p := canon_perm h.nz
  exact ⟨canon_nd h.nd, fun x hx => h.gk x (p.mem_iff.mp hx), fun x hx => h.nz x (p.mem_iff.mp hx), fun x hx => h.ml x (p.mem_iff.mp hx), by rw [l1_perm p]; exact h.lb, by rw [p.length_eq]; exact h.sz⟩
theorem PK.nice {t : Tab} {B N L : Nat} (h : PK t B N L) (hL : L ≤ 1000) : Nice (B : Int) t := ⟨h.nd, fun m => by have := l1_sm t m; have := h.lb; omega, fun m hm => by
  by_cases q : m ∈ t.map (·.1)
  · obtain ⟨x, hx, rfl⟩ := List.mem_map.mp q
    exact Nat.le_trans (h.ml x hx) hL
  · exact absurd (sm_zero q) hm⟩
def top200 : Nat := 10 ^ 200
theorem top_big : (top200 : Int) = big := by decide +kernel
theorem top_bits {B : Nat} (h : B < top200) : B < 2 ^ 400000 := by
  have hb : top200 < 2 ^ 8000 := by decide +kernel
  have : (2 : Nat) ^ 8000 < 2 ^ 400000 := Nat.pow_lt_pow_right (by decide) (by decide)
  omega
theorem PK.mb {t : Tab} {B N L : Nat} (h : PK t B N L) (hB : B < 2 ^ 400000) (hN : N ≤ 100000) (hL : L ≤ 100000) : MB t := ⟨h.nd, h.gk, fun x hx => Nat.le_trans (h.ml x hx) hL, fun x hx => by have := l1_mem hx; have := h.lb; omega, Nat.le_trans h.sz hN⟩
theorem PK.of {t u : Tab} {B N L : Nat} (nd : ND t) (nz : ∀ x ∈ t, x.2 ≠ 0) (e : Eqv t u) (gk : Gk u) (ml : ∀ x ∈ u, x.1.length ≤ L) (lb : l1 u ≤ B) (sz : u.length ≤ N) : PK t B N L := by
  have keys : ∀ x ∈ t, ∃ y ∈ u, y.1 = x.1 := fun x hx => List.mem_map.mp (eqv_mem nd e hx (nz x hx))
  exact ⟨nd, fun x hx => let ⟨y, hy, ey⟩ := keys x hx; ey ▸ gk y hy, nz, fun x hx => let ⟨y, hy, ey⟩ := keys x hx; ey ▸ ml y hy, Nat.le_trans (l1_eqv nd e) lb, Nat.le_trans (keys_le nd nz e) sz⟩
theorem PK.mul {t u w : Tab} {B N L B' N' L' : Nat} (h : PK t B N L) (g : PK u B' N' L') (nw : ND w) (zw : ∀ x ∈ w, x.2 ≠ 0) (e : Eqv w (mulT t u)) : PK w (B * B') (N * N') (L + L') :=
  .of nw zw e (mul_gk h.gk g.gk) (fun x hx => by
    obtain ⟨y, hy, z, hz, rfl⟩ := mem_mul hx
    have h1 := J_len y.1 z.1
    have h2 := h.ml y hy
    have h3 := g.ml z hz
    dsimp only
    omega) (by rw [l1_mul]; exact Nat.mul_le_mul h.lb g.lb) (by rw [mul_len]; exact Nat.mul_le_mul h.sz g.sz)
theorem PK.add {t u w : Tab} {B N L B' N' L' : Nat} (h : PK t B N L) (g : PK u B' N' L') (nw : ND w) (zw : ∀ x ∈ w, x.2 ≠ 0) (e : Eqv w (t ++ u)) : PK w (B + B') (N + N') (L + L') :=
  .of nw zw e (fun x hx => (List.mem_append.mp hx).elim (h.gk x) (g.gk x)) (fun x hx => (List.mem_append.mp hx).elim (fun z => by have := h.ml x z; omega) fun z => by have := g.ml x z; omega) (by rw [l1_append]; have := h.lb; have := g.lb; omega) (by rw [List.length_append]; have := h.sz; have := g.sz; omega)
theorem chk_pk {w : Tab} {B N L : Nat} {M : MM} {Q : QD} {E : QX} (h : PK w B N L) (hB : B < top200) (hN : N ≤ 2000) (hL : L ≤ 1000) (k : ∀ M', Ext M M' → Q (eP (canon w)) M') : Chk w M Q E := by
  have := top_big
  have := h.sz
  have lz := nz_len w
  exact chk_ok (h.nice hL) (by omega) (by omega) k
theorem canon_eqv (t : Tab) : Eqv (canon t) t := fun f => canon_sm t f
theorem mulp_ok {t u : Tab} {B N L B' N' L' : Nat} {M : MM} {Q : QD} {E : QX} (h : PK t B N L) (g : PK u B' N' L') (b1 : B < top200) (b2 : B' < top200) (hB : B * B' < top200) (hN : N * N' ≤ 2000) (n1 : N ≤ 2000) (n2 : N' ≤ 2000) (hL : L + L' ≤ 1000)
    (k : ∀ w M', Ext M M' → PK w (B * B') (N * N') (L + L') → Eqv w (mulT t u) → Q (eP (canon w)) M') : sp_multiplied [eP (canon t), eP (canon u)] M Q E := by
  refine p_multiplied (rpo_eP _ _) (rpo_eP _ _) (h.canon.mb (top_bits b1) (by omega) (by omega)) (g.canon.mb (top_bits b2) (by omega) (by omega)) ?_ fun w nw zw ew => ?_
  · have := Nat.mul_le_mul h.canon.sz g.canon.sz
    omega
  · have e2 : Eqv w (mulT t u) := ew.trans (mul_eqv (canon_eqv t) (canon_eqv u))
    have P := h.mul g nw zw e2
    exact chk_pk P hB hN hL fun M' x => k w M' x P e2
theorem addp_ok {t u : Tab} {B N L B' N' L' : Nat} {M : MM} {Q : QD} {E : QX} (h : PK t B N L) (g : PK u B' N' L') (hB : B + B' < top200) (hN : N + N' ≤ 2000) (hL : L + L' ≤ 1000)
    (k : ∀ w M', Ext M M' → PK w (B + B') (N + N') (L + L') → Eqv w (t ++ u) → Q (eP (canon w)) M') : sp_added [eP (canon t), eP (canon u)] M Q E := by
  have tb := top_big
  have s1 := h.sz
  have s2 := g.sz
  refine add_ok (h.nice (by omega)) (g.nice (by omega)) (by omega) (by omega) fun w M' x nw sw lw => ?_
  have e2 : Eqv (nz w) (t ++ u) := fun f => by rw [nz_sm, sw, sm_append]
  have zw : ∀ x ∈ nz w, x.2 ≠ 0 := fun x hx => by simpa using (List.mem_filter.mp hx).2
  rw [← canon_nz]
  exact k (nz w) M' x (h.add g (nz_nd nw) zw e2) e2
theorem one_pk : PK oneT 1 1 0 := ⟨nd_one _ _, one_gk, fun x hx => by
  rw [oneT, List.mem_singleton] at hx
  subst hx
  decide, fun x hx => by
  rw [oneT, List.mem_singleton] at hx
  subst hx
  exact Nat.le_refl _, Nat.le_refl _, Nat.le_refl _⟩
theorem nil_pk : PK [] 0 0 0 := ⟨List.nodup_nil, (fun _ h => nomatch h), (fun _ h => nomatch h), (fun _ h => nomatch h), Nat.le_refl _, Nat.le_refl _⟩
theorem canon_one_ : canon oneT = oneT := canon_self (List.pairwise_singleton _ _) fun p hp => by
  rw [oneT, List.mem_singleton] at hp
  subst hp
  decide
theorem mul_nil_eqv (t : Tab) : Eqv (mulT t []) [] := fun f => by
  rw [mul_sm, sm_nil]
  induction t with
  | nil => rfl
  | cons x t ih => rw [sm_cons, ih, sm_nil]; simp
theorem pwT_len (t : Tab) : ∀ i, (pwT t i).length = t.length ^ i
  | 0 => rfl
  | i + 1 => by rw [pwT, mul_len, pwT_len t i, Nat.pow_succ]
theorem PK.pw {t w : Tab} {B N L i : Nat} (h : PK t B N L) (nw : ND w) (zw : ∀ x ∈ w, x.2 ≠ 0) (e : Eqv w (pwT t i)) : PK w (B ^ i) (N ^ i) (i * L) :=
  .of nw zw e (pw_gk h.gk i) (pw_ml h.ml i) (by rw [l1_pw]; exact Nat.pow_le_pow_left h.lb i) (by rw [pwT_len]; exact Nat.pow_le_pow_left h.sz i)
theorem PK.tbl {t : Tab} {B N L : Nat} {M : MM} {a : Addr} {o : Obj} (h : PK t B N L) (hB : B < 2 ^ 400000) (hL : L ≤ 100000) (ha : M a = some (.dct o (kvs t))) : TB M a t := ⟨⟨o, ha⟩, h.nd, h.gk, fun x hx => Nat.le_trans (h.ml x hx) hL, fun x hx => by have := l1_mem hx; have := h.lb; omega⟩
/-! ### powers of two terms -/
def mpw (a : Mono) : Nat → Mono
  | 0 => []
  | i + 1 => J (mpw a i) a
theorem mpw_good {a : Mono} (h : Good a) : ∀ i, Good (mpw a i)
  | 0 => good_nil
  | i + 1 => J_good (mpw_good h i) h
theorem pw_two {t : Tab} {a b : Mono} (ga : Good a) (gb : Good b) (h : ∀ x ∈ t, x.1 = a ∨ x.1 = b) : ∀ i, ∀ x ∈ pwT t i, ∃ j, j < i + 1 ∧ x.1 = J (mpw a j) (mpw b (i - j))
  | 0, x, hx => by
    rw [pwT, oneT, List.mem_singleton] at hx
    subst hx
    exact ⟨0, by omega, by show ([] : Mono) = J [] []; rw [J_nil good_nil]⟩
  | i + 1, x, hx => by
    obtain ⟨y, hy, z, hz, rfl⟩ := mem_mul hx
    obtain ⟨j, hj, ej⟩ := pw_two ga gb h i y hy
    dsimp only
    have g1 := mpw_good ga j
    have g2 := mpw_good gb (i - j)
    rcases h z hz with e | e
    · refine ⟨j + 1, by omega, ?_⟩
      rw [ej, e, show i + 1 - (j + 1) = i - j by omega, mpw, J_assoc g1 g2 ga, J_comm g2 ga, ← J_assoc g1 ga g2]
    · refine ⟨j, by omega, ?_⟩
      rw [ej, e, show i + 1 - j = i - j + 1 by omega, mpw, J_assoc g1 g2 gb]
theorem two_keys {t : Tab} (h : t.length ≤ 2) (g : Gk t) : ∃ a b, Good a ∧ Good b ∧ ∀ x ∈ t, x.1 = a ∨ x.1 = b := by
  match t, h, g with
  | [], _, _ => exact ⟨[], [], good_nil, good_nil, fun _ h => nomatch h⟩
  | [x], _, g => exact ⟨x.1, x.1, g x (by simp), g x (by simp), fun y hy => by simp at hy; subst hy; exact .inl rfl⟩
  | [x, y], _, g => exact ⟨x.1, y.1, g x (by simp), g y (by simp), fun z hz => by
      simp at hz
      rcases hz with rfl | rfl
      · exact .inl rfl
      · exact .inr rfl⟩
theorem two_cnt {t w : Tab} {i : Nat} (h : t.length ≤ 2) (g : Gk t) (nw : ND w) (zw : ∀ x ∈ w, x.2 ≠ 0) (e : Eqv w (pwT t i)) : w.length ≤ i + 1 := by
  obtain ⟨a, b, ga, gb, hab⟩ := two_keys h g
  have := nodup_le (l := w.map (·.1)) (m := (List.range (i + 1)).map fun j => J (mpw a j) (mpw b (i - j))) nw fun m hm => by
    obtain ⟨x, hx, rfl⟩ := List.mem_map.mp hm
    obtain ⟨y, hy, ey⟩ := List.mem_map.mp (eqv_mem nw e hx (zw x hx))
    obtain ⟨j, hj, ej⟩ := pw_two ga gb hab i y hy
    exact List.mem_map.mpr ⟨j, List.mem_range.mpr hj, by rw [← ej]; exact ey⟩
  rwa [List.length_map, List.length_map, List.length_range] at this
end FgL
/-! T3: the tape of draws. -/
namespace FgL
open PySem PySem.Spec L2 Fg
open PyProof.Rows hiding St
def tp (q : Addr) (a v d m s : Int) : List (D × D) := [(.str (Str.ofString "cells"), .ref q), (.str (Str.ofString "at"), .int a), (.str (Str.ofString "value"), .int v), (.str (Str.ofString "digits"), .int d), (.str (Str.ofString "mixed"), .int m), (.str (Str.ofString "salt"), .int s)]
theorem kn : Str.ofString "cells" ≠ Str.ofString "at" ∧ Str.ofString "cells" ≠ Str.ofString "value" ∧ Str.ofString "cells" ≠ Str.ofString "digits" ∧ Str.ofString "cells" ≠ Str.ofString "mixed" ∧ Str.ofString "cells" ≠ Str.ofString "salt" ∧ Str.ofString "at" ≠ Str.ofString "cells" ∧ Str.ofString "at" ≠ Str.ofString "value" ∧ Str.ofString "at" ≠ Str.ofString "digits" ∧ Str.ofString "at" ≠ Str.ofString "mixed" ∧ Str.ofString "at" ≠ Str.ofString "salt" ∧ Str.ofString "value" ≠ Str.ofString "cells" ∧ Str.ofString "value" ≠ Str.ofString "at" ∧ Str.ofString "value" ≠ Str.ofString "digits" ∧ Str.ofString "value" ≠ Str.ofString "mixed" ∧ Str.ofString "value" ≠ Str.ofString "salt" ∧ Str.ofString "digits" ≠ Str.ofString "cells" ∧ Str.ofString "digits" ≠ Str.ofString "at" ∧ Str.ofString "digits" ≠ Str.ofString "value" ∧ Str.ofString "digits" ≠ Str.ofString "mixed" ∧ Str.ofString "digits" ≠ Str.ofString "salt" ∧ Str.ofString "mixed" ≠ Str.ofString "cells" ∧ Str.ofString "mixed" ≠ Str.ofString "at" ∧ Str.ofString "mixed" ≠ Str.ofString "value" ∧ Str.ofString "mixed" ≠ Str.ofString "digits" ∧ Str.ofString "mixed" ≠ Str.ofString "salt" ∧ Str.ofString "salt" ≠ Str.ofString "cells" ∧ Str.ofString "salt" ≠ Str.ofString "at" ∧ Str.ofString "salt" ≠ Str.ofString "value" ∧ Str.ofString "salt" ≠ Str.ofString "digits" ∧ Str.ofString "salt" ≠ Str.ofString "mixed" := by decide +kernel
theorem tp_at (q : Addr) (a v d m s : Int) : ∀ p ∈ tp q a v d m s, isAt p.1 = true := fun p hp => by
  unfold tp at hp
  simp only [List.mem_cons, List.not_mem_nil, or_false] at hp
  rcases hp with rfl | rfl | rfl | rfl | rfl | rfl <;> rfl
theorem tp_ok {q : Addr} {a v d m s : Int} (c : Str) : KOk (tp q a v d m s) (.str c) (.text c) := ⟨rfl, by simp [NestedKey.depth], .inl ⟨rfl, tp_at q a v d m s⟩⟩
theorem dk_str (c x : Str) : (dkey (.str c) = some (.text x)) = (c = x) := by
  unfold dkey
  simp
theorem tp_look (q : Addr) (a v d m s : Int) : lookK (tp q a v d m s) (.text (Str.ofString "cells")) = some (.ref q) ∧ lookK (tp q a v d m s) (.text (Str.ofString "at")) = some (.int a) ∧ lookK (tp q a v d m s) (.text (Str.ofString "value")) = some (.int v) ∧ lookK (tp q a v d m s) (.text (Str.ofString "digits")) = some (.int d) ∧ lookK (tp q a v d m s) (.text (Str.ofString "mixed")) = some (.int m) ∧ lookK (tp q a v d m s) (.text (Str.ofString "salt")) = some (.int s) := by
  unfold lookK tp
  simp only [List.find?_cons, dk_str, kn, decide_false, decide_true, Option.map_some, and_self]
theorem tp_put (q : Addr) (a v d m s z : Int) : putKD (tp q a v d m s) (.str (Str.ofString "at")) (.text (Str.ofString "at")) (.int z) = tp q z v d m s ∧ putKD (tp q a v d m s) (.str (Str.ofString "value")) (.text (Str.ofString "value")) (.int z) = tp q a z d m s ∧ putKD (tp q a v d m s) (.str (Str.ofString "digits")) (.text (Str.ofString "digits")) (.int z) = tp q a v z m s ∧ putKD (tp q a v d m s) (.str (Str.ofString "mixed")) (.text (Str.ofString "mixed")) (.int z) = tp q a v d z s ∧ putKD (tp q a v d m s) (.str (Str.ofString "salt")) (.text (Str.ofString "salt")) (.int z) = tp q a v d m z := by
  unfold putKD hasK tp
  simp only [List.any_cons, List.any_nil, List.map_cons, List.map_nil, dk_str, kn, decide_false, decide_true, Bool.or_true, Bool.true_or, Bool.false_or, if_true, if_false, and_self]
section
variable {M : MM} {p q : Addr} {o : Obj} {a v d m s : Int}
theorem tg {c : Str} {x : D} {Q : QD} (h : M p = some (.dct o (tp q a v d m s))) (l : lookK (tp q a v d m s) (.text c) = some x) (k : Q x M) : dIx (.ref p) (.str c) M Q := by
  unfold dIx
  simp only [h]
  exact ⟨_, x, tp_ok c, l, k⟩
theorem ts {c : Str} {z : Int} {Q : MM → Prop} {kvs' : List (D × D)} (h : M p = some (.dct o (tp q a v d m s))) (e : putKD (tp q a v d m s) (.str c) (.text c) (.int z) = kvs') (k : ∀ o', Q (Fg.up M p (.dct o' kvs'))) : dSetI (.ref p) (.str c) (.int z) M Q := by
  unfold dSetI
  simp only [h]
  refine ⟨_, tp_ok c, by rw [sizeLine_eq]; unfold tp; simp, fun o' => ?_⟩
  rw [e]
  exact k o'
end
def TS (M : MM) (p q : Addr) (ns : List Int) : Prop := ∃ (o : Obj) (a v d m s : Int), M p = some (.dct o (tp q a v d m s)) ∧ M q = some (.lst (ns.map D.int)) ∧ q ≠ p ∧ 0 ≤ a ∧ 0 ≤ v ∧ 0 ≤ s ∧ s < 2147483647
def Fr (p : Addr) (M M' : MM) : Prop := ∀ x, x ≠ p → M' x = M x
theorem Fr.up {p : Addr} {M : MM} {o : MO} : Fr p M (Fg.up M p o) := fun x h => up_ne h
theorem Fr.trans {p : Addr} {M M1 M2 : MM} (a : Fr p M M1) (b : Fr p M1 M2) : Fr p M M2 := fun x h => (b x h).trans (a x h)
theorem Fr.refl (p : Addr) (M : MM) : Fr p M M := fun _ _ => rfl
theorem Fr.at {p q : Addr} {M M' : MM} (f : Fr p M M') (h : q ≠ p) {o : MO} (e : M q = some o) : M' q = some o := (f q h).trans e
theorem at_lt {ds : List D} {i : Int} {d : D} (h0 : 0 ≤ i) (h : ds[i.toNat]? = some d) : atI ds i = some d := by
  have hl : i.toNat < ds.length := (List.getElem?_eq_some_iff.mp h).1
  unfold atI ixN
  rw [if_pos h0, if_pos (by omega)]
  exact h
theorem small_mul {i : Int} (h : 0 ≤ i) (h2 : i < 2147483647) {j : Int} (hj : j.natAbs < 2 ^ 64) : CMulW i j := mul_ok (low (by omega)) (low hj)
theorem p_load {M : MM} {p q : Addr} {ns : List Int} {Q : QD} {E : QX} {o : Obj} {a v d m s : Int} (hp : M p = some (.dct o (tp q a v d m s))) (hq : M q = some (.lst (ns.map D.int))) (hn : q ≠ p) (h0 : 0 ≤ a) (ha : a < ns.length) (hv : 0 ≤ v) (hs : 0 ≤ s) (hs2 : s < 2147483647) (k : ∀ M', TS M' p q ns → Fr p M M' → Q .non M') : sp_load_l [.ref p] M Q E := by
  refine ⟨rfl, ?_⟩
  show w_load_l [some (.ref p), none] M _ _
  have hx : a.toNat < ns.length := by omega
  (unfold w_load_l; obtain ⟨Tl, hTl⟩ : ∃ x, x = w_load_l_1 := ⟨_, rfl⟩; rw [← hTl]; simp only [wSeq, wAsg, wDrop, wRet, wRetN, wNext, wIfS, wBl, Fg.wTru, wOp, wUn, wCl, wCons, wNil, wVar, wCst, wTup, wLst, gNm, wCall, List.set_cons_zero, List.set_cons_succ, List.getElem?_cons_zero, List.getElem?_cons_succ]; subst hTl)
  refine tg hp (tp_look q a v d m s).1 (tg hp (tp_look q a v d m s).2.1 ?_)
  simp only [dIx, hq]
  refine ⟨_, .int ns[a.toNat], rfl, at_lt h0 (by rw [List.getElem?_map, List.getElem?_eq_getElem hx]; rfl), ?_⟩
  generalize ns[a.toNat] = n
  (unfold w_load_l_1; obtain ⟨Tl, hTl⟩ : ∃ x, x = w_load_l_2 := ⟨_, rfl⟩; rw [← hTl]; simp only [wSeq, wAsg, wDrop, wRet, wRetN, wNext, wIfS, wBl, Fg.wTru, wOp, wUn, wCl, wCons, wNil, wVar, wCst, wTup, wLst, gNm, wCall, List.set_cons_zero, List.set_cons_succ, List.getElem?_cons_zero, List.getElem?_cons_succ, gSubD, dAdd]; subst hTl)
  refine tg hp (tp_look q a v d m s).2.1 ?_
  simp only []
  refine ts hp (tp_put q a v d m s (a + 1)).1 fun o1 => ?_
  have h1 : Fg.up M p (.dct o1 (tp q (a + 1) v d m s)) p = some (.dct o1 (tp q (a + 1) v d m s)) := up_same
  have f1 : Fr p M (Fg.up M p (.dct o1 (tp q (a + 1) v d m s))) := Fr.up
  generalize Fg.up M p (.dct o1 (tp q (a + 1) v d m s)) = M1 at h1 f1 ⊢
  have hq1 := f1.at hn hq
  have cd : ∀ z : Int, CDivW z 2 := fun z => ⟨by decide, by decide⟩
  simp only [w_load_l_2, wSeq, wAsg, wDrop, wRet, wRetN, wNext, wIfS, wBl, Fg.wTru, wOp, wUn, wCl, wCons, wNil, wVar, wCst, wTup, wLst, gNm, wCall, List.set_cons_zero, List.set_cons_succ, List.getElem?_cons_zero, List.getElem?_cons_succ, cInt, dMod, dEq, gSubD, cAbs, exists_eq_left', exists_and_left, Option.some.injEq, List.cons.injEq, and_true, true_and, D.int.injEq, D.ref.injEq, D.str.injEq, D.tup.injEq, D.bl.injEq, exists_eq', and_assoc, dDiv, cd]
  refine ⟨by decide, ?_⟩
  by_cases e : n % 2 = 0
  · simp only [e, decide_true, if_true]
    refine ts h1 (tp_put q (a + 1) v d m s _).2.1 fun o2 => ?_
    refine ts up_same (tp_put q (a + 1) _ d m s 60).2.2.1 fun o3 => ?_
    rw [up_up]
    refine k _ ⟨o3, _, _, _, _, _, up_same, by rw [up_ne hn]; exact hq1, hn, by omega, ?_, hs, hs2⟩ (f1.trans Fr.up)
    split <;> omega
  · simp only [e, decide_false, Bool.false_eq_true, if_false]
    refine tg h1 (tp_look q (a + 1) v d m s).2.2.2.2.2 ?_
    simp only [dMul, dAdd]
    refine ⟨small_mul hs hs2 (by decide), by decide, ?_⟩
    refine ts h1 (tp_put q (a + 1) v d m s _).2.2.2.2 fun o2 => ?_
    refine ts up_same (tp_put q (a + 1) v d m _ 9).2.2.2.1 fun o3 => ?_
    rw [up_up]
    exact k _ ⟨o3, _, _, _, _, _, up_same, by rw [up_ne hn]; exact hq1, hn, by omega, hv, Int.emod_nonneg _ (by decide), Int.emod_lt_of_pos _ (by decide)⟩ (f1.trans Fr.up)
theorem p_draw {M : MM} {p q : Addr} {ns : List Int} {m : Int} {Q : QD} {E : QX} (h : TS M p q ns) (hl : ns.length ≤ 63) (hm : m.natAbs.log2 < 8000) (k : ∀ r M', 0 ≤ r → (r < m ∨ r = 0) → TS M' p q ns → Fr p M M' → Q (.int r) M') : sp_draw_l [.ref p, .int m] M Q E := by
  refine ⟨rfl, ?_⟩
  show w_draw_l [some (.ref p), some (.int m), none, none] M _ _
  (unfold w_draw_l; obtain ⟨Tl, hTl⟩ : ∃ x, x = w_draw_l_1 := ⟨_, rfl⟩; rw [← hTl]; simp only [wSeq, wAsg, wDrop, wRet, wRetN, wNext, wIfS, wBl, Fg.wTru, wOp, wUn, wCl, wCons, wNil, wVar, wCst, wTup, wLst, gNm, wCall, List.set_cons_zero, List.set_cons_succ, List.getElem?_cons_zero, List.getElem?_cons_succ, dLt, dOrd]; subst hTl)
  by_cases h2 : m < 2
  · simp only [h2, decide_true, if_true]
    exact k 0 M (Int.le_refl _) (.inr rfl) h (Fr.refl p M)
  · simp only [h2, decide_false, Bool.false_eq_true, if_false]
    have m0 : 0 < m := by omega
    have cdm : ∀ z : Int, CDivW z m := fun z => ⟨m0, by omega⟩
    have cd13 : ∀ z : Int, CDivW z 13 := fun z => ⟨by decide, by decide⟩
    -- behind the loop
    have after : ∀ v2 v3 M', TS M' p q ns → Fr p M M' → w_draw_l_2 [some (.ref p), some (.int m), v2, v3] M' { nx := fun _ M' => Q .non M', rt := Q } fun x _ M' => E x M' := by
      intro v2 v3 M1 t1 f1
      have last : ∀ M', TS M' p q ns → Fr p M M' → w_draw_l_3 [some (.ref p), some (.int m), v2, v3] M' { nx := fun _ M' => Q .non M', rt := Q } fun x _ M' => E x M' := by
        intro M2 t2 f2
        obtain ⟨o, a, v, d, mx, s, hp, hq, hn, a0, v0, s0, s1⟩ := t2
        (unfold w_draw_l_3; obtain ⟨Tl, hTl⟩ : ∃ x, x = w_draw_l_4 := ⟨_, rfl⟩; rw [← hTl]; simp only [wSeq, wAsg, wDrop, wRet, wRetN, wNext, wIfS, wBl, Fg.wTru, wOp, wUn, wCl, wCons, wNil, wVar, wCst, wTup, wLst, gNm, wCall, List.set_cons_zero, List.set_cons_succ, List.getElem?_cons_zero, List.getElem?_cons_succ, gSubD, cInt, dMod, dAdd, dMul]; subst hTl)
        refine tg hp (tp_look q a v d mx s).2.2.2.2.2 ?_
        simp only [dMul, dAdd]
        refine ⟨small_mul s0 s1 (by decide), by decide, ?_⟩
        refine ts hp (tp_put q a v d mx s _).2.2.2.2 fun o2 => ?_
        have g0 : 0 ≤ (s * 48271 + 7) % 2147483647 := Int.emod_nonneg _ (by decide)
        have g1 : (s * 48271 + 7) % 2147483647 < 2147483647 := Int.emod_lt_of_pos _ (by decide)
        generalize (s * 48271 + 7) % 2147483647 = s2 at g0 g1 ⊢
        have h3 : Fg.up M2 p (.dct o2 (tp q a v d mx s2)) p = some (.dct o2 (tp q a v d mx s2)) := up_same
        have t3 : TS (Fg.up M2 p (.dct o2 (tp q a v d mx s2))) p q ns := ⟨o2, _, _, _, _, _, h3, by rw [up_ne hn]; exact hq, hn, a0, v0, g0, g1⟩
        have f3 : Fr p M2 (Fg.up M2 p (.dct o2 (tp q a v d mx s2))) := Fr.up
        generalize Fg.up M2 p (.dct o2 (tp q a v d mx s2)) = M3 at h3 t3 f3 ⊢
        simp only [w_draw_l_4, wSeq, wAsg, wDrop, wRet, wRetN, wNext, wIfS, wBl, Fg.wTru, wOp, wUn, wCl, wCons, wNil, wVar, wCst, wTup, wLst, gNm, wCall, List.set_cons_zero, List.set_cons_succ, List.getElem?_cons_zero, List.getElem?_cons_succ]
        refine tg h3 (tp_look q a v d mx s2).2.2.2.2.2 ?_
        simp only [dDiv, dMul, dAdd, cInt, dMod, cd13, true_and]
        refine ⟨small_mul (by omega) (by omega) (by decide), by decide, m0, ?_⟩
        refine k _ M3 (Int.emod_nonneg _ (by omega)) (.inl (Int.emod_lt_of_pos _ m0)) t3 (f2.trans f3)
      obtain ⟨o, a, v, d, mx, s, hp, hq, hn, a0, v0, s0, s1⟩ := id t1
      (unfold w_draw_l_2; obtain ⟨Tl, hTl⟩ : ∃ x, x = w_draw_l_3 := ⟨_, rfl⟩; rw [← hTl]; simp only [wSeq, wAsg, wDrop, wRet, wRetN, wNext, wIfS, wBl, Fg.wTru, wOp, wUn, wCl, wCons, wNil, wVar, wCst, wTup, wLst, gNm, wCall, List.set_cons_zero, List.set_cons_succ, List.getElem?_cons_zero, List.getElem?_cons_succ, dGt, dOrd, dSub, gSubD]; subst hTl)
      refine tg hp (tp_look q a v d mx s).2.2.2.2.1 ?_
      simp only [dGt, dOrd]
      by_cases c : 0 < mx
      · simp only [c, decide_true, if_true]
        refine tg hp (tp_look q a v d mx s).2.2.2.2.1 ?_
        simp only [dSub]
        refine ts hp (tp_put q a v d mx s _).2.2.2.1 fun o2 => ?_
        exact last _ ⟨o2, _, _, _, _, _, up_same, by rw [up_ne hn]; exact hq, hn, a0, v0, s0, s1⟩ (f1.trans Fr.up)
      · simp only [c, decide_false, Bool.false_eq_true, if_false]
        exact last M1 t1 f1
    (unfold w_draw_l_1; obtain ⟨Tl, hTl⟩ : ∃ x, x = w_draw_l_2 := ⟨_, rfl⟩; rw [← hTl]; simp only [wSeq, wAsg, wDrop, wRet, wRetN, wNext, wIfS, wBl, Fg.wTru, wOp, wUn, wCl, wCons, wNil, wVar, wCst, wTup, wLst, gNm, wCall, List.set_cons_zero, List.set_cons_succ, List.getElem?_cons_zero, List.getElem?_cons_succ, wFor, wRng1]; subst hTl)
    refine ⟨_, rfl, by decide, by decide, ?_⟩
    refine for_rule (I := fun i ρ M' => ∃ v2 v3, ρ = [some (.ref p), some (.int m), v2, v3] ∧ TS M' p q ns ∧ Fr p M M') ⟨none, none, rfl, h, Fr.refl p M⟩ (fun i x hx ρ M1 ⟨v2, v3, e1, t1, f1⟩ K hK => ⟨trivial, ?_⟩) fun ρ M1 ⟨v2, v3, e1, t1, f1⟩ => ⟨trivial, by subst e1; exact after v2 v3 M1 t1 f1⟩
    subst e1
    obtain ⟨o, a, v, d, mx, s, hp, hq, hn, a0, v0, s0, s1⟩ := id t1
    simp only [wSeq, wAsg, wDrop, wRet, wRetN, wNext, wIfS, wBl, Fg.wTru, wOp, wUn, wCl, wCons, wNil, wVar, wCst, wTup, wLst, gNm, wCall, List.set_cons_zero, List.set_cons_succ, List.getElem?_cons_zero, List.getElem?_cons_succ, wAndB, wOrB, wBrk]
    refine tg hp (tp_look q a v d mx s).2.2.2.1 ?_
    simp only [dGt, dOrd]
    have rest : tyR M1 (.ref p) = some "dict" := tyR_dct hp
    by_cases c1 : 0 < d
    · simp only [c1, decide_true, if_true]
      refine tg hp (tp_look q a v d mx s).2.2.1 ?_
      simp only [dGt, dOrd]
      by_cases c2 : 1 < v
      · simp only [c2, decide_true, if_true]
        refine tg hp (tp_look q a v d mx s).2.2.1 ?_
        simp only [cInt, dMod]
        refine ⟨m0, ?_⟩
        refine tg hp (tp_look q a v d mx s).2.2.2.1 ?_
        simp only [dSub, gSubD, wSeq, wAsg, wDrop, wRet, wRetN, wNext, wIfS, wBl, Fg.wTru, wOp, wUn, wCl, wCons, wNil, wVar, wCst, wTup, wLst, gNm, wCall, List.set_cons_zero, List.set_cons_succ, List.getElem?_cons_zero, List.getElem?_cons_succ]
        refine ts hp (tp_put q a v d mx s _).2.2.1 fun o2 => ?_
        refine tg up_same (tp_look q a v (d - 1) mx s).2.2.1 ?_
        simp only [dDiv, cdm, true_and]
        refine ts up_same (tp_put q a v (d - 1) mx s _).2.1 fun o3 => ?_
        rw [up_up]
        refine k _ _ (Int.emod_nonneg _ (by omega)) (.inl (Int.emod_lt_of_pos _ m0)) ⟨o3, _, _, _, _, _, up_same, by rw [up_ne hn]; exact hq, hn, a0, Int.ediv_nonneg v0 (by omega), s0, s1⟩ (f1.trans Fr.up)
      · simp only [c2, decide_false, Bool.false_eq_true, if_false]
        refine tg hp (tp_look q a v d mx s).2.2.2.2.1 ?_
        simp only [dGt, dOrd]
        by_cases c : 0 < mx
        · simp only [c, decide_true, if_true]
          exact after _ _ M1 t1 f1
        · simp only [c, decide_false, Bool.false_eq_true, if_false]
          refine tg hp (tp_look q a v d mx s).2.1 ?_
          refine tg hp (tp_look q a v d mx s).1 ?_
          simp only [cLen]
          refine ⟨_, _, rfl, by unfold lenD; simp only [hq]; rfl, ?_⟩
          rw [List.length_map]
          simp only [dGe, dOrd]
          by_cases c2 : (ns.length : Int) ≤ a
          · simp only [c2, decide_true, if_true]
            exact after _ _ M1 t1 f1
          · simp only [c2, decide_false, Bool.false_eq_true, if_false]
            exact p_load hp hq hn a0 (by omega) v0 s0 s1 fun M2 t2 f2 => hK _ _ ⟨_, _, rfl, t2, f1.trans f2⟩
    · simp only [c1, decide_false, Bool.false_eq_true, if_false]
      refine tg hp (tp_look q a v d mx s).2.2.2.2.1 ?_
      simp only [dGt, dOrd]
      by_cases c : 0 < mx
      · simp only [c, decide_true, if_true]
        exact after _ _ M1 t1 f1
      · simp only [c, decide_false, Bool.false_eq_true, if_false]
        refine tg hp (tp_look q a v d mx s).2.1 ?_
        refine tg hp (tp_look q a v d mx s).1 ?_
        simp only [cLen]
        refine ⟨_, _, rfl, by unfold lenD; simp only [hq]; rfl, ?_⟩
        rw [List.length_map]
        simp only [dGe, dOrd]
        by_cases c2 : (ns.length : Int) ≤ a
        · simp only [c2, decide_true, if_true]
          exact after _ _ M1 t1 f1
        · simp only [c2, decide_false, Bool.false_eq_true, if_false]
          exact p_load hp hq hn a0 (by omega) v0 s0 s1 fun M2 t2 f2 => hK _ _ ⟨_, _, rfl, t2, f1.trans f2⟩
/-- what was there stays but for p -/
def Ex (p : Addr) (M M' : MM) : Prop := ∀ x o, x ≠ p → M x = some o → M' x = some o
theorem Ex.refl {p : Addr} {M : MM} : Ex p M M := fun _ _ _ h => h
theorem Ex.trans {p : Addr} {M M1 M2 : MM} (a : Ex p M M1) (b : Ex p M1 M2) : Ex p M M2 := fun x o h e => b x o h (a x o h e)
theorem Ex.of {p : Addr} {M M' : MM} (e : Ext M M') : Ex p M M' := fun x o _ h => e x o h
theorem Ex.fr {p : Addr} {M M' : MM} (e : Fr p M M') : Ex p M M' := fun x o h q => (e x h).trans q
theorem Ex.upd {p q : Addr} {M M' : MM} {o : MO} (h : M q = none) (e : Ex p M M') : Ex p M (Fg.up M' q o) := fun x u hn w => by rw [up_ne (fun z => by rw [z, h] at w; cases w)]; exact e x u hn w
theorem Ex.at {p q : Addr} {M M' : MM} (f : Ex p M M') (h : q ≠ p) {o : MO} (e : M q = some o) : M' q = some o := f q o h e
theorem TS.ext {M M' : MM} {p q : Addr} {ns : List Int} (h : TS M p q ns) (e : Ext M M') : TS M' p q ns := by
  obtain ⟨o, a, v, d, m, s, h1, h2, h3⟩ := h
  exact ⟨o, a, v, d, m, s, e _ _ h1, e _ _ h2, h3⟩
theorem TS.new {M : MM} {p q r : Addr} {ns : List Int} {o : MO} (h : TS M p q ns) (hq : M r = none) : TS (Fg.up M r o) p q ns := h.ext (Ext.new hq)
theorem TS.ne {M : MM} {p q r : Addr} {ns : List Int} (h : TS M p q ns) (hr : M r = none) : r ≠ p ∧ r ≠ q := by
  obtain ⟨o, a, v, d, m, s, h1, h2, _⟩ := h
  exact ⟨fun z => (by rw [z, h1] at hr; cases hr), fun z => (by rw [z, h2] at hr; cases hr)⟩
theorem TS.upd {M : MM} {p q r : Addr} {ns : List Int} {o : MO} (h : TS M p q ns) (hr : r ≠ p ∧ r ≠ q) : TS (Fg.up M r o) p q ns := by
  obtain ⟨ob, a, v, d, m, s, h1, h2, h3⟩ := h
  exact ⟨ob, a, v, d, m, s, by rw [up_ne (Ne.symm hr.1)]; exact h1, by rw [up_ne (Ne.symm hr.2)]; exact h2, h3⟩
theorem tp_all (q : Addr) (s : Int) : Fg.putAll [] (tp q 0 0 0 0 s) = tp q 0 0 0 0 s := by
  unfold Fg.putAll tp
  simp only [List.foldl, putP, dkey, putKD, hasK, List.any_cons, List.any_nil, List.map_cons, List.map_nil, Option.some.injEq, NestedKey.text.injEq, kn, decide_false, Bool.or_false, Bool.false_eq_true, if_false, List.nil_append, List.cons_append]
theorem p_tape {M : MM} {ns : List Int} {Q : QD} {E : QX} (hl : ns.length ≤ 63) (k : ∀ p q M', M p = none → TS M' p q ns → Ext M M' → Q (.ref p) M') : sp_tape_l [script ns] M Q E := by
  refine ⟨rfl, ?_⟩
  show w_tape_l [some (script ns), none, none] M _ _
  (unfold w_tape_l; obtain ⟨Tl, hTl⟩ : ∃ x, x = w_tape_l_1 := ⟨_, rfl⟩; rw [← hTl]; simp only [wSeq, wAsg, wDrop, wRet, wRetN, wNext, wIfS, wBl, Fg.wTru, wOp, wUn, wCl, wCons, wNil, wVar, wCst, wTup, wLst, gNm, wCall, List.set_cons_zero, List.set_cons_succ, List.getElem?_cons_zero, List.getElem?_cons_succ, cLen]; subst hTl)
  refine ⟨_, ns.length, rfl, by show some (ns.map D.int).length = _; rw [List.length_map], ?_⟩
  simp only [dAdd]
  (unfold w_tape_l_1; obtain ⟨Tl, hTl⟩ : ∃ x, x = w_tape_l_2 := ⟨_, rfl⟩; rw [← hTl]; simp only [wSeq, wAsg, wDrop, wRet, wRetN, wNext, wIfS, wBl, Fg.wTru, wOp, wUn, wCl, wCons, wNil, wVar, wCst, wTup, wLst, gNm, wCall, List.set_cons_zero, List.set_cons_succ, List.getElem?_cons_zero, List.getElem?_cons_succ, wFor, wWk]; subst hTl)
  refine ⟨ns.map D.int, fun _ => True, rfl, ?_⟩
  refine for_rule (I := fun i ρ M' => ∃ s c, ρ = [some (script ns), some (.int s), c] ∧ M' = M ∧ 0 ≤ s ∧ s < 2147483647) ⟨_, none, rfl, rfl, by omega, by omega⟩ (fun i x hx ρ M1 ⟨s, c, e1, e2, h1, h2⟩ K hK => ⟨trivial, ?_⟩) fun ρ M1 ⟨s, c, e1, e2, h1, h2⟩ => ⟨trivial, ?_⟩
  · subst e1 e2
    rw [List.getElem?_map] at hx
    obtain ⟨n, _, rfl⟩ := Option.map_eq_some_iff.mp hx
    simp only [wSeq, wAsg, wDrop, wRet, wRetN, wNext, wIfS, wBl, Fg.wTru, wOp, wUn, wCl, wCons, wNil, wVar, wCst, wTup, wLst, gNm, wCall, List.set_cons_zero, List.set_cons_succ, List.getElem?_cons_zero, List.getElem?_cons_succ, cInt, dMod, dAdd, dMul, cAbs, exists_eq_left', exists_and_left, Option.some.injEq, List.cons.injEq, and_true, true_and, D.int.injEq, D.ref.injEq, D.str.injEq, D.tup.injEq, D.bl.injEq, exists_eq', and_assoc]
    exact ⟨small_mul h1 h2 (by decide), by decide, hK _ _ ⟨_, _, rfl, rfl, Int.emod_nonneg _ (by decide), Int.emod_lt_of_pos _ (by decide)⟩⟩
  · subst e1 e2
    simp only [w_tape_l_2, wSeq, wAsg, wDrop, wRet, wRetN, wNext, wIfS, wBl, Fg.wTru, wOp, wUn, wCl, wCons, wNil, wVar, wCst, wTup, wLst, gNm, wCall, List.set_cons_zero, List.set_cons_succ, List.getElem?_cons_zero, List.getElem?_cons_succ, wDisp, prsD, cLst]
    intro p hp
    refine ⟨script ns, ns.map D.int, fun _ => True, rfl, (fun z h => by unfold script at h; cases h), rfl, fun q hq => ?_⟩
    have hpq : p ≠ q := fun z => by rw [← z, up_same] at hq; cases hq
    have hqM : M1 q = none := by rw [up_ne (Ne.symm hpq)] at hq; exact hq
    refine ⟨⟨dct0, by rw [up_ne hpq, up_same]⟩, ⟨fun x hx => ?_, .inl (tp_at q 0 0 0 0 s)⟩, by simp, fun o => ?_⟩
    · have := tp_at q 0 0 0 0 s x hx
      cases hk : x.1 with
      | str c => exact ⟨.text c, rfl, by simp [NestedKey.depth]⟩
      | _ =>
        exfalso
        have hx' : x ∈ tp q 0 0 0 0 s := hx
        unfold tp at hx'
        simp only [List.mem_cons, List.not_mem_nil, or_false] at hx'
        rcases hx' with rfl | rfl | rfl | rfl | rfl | rfl <;> cases hk
    · have e : Fg.putAll [] (tp q 0 0 0 0 s) = tp q 0 0 0 0 s := tp_all q s
      show Q (.ref p) (Fg.up (Fg.up (Fg.up M1 p (.dct dct0 [])) q (.lst (ns.map D.int))) p (.dct o (Fg.putAll [] (tp q 0 0 0 0 s))))
      rw [e]
      exact k p q _ hp ⟨o, 0, 0, 0, 0, s, up_same, by rw [up_ne (Ne.symm hpq), up_same], Ne.symm hpq, by decide, by decide, h1, h2⟩ (Ext.upd hp ((Ext.new hp).trans (Ext.new hq)))
theorem at_mem {ds : List D} {r : Int} (h0 : 0 ≤ r) (h1 : r < ds.length) : ∃ d, atI ds r = some d ∧ d ∈ ds := by
  have hl : r.toNat < ds.length := by omega
  exact ⟨ds[r.toNat], at_lt h0 (List.getElem?_eq_getElem hl), List.getElem_mem hl⟩
theorem pick_shown {M : MM} {p qf : Addr} {ns : List Int} {ds : List D} {Q : QD} {E : QX} {n : Int} (h : TS M p qf ns) (hl : ns.length ≤ 63) (hn : n = ds.length) (h1 : 0 < ds.length) (h2 : ds.length < 1000) (k : ∀ d M', d ∈ ds → TS M' p qf ns → Ex p M M' → Q d M') :
    ds.length ≤ sizeLine ∧ ∀ q, M q = none → sp_draw_l [.ref p, .int n] (Fg.up M q (.lst ds)) (fun y M2 => dIx (.ref q) y M2 Q) E := by
  refine ⟨by rw [sizeLine_eq]; omega, fun q hq => ?_⟩
  have hqp := h.ne hq
  refine p_draw (h.new hq) hl (Nat.lt_of_le_of_lt (Nat.log2_le_self _) (by omega)) fun r M' r0 r1 hf fr => ?_
  have e : M' q = some (.lst ds) := fr.at hqp.1 up_same
  obtain ⟨d, ha, hm⟩ := at_mem (ds := ds) r0 (by omega)
  simp only [dIx, e]
  exact ⟨r, d, rfl, ha, k d M' hm hf ((Ex.of (Ext.new hq)).trans (.fr fr))⟩
theorem at_cps {z : Str} {r : Int} (h0 : 0 ≤ r) (h1 : r < z.cps.toList.length) : ∃ c, atI z.cps.toList r = some c := by
  have hl : r.toNat < z.cps.toList.length := by omega
  refine ⟨z.cps.toList[r.toNat], ?_⟩
  unfold atI ixN
  rw [if_pos h0, if_pos (by omega)]
  exact List.getElem?_eq_getElem hl
end FgL
/-! T4: sorted rows; what is drawn from the tape: signs, factors, tables; polynomials. -/
namespace FgL
open PySem PySem.Spec L2 Fg
open PyProof.Rows hiding St
theorem leD_total (a b : D) : (leD a b || leD b a) = true := by
  show (!ltD b a || !ltD a b) = true
  cases q : ltD b a with
  | false => simp
  | true => rw [ltD_asym q]; rfl
theorem leD_trans (a b c : D) (h1 : leD a b = true) (h2 : leD b c = true) : leD a c = true := (PySem.W.sortLe_total (PyProof.Rows.listOrd PyProof.Rows.itemOrd) false fun d : D => tk d).trans a b c h1 h2
/-- what sorted gives, where a strictly rising row of the same is known -/
theorem ms_eq {ds rs : List D} (hp : rs.Perm ds) (hs : SortedD rs) (hpl : ∀ d ∈ ds, pl d = true) (al : ∀ d ∈ ds, ∀ e ∈ ds, PySem.W.alike (toP d) (toP e) = true) : ds.mergeSort leD = rs := by
  refine List.Perm.eq_of_pairwise (le := fun x y => leD x y = true) (fun a b ha hb h1 h2 => ?_) (List.pairwise_mergeSort leD_trans leD_total ds) (hs.imp fun {x y} h => ?_) ((List.mergeSort_perm ds leD).trans hp.symm)
  · have ha' : a ∈ ds := (List.mergeSort_perm ds leD).mem_iff.mp ha
    have hb' : b ∈ ds := hp.mem_iff.mp hb
    by_cases e : a = b
    · exact e
    · have q1 : ltD b a = false := by simpa [leD_eq] using h1
      have q2 : ltD a b = false := by simpa [leD_eq] using h2
      rcases ltD_total (hpl a ha') (hpl b hb') (al a ha' b hb') e with h | h
      · rw [q2] at h; cases h
      · rw [q1] at h; cases h
  · rw [leD_eq, ltD_asym h]; rfl
theorem ms_keys {t : Tab} (h : ND t) : (t.map fun p => eM p.1).mergeSort leD = (srt t).map fun p => eM p.1 := by
  refine ms_eq ((srt_perm t).map _) (List.pairwise_map.mpr (rising_srt h)) (fun d hd => ?_) fun d hd e he => ?_
  · obtain ⟨p, _, rfl⟩ := List.mem_map.mp hd
    exact pl_eM _
  · obtain ⟨p, _, rfl⟩ := List.mem_map.mp hd
    obtain ⟨q, _, rfl⟩ := List.mem_map.mp he
    exact alike_eM _ _
theorem ms_keysS {t : Mono} (h : NDS t) : (t.map fun p => eS p.1).mergeSort leD = (srtS t).map fun p => eS p.1 := by
  refine ms_eq ((srt_permS t).map _) (List.pairwise_map.mpr (rising_srtS h)) (fun d hd => ?_) fun d hd e he => ?_
  · obtain ⟨p, _, rfl⟩ := List.mem_map.mp hd
    rfl
  · obtain ⟨p, _, rfl⟩ := List.mem_map.mp hd
    obtain ⟨q, _, rfl⟩ := List.mem_map.mp he
    rfl
theorem sortT_eM (t : Tab) : SortOkT (t.map fun p => eM p.1) := by
  refine ⟨dats_map (fun p : Mono × Int => eM p.1) (fun p => dat_eM p.1) t, fun d hd e he => ?_, .inl fun d hd => ?_, Nat.le_trans (deps_map (fun p : Mono × Int => eM p.1) 2 (fun p => dep_eM p.1) t) (by decide)⟩
  · obtain ⟨p, _, rfl⟩ := List.mem_map.mp hd
    obtain ⟨q, _, rfl⟩ := List.mem_map.mp he
    exact alike_eM _ _
  · obtain ⟨p, _, rfl⟩ := List.mem_map.mp hd
    exact ⟨_, rfl⟩
theorem sortT_eS (t : Mono) : SortOkT (t.map fun p => eS p.1) := by
  refine ⟨dats_map (fun p : Str × Int => eS p.1) (fun p => rfl) t, fun d hd e he => ?_, .inr fun d hd => ?_, Nat.le_trans (deps_map (fun p : Str × Int => eS p.1) 0 (fun p => by simp [eS, dep]) t) (by decide)⟩
  · obtain ⟨p, _, rfl⟩ := List.mem_map.mp hd
    obtain ⟨q, _, rfl⟩ := List.mem_map.mp he
    rfl
  · obtain ⟨p, _, rfl⟩ := List.mem_map.mp hd
    rfl
theorem p_poly {M : MM} {a : Addr} {o : Obj} {t : Tab} {Q : QD} {E : QX} (h : M a = some (.dct o (kvs t))) (hn : ND t) (hz : t.length ≤ 1000000) (k : ∀ M', Ext M M' → Q (eP (canon t)) M') : sp_poly_l [.ref a] M Q E := by
  refine ⟨rfl, ?_⟩
  show w_poly_l [some (.ref a), none] M _ _
  simp only [w_poly_l, wSeq, wAsg, wDrop, wRet, wRetN, wNext, wIfS, wBl, Fg.wTru, wOp, wUn, wCl, wCons, wNil, wVar, wCst, wTup, wLst, gNm, wCall, List.set_cons_zero, List.set_cons_succ, List.getElem?_cons_zero, List.getElem?_cons_succ, wWk, wLc, cLst, cSortT]
  obtain ⟨st, hw, _⟩ := walk_dct h
  refine ⟨_, _, st, rfl, fun z e => (by cases e), hw, fun q hq => ?_⟩
  rw [keys_kvs]
  have e0 : Ext M (Fg.up M q (.lst (t.map fun p => eM p.1))) := Ext.new hq
  refine ⟨_, _, rfl, lstOf_ref up_same, sortT_eM t, fun r hr => ?_⟩
  rw [ms_keys hn]
  have e1 := e0.trans (Ext.new (o := .lst ((srt t).map fun p => eM p.1)) hr)
  have h1 : Fg.up (Fg.up M q (.lst (t.map fun p => eM p.1))) r (.lst ((srt t).map fun p => eM p.1)) r = some (.lst ((srt t).map fun p => eM p.1)) := up_same
  generalize Fg.up (Fg.up M q (.lst (t.map fun p => eM p.1))) r (.lst ((srt t).map fun p => eM p.1)) = M1 at e1 h1 ⊢
  have hd := e1 _ _ h
  obtain ⟨st2, hw2, hst2⟩ := walk_lst h1
  refine ⟨_, st2, hw2, fun s hs => ?_⟩
  have lu : (srt t).length = t.length := (srt_perm t).length_eq
  refine lc_map (xs := srt t) hs (fun p => eM p.1) eT (fun p => decide (p.2 ≠ 0)) (fun M' e => hst2 M' (e _ _ h1)) (by rw [sizeLine_eq]; omega) (fun x hx M2 e2 K1 K0 k1 k0 => ?_) fun M2 e2 hr2 => ?_
  · have hl : look t x.1 = some x.2 := look_mem hn ((srt_perm t).mem_iff.mp hx)
    have h2 := e2 _ _ hd
    simp only [wipeD, wSeq, wAsg, wDrop, wRet, wRetN, wNext, wIfS, wBl, Fg.wTru, wOp, wUn, wCl, wCons, wNil, wVar, wCst, wTup, wLst, gNm, wCall, List.set_cons_zero, List.set_cons_succ, List.getElem?_cons_zero, List.getElem?_cons_succ]
    refine getM h2 hl _ ?_
    simp only [dNe, dEq]
    by_cases z : x.2 = 0
    · simp only [z, decide_true, Bool.not_true, Bool.false_eq_true, if_false]
      exact k0 (by simp [z]) M2 (Ext.refl _)
    · simp only [z, decide_false, Bool.not_false, if_true]
      refine getM h2 hl _ ?_
      simp only [List.length_cons, List.length_nil, sizeLine_eq]
      exact ⟨by decide, k1 (by simp [z]) M2 (Ext.refl _)⟩
  · simp only [cTuple]
    refine ⟨_, _, rfl, items_ref hr2, ?_⟩
    have : canon t = (srt t).filter fun p => decide (p.2 ≠ 0) := srt_rising (List.Pairwise.filter _ (rising_srt hn)) ((srt_perm t).filter _)
    show Q (eP ((srt t).filter fun p => decide (p.2 ≠ 0))) M2
    rw [← this]
    exact k M2 (e1.trans e2)
/-- an integer but 0 -/
theorem p_factor {M : MM} {p qf : Addr} {ns : List Int} {g : Int} {Q : QD} {E : QX} (h : TS M p qf ns) (hl : ns.length ≤ 63) (g0 : 1000000 ≤ g) (g1 : g.natAbs.log2 < 8000) (k : ∀ c M', c ≠ 0 → (c.natAbs : Int) ≤ g → TS M' p qf ns → Ex p M M' → Q (.int c) M') : sp_factor_l [.ref p, .int g] M Q E := by
  refine ⟨rfl, ?_⟩
  show w_factor_l [some (.ref p), some (.int g), none] M _ _
  have c6 : CPow 10 6 := by unfold CPow; decide
  have e6 : (10 : Int) ^ (6 : Int).toNat = 1000000 := by decide
  (unfold w_factor_l; obtain ⟨Tl, hTl⟩ : ∃ x, x = w_factor_l_1 := ⟨_, rfl⟩; rw [← hTl]; simp only [wSeq, wAsg, wDrop, wRet, wRetN, wNext, wIfS, wBl, Fg.wTru, wOp, wUn, wCl, wCons, wNil, wVar, wCst, wTup, wLst, gNm, wCall, List.set_cons_zero, List.set_cons_succ, List.getElem?_cons_zero, List.getElem?_cons_succ, dPow, c6, e6, true_and, List.length_cons, List.length_nil, Nat.zero_add, Nat.reduceAdd]; subst hTl)
  refine pick_shown (ds := [.int 3, .int 12, .int 1000000, .int g]) h hl rfl (Nat.zero_lt_succ _) (by simp) fun d M1 hd f1 x1 => ?_
  obtain ⟨w, rfl, w1, w2⟩ : ∃ w, d = .int w ∧ 1 ≤ w ∧ w ≤ g := by
    simp only [List.mem_cons, List.not_mem_nil, or_false] at hd
    rcases hd with rfl | rfl | rfl | rfl
    · exact ⟨_, rfl, by omega, by omega⟩
    · exact ⟨_, rfl, by omega, by omega⟩
    · exact ⟨_, rfl, by omega, by omega⟩
    · exact ⟨_, rfl, by omega, by omega⟩
  have lw : w.natAbs.log2 < 8000 := by
    have : w.natAbs.log2 ≤ g.natAbs.log2 := by
      rw [Nat.le_log2 (by omega)]
      exact Nat.le_trans (Nat.log2_self_le (by omega)) (by omega)
    omega
  refine p_draw f1 hl lw fun r M2 r0 r1 f2 y2 => ?_
  simp only [dAdd]
  simp only [w_factor_l_1, wSeq, wAsg, wDrop, wRet, wRetN, wNext, wIfS, wBl, Fg.wTru, wOp, wUn, wCl, wCons, wNil, wVar, wCst, wTup, wLst, gNm, wCall, List.set_cons_zero, List.set_cons_succ, List.getElem?_cons_zero, List.getElem?_cons_succ, dSub, List.length_cons, List.length_nil, Nat.zero_add, Nat.reduceAdd]
  refine pick_shown (ds := [.int (1 + r), .int (0 - (1 + r))]) f2 hl rfl (Nat.zero_lt_succ _) (by simp) fun d M3 hd f3 x3 => ?_
  have ex := x1.trans ((Ex.fr y2).trans x3)
  simp only [List.mem_cons, List.not_mem_nil, or_false] at hd
  rcases hd with rfl | rfl
  · exact k _ _ (by omega) (by omega) f3 ex
  · exact k _ _ (by omega) (by omega) f3 ex
end FgL
/-! T5: signs and tables from the tape. -/
namespace FgL
open PySem PySem.Spec L2 Fg
open PyProof.Rows hiding St
theorem dats_strs (l : List Str) : dats (l.map D.str) = true := dats_map D.str (fun _ => rfl) l
theorem p_signs {M : MM} {p qf : Addr} {ns : List Int} {Q : QD} {E : QX} (h : TS M p qf ns) (hl : ns.length ≤ 63)
    (k : ∀ nl (signs : List Str) M', nl ≠ p → M nl = none → M' nl = some (.lst (signs.map D.str)) → 1 ≤ signs.length → signs.length ≤ 6 → TS M' p qf ns → Ex p M M' → Q (.ref nl) M') : sp_signs_l [.ref p] M Q E := by
  refine ⟨rfl, ?_⟩
  show w_signs_l [some (.ref p), none, none, none, none, none] M _ _
  (unfold w_signs_l; obtain ⟨Tl, hTl⟩ : ∃ x, x = w_signs_l_1 := ⟨_, rfl⟩; rw [← hTl]; simp only [wSeq, wAsg, wDrop, wRet, wRetN, wNext, wIfS, wBl, Fg.wTru, wOp, wUn, wCl, wCons, wNil, wVar, wCst, wTup, wLst, gNm, wCall, List.set_cons_zero, List.set_cons_succ, List.getElem?_cons_zero, List.getElem?_cons_succ, List.length_nil]; subst hTl)
  refine ⟨Nat.zero_le _, fun q hq => ?_⟩
  have x0 : Ext M (Fg.up M q (.lst [])) := Ext.new hq
  have hqp := h.ne hq
  (unfold w_signs_l_1; obtain ⟨Tl, hTl⟩ : ∃ x, x = w_signs_l_2 := ⟨_, rfl⟩; rw [← hTl]; simp only [wSeq, wAsg, wDrop, wRet, wRetN, wNext, wIfS, wBl, Fg.wTru, wOp, wUn, wCl, wCons, wNil, wVar, wCst, wTup, wLst, gNm, wCall, List.set_cons_zero, List.set_cons_succ, List.getElem?_cons_zero, List.getElem?_cons_succ, wFor, wRng1, dAdd, List.length_cons, List.length_nil, Nat.zero_add, Nat.reduceAdd]; subst hTl)
  refine p_draw (h.new hq) hl (by decide +kernel) fun r M1 r0 r1 f1 y1 => ?_
  refine ⟨_, rfl, by omega, by omega, ?_⟩
  have hr : (2 + r).toNat ≤ 6 ∧ 2 ≤ (2 + r).toNat := by omega
  generalize (2 + r).toNat = n at hr ⊢
  have ln : (Fg.upTo 0 n).length = n := by simp [Fg.upTo]
  refine for_rule (I := fun i ρ M' => ∃ v2 v3 v4 v5, ∃ l : List Str, ρ = [some (.ref p), some (.ref q), v2, v3, v4, v5] ∧ TS M' p qf ns ∧ Ex p M M' ∧ M' q = some (.lst (l.map D.str)) ∧ l.length ≤ i ∧ (1 ≤ i → 1 ≤ l.length))
    ⟨none, none, none, none, [], rfl, f1, (Ex.of x0).trans (.fr y1), y1.at hqp.1 up_same, Nat.le_refl _, fun h => absurd h (by decide)⟩ (fun i x hx ρ M2 ⟨v2, v3, v4, v5, l, g1, f2, x2, e2, ll, l1⟩ K hK => ⟨trivial, ?_⟩) fun ρ M2 ⟨v2, v3, v4, v5, l, g1, f2, x2, e2, ll, l1⟩ => ⟨trivial, ?_⟩
  · subst g1
    have hi : i < n := by
      have := (List.getElem?_eq_some_iff.mp hx).1
      rwa [ln] at this
    simp only [wSeq, wAsg, wDrop, wRet, wRetN, wNext, wIfS, wBl, Fg.wTru, wOp, wUn, wCl, wCons, wNil, wVar, wCst, wTup, wLst, gNm, wCall, List.set_cons_zero, List.set_cons_succ, List.getElem?_cons_zero, List.getElem?_cons_succ, wFor, wRng1, dAdd, List.length_cons, List.length_nil, Nat.zero_add, Nat.reduceAdd]
    refine pick_shown (ds := [.int 1, .int 1, .int 2, .int 4]) f2 hl rfl (by decide) (by decide) fun d M3 hd f3 x3 => ?_
    obtain ⟨w, rfl, w1, w2⟩ : ∃ w, d = .int w ∧ 1 ≤ w ∧ w ≤ 4 := by
      simp only [List.mem_cons, List.not_mem_nil, or_false] at hd
      rcases hd with rfl | rfl | rfl | rfl
      · exact ⟨_, rfl, by omega, by omega⟩
      · exact ⟨_, rfl, by omega, by omega⟩
      · exact ⟨_, rfl, by omega, by omega⟩
      · exact ⟨_, rfl, by omega, by omega⟩
    refine p_draw f3 hl (Nat.lt_of_le_of_lt (Nat.log2_le_self _) (by omega)) fun r4 M4 t0 t1 f4 y4 => ?_
    refine ⟨_, rfl, by omega, by omega, ?_⟩
    have x4 := x2.trans (x3.trans (.fr y4))
    have e4 := y4.at hqp.1 (x3.at hqp.1 e2)
    have hr4 : (1 + r4).toNat ≤ 4 := by omega
    generalize (1 + r4).toNat = n4 at hr4 ⊢
    have ln4 : (Fg.upTo 0 n4).length = n4 := by simp [Fg.upTo]
    refine for_rule (I := fun j ρ M' => ∃ v4, ∃ nm : Str, ρ = [some (.ref p), some (.ref q), some x, some (.str nm), v4, v5] ∧ TS M' p qf ns ∧ Ex p M M' ∧ M' q = some (.lst (l.map D.str)) ∧ nm.length ≤ j)
      ⟨v4, Str.ofString "", rfl, f4, x4, e4, Nat.le_of_eq rfl⟩ (fun j x2' hx2 ρ M5 ⟨v4, nm, g1, f5, x5, e5, lj⟩ K2 hK2 => ⟨trivial, ?_⟩) fun ρ M5 ⟨v4, nm, g1, f5, x5, e5, lj⟩ => ⟨trivial, ?_⟩
    · subst g1
      have hj : j < n4 := by
        have := (List.getElem?_eq_some_iff.mp hx2).1
        rwa [ln4] at this
      simp only [wSeq, wAsg, wDrop, wRet, wRetN, wNext, wIfS, wBl, Fg.wTru, wOp, wUn, wCl, wCons, wNil, wVar, wCst, wTup, wLst, gNm, wCall, List.set_cons_zero, List.set_cons_succ, List.getElem?_cons_zero, List.getElem?_cons_succ, dAdd]
      refine p_draw f5 hl (by decide +kernel) fun r6 M6 s0 s1 f6 y6 => ?_
      have l5 : (Str.ofString "abxyz").cps.toList.length = 5 := by decide +kernel
      obtain ⟨c, hc⟩ := at_cps (z := "abxyz") (r := r6) s0 (by show r6 < ((Str.ofString "abxyz").cps.toList.length : Nat); rw [l5]; omega)
      refine ⟨_, c, rfl, by decide +kernel, hc, ?_⟩
      have l1c : (⟨#[c]⟩ : Str).length = 1 := rfl
      exact ⟨by rw [l1c, sizeLine_eq]; omega, hK2 _ _ ⟨_, nm ++ ⟨#[c]⟩, rfl, f6, x5.trans (.fr y6), y6.at hqp.1 e5, by rw [PySem.Str.length_append, l1c]; omega⟩⟩
    · subst g1
      rw [ln4] at lj
      refine p_draw f5 hl (by decide +kernel) fun r6 M6 s0 s1 f6 y6 => ?_
      have l8 : (Str.ofString "xytXYWaZ").cps.toList.length = 8 := by decide +kernel
      obtain ⟨c, hc⟩ := at_cps (z := "xytXYWaZ") (r := r6) s0 (by show r6 < ((Str.ofString "xytXYWaZ").cps.toList.length : Nat); rw [l8]; omega)
      refine ⟨_, c, rfl, by decide +kernel, hc, ?_⟩
      have e6 := y6.at hqp.1 e5
      have x6 := x5.trans (.fr y6)
      have l1c : (⟨#[c]⟩ : Str).length = 1 := rfl
      have l2 : (Str.ofString "_").length = 1 := by decide +kernel
      have l3 : ((⟨#[c]⟩ : Str) ++ Str.ofString "_").length = 2 := by rw [PySem.Str.length_append, l1c, l2]
      refine ⟨by rw [l1c, l2, sizeLine_eq]; decide, by rw [l3, sizeLine_eq]; omega, ?_⟩
      generalize (⟨#[c]⟩ : Str) ++ Str.ofString "_" ++ nm = sg
      have e6' : M6 q = some (.lst (l.map D.str)) := e6
      simp only [wSeq, wAsg, wDrop, wRet, wRetN, wNext, wIfS, wBl, Fg.wTru, wOp, wUn, wCl, wCons, wNil, wVar, wCst, wTup, wLst, gNm, wCall, List.set_cons_zero, List.set_cons_succ, List.getElem?_cons_zero, List.getElem?_cons_succ, dNotIn, dIn, e6']
      refine ⟨rfl, dats_strs l, by simp [dep], ?_⟩
      by_cases a : anyEq (l.map D.str) (.str sg) = true
      · simp only [a, Bool.not_true, Bool.false_eq_true, if_false]
        have ne : 1 ≤ l.length := by
          cases l with
          | nil => simp [anyEq] at a
          | cons _ _ => simp
        exact hK _ _ ⟨_, _, _, _, l, rfl, f6, x6, e6, by omega, fun _ => ne⟩
      · have a' : anyEq (l.map D.str) (.str sg) = false := by simpa using a
        simp only [a', Bool.not_false, if_true, wBm, wSeq, wAsg, wDrop, wRet, wRetN, wNext, wIfS, wBl, Fg.wTru, wOp, wUn, wCl, wCons, wNil, wVar, wCst, wTup, wLst, gNm, wCall, List.set_cons_zero, List.set_cons_succ, List.getElem?_cons_zero, List.getElem?_cons_succ, tyR, e6', mApp]
        exact ⟨trivial, q, _, _, rfl, rfl, e6, by rw [List.length_map, sizeLine_eq]; omega, hK _ _ ⟨_, _, _, _, l ++ [sg], rfl, f6.upd hqp, Ex.upd hq x6, by rw [up_same, List.map_append]; rfl, by rw [List.length_append, List.length_singleton]; omega, fun _ => by rw [List.length_append, List.length_singleton]; omega⟩⟩
  · subst g1
    rw [ln] at ll l1
    simp only [w_signs_l_2, wSeq, wAsg, wDrop, wRet, wRetN, wNext, wIfS, wBl, Fg.wTru, wOp, wUn, wCl, wCons, wNil, wVar, wCst, wTup, wLst, gNm, wCall, List.set_cons_zero, List.set_cons_succ, List.getElem?_cons_zero, List.getElem?_cons_succ]
    exact k q l M2 hqp.1 hq e2 (l1 (by omega)) (by omega) f2 x2
theorem good_srt {e : Mono} (h : NDS e) (hp : ∀ p ∈ e, 1 ≤ p.2) : Good (srtS e) := ⟨rising_srtS h, fun x hx => hp x ((srt_permS e).mem_iff.mp hx)⟩
theorem putS_all {P : Str × Int → Prop} {w : Mono} {m : Str} {c : Int} (hw : ∀ x ∈ w, P x) (h : P (m, c)) : ∀ x ∈ putS w m c, P x := by
  unfold putS
  intro x hx
  split at hx
  · obtain ⟨y, hy, e⟩ := List.mem_map.mp hx
    split at e
    · rename_i q
      rw [← e, q]; exact h
    · rw [← e]; exact hw y hy
  · rcases List.mem_append.mp hx with hx | hx
    · exact hw x hx
    · rw [List.mem_singleton] at hx
      rw [hx]; exact h
theorem put_allM {P : Mono × Int → Prop} {w : Tab} {m : Mono} {c : Int} (hw : ∀ x ∈ w, P x) (h : P (m, c)) : ∀ x ∈ put w m c, P x := by
  unfold put
  intro x hx
  split at hx
  · obtain ⟨y, hy, e⟩ := List.mem_map.mp hx
    split at e
    · rename_i q
      rw [← e, q]; exact h
    · rw [← e]; exact hw y hy
  · rcases List.mem_append.mp hx with hx | hx
    · exact hw x hx
    · rw [List.mem_singleton] at hx
      rw [hx]; exact h
end FgL
/-! T6: what is a polynomial; alike ones. -/
namespace FgL
open PySem PySem.Spec L2 Fg
open PyProof.Rows hiding St
theorem kt : knownTy "int" = true ∧ knownTy "bool" = true ∧ knownTy "str" = true ∧ knownTy "list" = true ∧ knownTy "tuple" = true := by decide
theorem it1 : isTy "NoneType" "tuple" = false ∧ isTy "NoneType" "list" = false ∧ isTy "tuple" "tuple" = true ∧ isTy "tuple" "list" = false ∧ isTy "str" "tuple" = false ∧ isTy "str" "list" = false ∧ isTy "str" "str" = true ∧ isTy "bool" "tuple" = false ∧ isTy "bool" "list" = false ∧ isTy "bool" "str" = false ∧ isTy "bool" "bool" = true ∧ isTy "int" "tuple" = false ∧ isTy "int" "list" = false ∧ isTy "int" "str" = false ∧ isTy "int" "bool" = false ∧ isTy "int" "int" = true := by decide
theorem at_map {α : Type} {f : α → D} {l : List α} {i : Nat} {x : α} (h : l[i]? = some x) : atI (l.map f) (0 + (i : Int)) = some (f x) := by
  rw [Int.zero_add]
  exact at_lt (by omega) (by rw [Int.toNat_natCast, List.getElem?_map, h]; rfl)
theorem at_prev {α : Type} {f : α → D} {l : List α} {i : Nat} {x : α} (hi : 1 ≤ i) (h : l[i - 1]? = some x) : atI (l.map f) (0 + (i : Int) - 1) = some (f x) := by
  have e : (0 + (i : Int) - 1) = ((i - 1 : Nat) : Int) := by omega
  rw [e]
  exact at_lt (by omega) (by rw [Int.toNat_natCast, List.getElem?_map, h]; rfl)
theorem pair_ge {α : Type} {R : α → α → Prop} {l : List α} (h : l.Pairwise R) {i : Nat} {x y : α} (hi : 1 ≤ i) (hx : l[i - 1]? = some x) (hy : l[i]? = some y) : R x y := by
  obtain ⟨h1, e1⟩ := List.getElem?_eq_some_iff.mp hx
  obtain ⟨h2, e2⟩ := List.getElem?_eq_some_iff.mp hy
  rw [← e1, ← e2]
  exact List.pairwise_iff_getElem.mp h (i - 1) i h1 h2 (by omega)
theorem upTo_at {n i : Nat} {x : D} (h : (Fg.upTo 0 n)[i]? = some x) : i < n ∧ x = .int (0 + (i : Int)) := by
  have ln : (Fg.upTo 0 n).length = n := by simp [Fg.upTo]
  have hi : i < n := by
    have := (List.getElem?_eq_some_iff.mp h).1
    rwa [ln] at this
  refine ⟨hi, ?_⟩
  unfold Fg.upTo at h
  rw [List.getElem?_map] at h
  obtain ⟨y, hy, e⟩ := Option.map_eq_some_iff.mp h
  rw [List.getElem?_range hi] at hy
  cases hy
  exact e.symm
theorem upTo_len (n : Nat) : (Fg.upTo 0 n).length = n := by simp [Fg.upTo]
/-- rising, but 0, of good monomials -/
structure Cn (t : Tab) : Prop where
  up : Rising t
  nz : ∀ x ∈ t, x.2 ≠ 0
  gk : Gk t
  ml : ∀ x ∈ t, x.1.length ≤ 1000
  sz : t.length ≤ 1000000
theorem dGe_str {a b : Str} {M : MM} {Q : QD} (h : mltS a b = true) (k : Q (.bl false) M) : dGe (.str a) (.str b) M Q := by
  have e : (!ltD (.str a) (.str b)) = false := by rw [show ltD (.str a) (.str b) = true from h]; rfl
  unfold dGe dOrd
  exact ⟨rfl, rfl, ⟨rfl, by (intro z; cases z), by simp [dep]⟩, by show Q (.bl (!ltD (.str a) (.str b))) M; rw [e]; exact k⟩
theorem dGe_mono {a b : Mono} {M : MM} {Q : QD} (h : mlt a b = true) (k : Q (.bl false) M) : dGe (eM a) (eM b) M Q := by
  have e : (!ltD (eM a) (eM b)) = false := by rw [show ltD (eM a) (eM b) = true from h]; rfl
  unfold dGe dOrd
  refine ⟨dat_eM a, dat_eM b, ⟨alike_eM a b, by (unfold eM; rw [toP]; intro z; cases z), ?_⟩, by show Q (.bl (!ltD (eM a) (eM b))) M; rw [e]; exact k⟩
  have := dep_eM a
  have := dep_eM b
  omega
theorem cn_of {t : Tab} {B N L : Nat} (h : PK t B N L) (hL : L ≤ 1000) (hN : N ≤ 1000000) : Cn (canon t) := by
  have P := h.canon
  exact ⟨canon_rising h.nd, P.nz, P.gk, fun x hx => Nat.le_trans (P.ml x hx) hL, Nat.le_trans P.sz hN⟩
/-- a comprehension by an invariant -/
theorem lc_inv {stay : MM → Prop} {p : Addr} {ρ0 : En} {g : WG} {tt : WB} {te : WE} {K : MM → Prop} (J : Nat → List D → MM → Prop) : ∀ (ds : List D) (i : Nat) (acc : List D) (M : MM),
    (∀ j d acc M, ds[j]? = some d → J (i + j) acc M → ∀ (K1 : QD) (K0 : MM → Prop), (∀ y M', M' p = some (.lst acc) → acc.length < sizeLine → J (i + j + 1) (acc ++ [y]) (Fg.up M' p (.lst (acc ++ [y]))) → K1 y M') → (∀ M', J (i + j + 1) acc M' → K0 M') →
      stay M ∧ g d ρ0 M (fun ρ1 M2 => tt ρ1 M2 (fun k M3 => if k = true then te ρ1 M3 K1 noX else K0 M3) noX) noX) →
    (∀ acc M, J (i + ds.length) acc M → stay M ∧ M p = some (.lst acc) ∧ K M) → J i acc M → lcD stay p ρ0 g tt te ds acc M K
  | [], i, acc, M, _, hn, h => hn acc M h
  | d :: ds, i, acc, M, hs, hn, h => by
    have go : ∀ acc' M', J (i + 1) acc' M' → lcD stay p ρ0 g tt te ds acc' M' K := fun acc' M' h' => lc_inv J ds (i + 1) acc' M' (fun j e acc2 M2 he hj K1 K0 k1 k0 => by
      have e1 : i + 1 + j = i + (j + 1) := by omega
      rw [e1] at hj k1 k0
      exact hs (j + 1) e acc2 M2 (by simpa using he) hj K1 K0 k1 k0) (fun acc2 M2 hj => hn acc2 M2 (by rw [List.length_cons]; rw [show i + (ds.length + 1) = i + 1 + ds.length by omega]; exact hj)) h'
    exact hs 0 d acc M rfl h _ _ (fun y M' a b c => ⟨a, b, go _ _ c⟩) fun M' c => go _ _ c
theorem paired_snoc {α β : Type} {R : α → β → Prop} {xs : List α} {ys : List β} {x : α} {y : β} (h : Paired R xs ys) (hxy : R x y) : Paired R (xs ++ [x]) (ys ++ [y]) := by
  induction h with
  | nil => exact .cons hxy .nil
  | cons a _ ih => exact .cons a ih
/-- a list that grows at p alone: what is read elsewhere stays -/
theorem rv_up {M M' : MM} {p : Addr} {o : MO} (hp : ∀ x o, M x = some o → x ≠ p → M' x = some o) : True := trivial
end FgL
/-! T7: a polynomial handed in as it is, or of lists. -/
namespace FgL
open PySem PySem.Spec L2 Fg
open PyProof.Rows hiding St
def rm (M : MM) (p : Addr) : MM := fun b => if b = p then none else M b
theorem rm_up (M : MM) (p : Addr) (o : MO) : rm (Fg.up M p o) p = rm M p := by
  funext b
  unfold rm
  by_cases h : b = p
  · rw [if_pos h, if_pos h]
  · rw [if_neg h, if_neg h, up_ne h]
theorem rm_sub (M : MM) (p : Addr) : Ext (rm M p) M := fun b o h => by
  unfold rm at h
  by_cases e : b = p
  · rw [if_pos e] at h; cases h
  · rw [if_neg e] at h; exact h
theorem rm_ext {M M' : MM} {p : Addr} (e : Ext M M') : Ext (rm M p) (rm M' p) := fun b o h => by
  unfold rm at h ⊢
  by_cases q : b = p
  · rw [if_pos q] at h; cases h
  · rw [if_neg q] at h ⊢
    exact e _ _ h
theorem rm_at {M : MM} {p q : Addr} {o : MO} (h : M q = some o) (hq : q ≠ p) : rm M p q = some o := by
  unfold rm
  rw [if_neg hq]; exact h
theorem RV.ext {M M' : MM} (e : Ext M M') {d : D} {x : Str × Int} (h : RV M d x) : RV M' d x := items_ext e h
theorem p_handed {M : MM} {p qf : Addr} {ns : List Int} {t : Tab} {Q : QD} {E : QX} (h : TS M p qf ns) (hl : ns.length ≤ 63) (sz : t.length ≤ 1000000) (ml : ∀ x ∈ t, x.1.length ≤ 1000)
    (k : ∀ d M', RPo M' d t → TS M' p qf ns → Ex p M M' → Q d M') : sp_handed_l [.ref p, eP t] M Q E := by
  refine ⟨rfl, ?_⟩
  show w_handed_l [some (.ref p), some (eP t), none, none, none] M _ _
  (unfold w_handed_l; obtain ⟨Tl, hTl⟩ : ∃ x, x = w_handed_l_1 := ⟨_, rfl⟩; rw [← hTl]; simp only [wSeq, wAsg, wDrop, wRet, wRetN, wNext, wIfS, wBl, Fg.wTru, wOp, wUn, wCl, wCons, wNil, wVar, wCst, wTup, wLst, gNm, wCall, List.set_cons_zero, List.set_cons_succ, List.getElem?_cons_zero, List.getElem?_cons_succ]; subst hTl)
  refine p_draw h hl (by decide +kernel) fun r M0 r0 r1 f0 y0 => ?_
  simp only [dEq]
  by_cases c : r = 0
  · simp only [c, decide_true, if_true, wLc, wWk, wSeq, wAsg, wDrop, wRet, wRetN, wNext, wIfS, wBl, Fg.wTru, wOp, wUn, wCl, wCons, wNil, wVar, wCst, wTup, wLst, gNm, wCall, List.set_cons_zero, List.set_cons_succ, List.getElem?_cons_zero, List.getElem?_cons_succ]
    refine ⟨t.map eT, fun _ => True, rfl, fun p1 hp1 => ?_⟩
    have z2 : 2 ≤ sizeLine := by rw [sizeLine_eq]; decide
    refine lc_inv (J := fun i acc M' => Paired (RTe (rm M' p1)) acc (t.take i) ∧ Ext M0 M' ∧ M' p1 = some (.lst acc) ∧ acc.length = i) _ 0 [] _ (fun i d acc M1 hd ⟨a1, a2, a3, a4⟩ K1 K0 k1 k0 => ⟨trivial, ?_⟩) (fun acc M1 ⟨a1, a2, a3, a4⟩ => ⟨trivial, a3, ?_⟩) ⟨.nil, Ext.new hp1, up_same, rfl⟩
    · rw [List.getElem?_map] at hd
      obtain ⟨x, hx, ex⟩ := Option.map_eq_some_iff.mp hd
      subst ex
      have hi := (List.getElem?_eq_some_iff.mp hx).1
      have mx := ml x (List.mem_of_getElem? hx)
      rw [Nat.zero_add] at a1 a4 k1
      refine ⟨[eM x.1, .int x.2], rfl, rfl, ?_⟩
      simp only [gMany, wYes, wSeq, wAsg, wDrop, wRet, wRetN, wNext, wIfS, wBl, Fg.wTru, wOp, wUn, wCl, wCons, wNil, wVar, wCst, wTup, wLst, gNm, wCall, List.set_cons_zero, List.set_cons_succ, List.getElem?_cons_zero, List.getElem?_cons_succ, wipeD, if_true, wLc, wWk]
      refine ⟨x.1.map eV, fun _ => True, rfl, fun p2 hp2 => ?_⟩
      have n12 : p1 ≠ p2 := fun z => by rw [← z, a3] at hp2; cases hp2
      refine lc_inv (J := fun j acc2 M2 => Paired (RV (rm (rm M2 p1) p2)) acc2 (x.1.take j) ∧ Ext M1 M2 ∧ M2 p2 = some (.lst acc2) ∧ acc2.length = j) _ 0 [] _ (fun j d acc2 M2 hd ⟨b1, b2, b3, b4⟩ L1 L0 l1 l0 => ⟨trivial, ?_⟩) (fun acc2 M2 ⟨b1, b2, b3, b4⟩ => ⟨trivial, b3, ?_⟩) ⟨.nil, Ext.new hp2, up_same, rfl⟩
      · rw [List.getElem?_map] at hd
        obtain ⟨y, hy, ey⟩ := Option.map_eq_some_iff.mp hd
        subst ey
        have hj := (List.getElem?_eq_some_iff.mp hy).1
        rw [Nat.zero_add] at b1 b4 l1
        simp only [wYes, wSeq, wAsg, wDrop, wRet, wRetN, wNext, wIfS, wBl, Fg.wTru, wOp, wUn, wCl, wCons, wNil, wVar, wCst, wTup, wLst, gNm, wCall, List.set_cons_zero, List.set_cons_succ, List.getElem?_cons_zero, List.getElem?_cons_succ, wipeD, if_true, cLst]
        refine ⟨_, [.str y.1, .int y.2], fun _ => True, rfl, (fun z e => by cases e), rfl, fun a ha => ?_⟩
        have n1a : a ≠ p1 := fun z => by rw [z, b2 _ _ a3] at ha; cases ha
        have n2a : a ≠ p2 := fun z => by rw [z, b3] at ha; cases ha
        have e3 : Ext M2 (Fg.up M2 a (.lst [.str y.1, .int y.2])) := Ext.new ha
        refine l1 _ _ (e3 _ _ b3) (by rw [sizeLine_eq]; omega) ⟨?_, Ext.upd hp2 (b2.trans e3), up_same, by rw [List.length_append, List.length_singleton, b4]⟩
        have er : rm (rm (Fg.up (Fg.up M2 a (.lst [.str y.1, .int y.2])) p2 (.lst (acc2 ++ [.ref a]))) p1) p2 = rm (rm (Fg.up M2 a (.lst [.str y.1, .int y.2])) p1) p2 := by
          funext b
          unfold rm
          by_cases q2 : b = p2
          · rw [if_pos q2, if_pos q2]
          · rw [if_neg q2, if_neg q2]
            by_cases q1 : b = p1
            · rw [if_pos q1, if_pos q1]
            · rw [if_neg q1, if_neg q1, up_ne q2]
        rw [er, List.take_add_one, hy]
        refine paired_snoc (Paired.mapP b1 fun _ _ q => RV.ext (rm_ext (rm_ext e3)) q) ?_
        exact items_ref (rm_at (rm_at up_same n1a) n2a)
      · rw [List.length_map, Nat.zero_add] at b1 b4
        rw [List.take_length] at b1
        simp only [List.length_cons, List.length_nil, Nat.zero_add, Nat.reduceAdd, z2, true_and]
        intro e he
        have m1 : M2 p1 = some (.lst acc) := b2 _ _ a3
        have nea : e ≠ p1 := fun z => by rw [z, m1] at he; cases he
        have x3 : Ext M2 (Fg.up M2 e (.lst [.ref p2, .int x.2])) := Ext.new he
        refine k1 _ _ (x3 _ _ m1) (by rw [sizeLine_eq]; omega) ⟨?_, Ext.upd hp1 (a2.trans (b2.trans x3)), up_same, by rw [List.length_append, List.length_singleton, a4]⟩
        rw [rm_up, List.take_add_one, hx]
        refine paired_snoc (Paired.mapP a1 fun _ _ q => q.ext (rm_ext (b2.trans x3))) ?_
        refine ⟨.ref p2, items_ref (rm_at up_same nea), ?_⟩
        refine ⟨acc2, items_ref (rm_at (x3 _ _ b3) (Ne.symm n12)), Paired.mapP b1 fun _ _ q => ?_⟩
        exact RV.ext ((rm_sub _ p2).trans (rm_ext x3)) q
    · rw [List.length_map, Nat.zero_add] at a1
      rw [List.take_length] at a1
      have q1 : RPo M1 (.ref p1) t := ⟨acc, items_ref a3, Paired.mapP a1 fun _ _ q => q.ext (rm_sub M1 p1)⟩
      exact k _ M1 q1 (f0.ext a2) ((Ex.fr y0).trans (.of a2))
  · simp only [c, decide_false, Bool.false_eq_true, if_false]
    simp only [w_handed_l_1, wSeq, wAsg, wDrop, wRet, wRetN, wNext, wIfS, wBl, Fg.wTru, wOp, wUn, wCl, wCons, wNil, wVar, wCst, wTup, wLst, gNm, wCall, List.set_cons_zero, List.set_cons_succ, List.getElem?_cons_zero, List.getElem?_cons_succ]
    exact k _ M0 (rpo_eP M0 t) f0 (.fr y0)
end FgL
/-! T8: sums, differences, products, powers of what is handed in; sums. -/
namespace FgL
open PySem PySem.Spec L2 Fg
open PyProof.Rows hiding St
def neg (t : Tab) : Tab := t.map fun x => (x.1, -x.2)
theorem nz_x {w : Tab} : ∀ x ∈ nz w, x.2 ≠ 0 := fun x hx => by simpa using (List.mem_filter.mp hx).2
section
variable {t u : Tab} {B N L B' N' L' : Nat} {M : MM} {d e : D} {Q : QD} {E : QX}
theorem addd (hd : RPo M d (canon t)) (he : RPo M e (canon u)) (h : PK t B N L) (g : PK u B' N' L') (hB : B + B' < top200) (hN : N + N' ≤ 2000) (hL : L + L' ≤ 1000)
    (k : ∀ w M', Ext M M' → PK w (B + B') (N + N') (L + L') → Eqv w (t ++ u) → Q (eP (canon w)) M') : sp_added [d, e] M Q E := by
  have b1 := h.canon.mb (top_bits (by omega)) (by omega) (by omega)
  have b2 := g.canon.mb (top_bits (by omega)) (by omega) (by omega)
  have s1 := h.canon.sz
  have s2 := g.canon.sz
  refine p_added hd he b1.nd b2.nd b1.sml b2.sml b2.bd (by omega) fun w nw sw lw => ?_
  have e2 : Eqv (nz w) (t ++ u) := fun f => by rw [nz_sm, sw, sm_append, canon_sm, canon_sm]
  have P := h.add g (nz_nd nw) nz_x e2
  have tb := top_big
  have lz := nz_len w
  have Nw : Nice ((B + B' : Nat) : Int) w := ⟨nw, fun m => by rw [← nz_sm]; exact (P.nice hL).co m, fun m hm => (P.nice hL).mo m (by rw [nz_sm]; exact hm)⟩
  refine chk_ok Nw (by omega) (by omega) fun M' x => ?_
  rw [← canon_nz]
  exact k (nz w) M' x P e2
theorem muld (hd : RPo M d (canon t)) (he : RPo M e (canon u)) (h : PK t B N L) (g : PK u B' N' L') (b1 : B < top200) (b2 : B' < top200) (hB : B * B' < top200) (hN : N * N' ≤ 2000) (n1 : N ≤ 2000) (n2 : N' ≤ 2000) (hL : L + L' ≤ 1000)
    (k : ∀ w M', Ext M M' → PK w (B * B') (N * N') (L + L') → Eqv w (mulT t u) → Q (eP (canon w)) M') : sp_multiplied [d, e] M Q E := by
  refine p_multiplied hd he (h.canon.mb (top_bits b1) (by omega) (by omega)) (g.canon.mb (top_bits b2) (by omega) (by omega)) ?_ fun w nw zw ew => ?_
  · have := Nat.mul_le_mul h.canon.sz g.canon.sz
    omega
  · have e2 : Eqv w (mulT t u) := ew.trans (mul_eqv (canon_eqv t) (canon_eqv u))
    have P := h.mul g nw zw e2
    exact chk_pk P hB hN hL fun M' x => k w M' x P e2
end
theorem cst_pk {c : Int} (h : c ≠ 0) : PK [([], c)] c.natAbs 1 0 := by
  refine ⟨nd_one _ _, fun x hx => ?_, fun x hx => ?_, fun x hx => ?_, ?_, Nat.le_refl _⟩
  · rw [List.mem_singleton] at hx
    subst hx
    exact good_nil
  · rw [List.mem_singleton] at hx
    subst hx
    exact h
  · rw [List.mem_singleton] at hx
    subst hx
    exact Nat.le_refl _
  · simp [l1]
theorem cst_sm (c : Int) (f : Mono → Int) : sm [([], c)] f = c * f [] := by rw [sm_cons, sm_nil, Int.add_zero]
theorem cst_mul {c : Int} {t : Tab} (h : Gk t) (f : Mono → Int) : sm (mulT [([], c)] t) f = c * sm t f := by
  rw [mul_sm, cst_sm]
  congr 1
  exact sm_congr fun x hx => by rw [J_nil' (h x hx)]
theorem mul_cst {c : Int} {t : Tab} (h : Gk t) (f : Mono → Int) : sm (mulT t [([], c)]) f = c * sm t f := by
  rw [mul_sm, ← sm_mul]
  refine sm_congr fun x hx => ?_
  rw [cst_sm, J_nil (h x hx)]
theorem canon_nil : canon [] = [] := by unfold canon srt nz; exact List.mergeSort_nil
theorem eP_nil : eP (canon []) = .tup [] := by rw [canon_nil]; rfl
theorem rpo_nil (M : MM) : RPo M (.tup []) (canon []) := by rw [← eP_nil]; exact rpo_eP _ _
theorem ord2 (x y : D) : ord [1, 0] [x, y] = [y, x] := rfl
theorem ord1 (x : D) : ord [0] [x] = [x] := rfl
end FgL
/-! T10: a polynomial's number at a place of integers. -/
namespace FgL
open PySem PySem.Spec L2 Fg
open PyProof.Rows hiding St
/-- a monomial's number -/
def ev (e : Mono) : Mono → Int
  | [] => 1
  | p :: m => valS e p.1 ^ p.2.toNat * ev e m
theorem ev_app (e : Mono) : ∀ a b : Mono, ev e (a ++ b) = ev e a * ev e b
  | [], b => by show ev e b = 1 * ev e b; omega
  | p :: a, b => by
    show valS e p.1 ^ p.2.toNat * ev e (a ++ b) = valS e p.1 ^ p.2.toNat * ev e a * ev e b
    rw [ev_app e a b, Int.mul_assoc]
theorem ev_perm {e a b : Mono} (h : a.Perm b) : ev e a = ev e b := by
  induction h with
  | nil => rfl
  | cons p _ ih => show _ * _ = _ * _; rw [ih]
  | swap p q l =>
    show valS e q.1 ^ q.2.toNat * (valS e p.1 ^ p.2.toNat * ev e l) = valS e p.1 ^ p.2.toNat * (valS e q.1 ^ q.2.toNat * ev e l)
    rw [← Int.mul_assoc, ← Int.mul_assoc, Int.mul_comm (valS e q.1 ^ q.2.toNat)]
  | trans _ _ a b => exact a.trans b
theorem ev_put (e : Mono) : ∀ {acc : Mono}, NDS acc → (∀ p ∈ acc, 1 ≤ p.2) → ∀ (s : Str) (n : Int), 1 ≤ n → ev e (putS acc s (valS acc s + n)) = ev e acc * valS e s ^ n.toNat
  | [], _, _, s, n, _ => by
    show valS e s ^ (0 + n).toNat * 1 = 1 * _
    rw [Int.zero_add]; omega
  | p :: acc, hn, hp, s, n, h1 => by
    unfold NDS at hn
    rw [List.map_cons, List.nodup_cons] at hn
    have hp0 := hp p List.mem_cons_self
    have ih := ev_put e hn.2 (fun q hq => hp q (List.mem_cons_of_mem _ hq)) s n h1
    by_cases c : p.1 = s
    · have hv : valS (p :: acc) s = p.2 := by
        unfold valS lookS
        rw [List.find?_cons, decide_eq_true c]; rfl
      have hh : hasMS (p :: acc) s = true := by unfold hasMS; rw [List.any_cons, decide_eq_true c]; rfl
      have hno : hasMS acc s = false := by
        cases q : hasMS acc s with
        | false => rfl
        | true => rw [hasM_iffS, ← c] at q; exact absurd q hn.1
      unfold putS
      rw [if_pos hh, List.map_cons, if_pos c, hv]
      have id_ : acc.map (fun p_1 => if p_1.1 = s then (p_1.1, p.2 + n) else p_1) = acc := by
        have : ∀ q ∈ acc, (fun p_1 : Str × Int => if p_1.1 = s then (p_1.1, p.2 + n) else p_1) q = id q := fun q hq => by
          have hne : q.1 ≠ s := fun z => hn.1 (List.mem_map.mpr ⟨q, hq, z.trans c.symm⟩)
          show (if q.1 = s then _ else q) = q
          rw [if_neg hne]
        rw [List.map_congr_left this, List.map_id]
      rw [id_]
      show valS e p.1 ^ (p.2 + n).toNat * ev e acc = valS e p.1 ^ p.2.toNat * ev e acc * valS e s ^ n.toNat
      rw [show (p.2 + n).toNat = p.2.toNat + n.toNat by omega, Int.pow_add, c, Int.mul_assoc, Int.mul_assoc, Int.mul_comm (valS e s ^ n.toNat) (ev e acc)]
    · have hv : valS (p :: acc) s = valS acc s := by
        unfold valS lookS
        rw [List.find?_cons, decide_eq_false c]
      have hh : hasMS (p :: acc) s = hasMS acc s := by unfold hasMS; rw [List.any_cons, decide_eq_false c, Bool.false_or]
      have hput : putS (p :: acc) s (valS acc s + n) = p :: putS acc s (valS acc s + n) := by
        unfold putS
        rw [hh]
        by_cases k : hasMS acc s = true
        · rw [if_pos k, if_pos k, List.map_cons, if_neg c]
        · rw [if_neg k, if_neg k]; rfl
      rw [hv, hput]
      show valS e p.1 ^ p.2.toNat * ev e (putS acc s (valS acc s + n)) = valS e p.1 ^ p.2.toNat * ev e acc * valS e s ^ n.toNat
      rw [ih, Int.mul_assoc]
theorem ev_mrg (e : Mono) : ∀ {b a : Mono}, NDS a → (∀ p ∈ a, 1 ≤ p.2) → (∀ p ∈ b, 1 ≤ p.2) → ev e (mrg a b) = ev e a * ev e b
  | [], a, _, _, _ => by show ev e a = ev e a * 1; omega
  | p :: b, a, hn, ha, hb => by
    have hp := hb p List.mem_cons_self
    have h0 : 0 ≤ valS a p.1 := by
      unfold valS
      cases q : lookS a p.1 with
      | none => simp
      | some c => have := ha _ (look_someS q); simp; omega
    show ev e (mrg (putS a p.1 (valS a p.1 + p.2)) b) = _
    rw [ev_mrg e (put_ndS hn) (putS_all ha (by dsimp only; omega)) fun q hq => hb q (List.mem_cons_of_mem _ hq), ev_put e hn ha _ _ hp]
    show _ = ev e a * (valS e p.1 ^ p.2.toNat * ev e b)
    rw [Int.mul_assoc]
theorem ev_J {e a b : Mono} (ga : Good a) (gb : Good b) : ev e (J a b) = ev e a * ev e b := by
  rw [← J_srt ga gb, ev_perm (srt_permS _), ev_mrg e ga.nd ga.po gb.po]
theorem ev_mul {e : Mono} {t u : Tab} (ht : Gk t) (hu : Gk u) : sm (mulT t u) (ev e) = sm t (ev e) * sm u (ev e) := by
  rw [mul_sm, Int.mul_comm, ← sm_mul]
  refine sm_congr fun x hx => ?_
  rw [Int.mul_comm, ← sm_mul]
  exact sm_congr fun y hy => ev_J (ht x hx) (hu y hy)
/-- exponents together -/
def dgr (m : Mono) : Nat := (m.map fun p => p.2.toNat).sum
theorem dgr_app (a b : Mono) : dgr (a ++ b) = dgr a + dgr b := by unfold dgr; rw [List.map_append, List.sum_append]
theorem dgr_sm {m : Mono} (h : ∀ p ∈ m, 1 ≤ p.2) : smS m (fun _ => 1) = (dgr m : Int) := by
  induction m with
  | nil => rfl
  | cons p m ih =>
    have := ih fun q hq => h q (List.mem_cons_of_mem _ hq)
    have := h p List.mem_cons_self
    rw [sm_consS]
    unfold dgr at *
    rw [List.map_cons, List.sum_cons]
    omega
theorem ev_le {e : Mono} (he : ∀ s, (valS e s).natAbs ≤ 4) (m : Mono) : (ev e m).natAbs ≤ 4 ^ dgr m := by
  induction m with
  | nil => exact Nat.le_refl _
  | cons p m ih =>
    show (valS e p.1 ^ p.2.toNat * ev e m).natAbs ≤ _
    unfold dgr at *
    rw [List.map_cons, List.sum_cons, Int.natAbs_mul, Int.natAbs_pow, Nat.pow_add]
    exact Nat.mul_le_mul (Nat.pow_le_pow_left (he _) _) ih
end FgL
/-! T12: the same value twice. -/
namespace FgL
open PySem PySem.Spec L2 Fg
open PyProof.Rows hiding St
theorem dep_of {ds : List D} {d : D} (h : d ∈ ds) : dep d ≤ deps ds := by
  induction ds with
  | nil => cases h
  | cons a r ih =>
    rw [deps]
    rcases List.mem_cons.mp h with rfl | h
    · omega
    · have := ih h; omega
theorem p_same : ∀ (n : Nat) {d : D} {M : MM} {Q : QD} {E : QX}, sv d = true → dep d < n → Q (.bl true) M → sp_same_l n [d, d] M Q E
  | 0, _, _, _, _, _, h, _ => absurd h (Nat.not_lt_zero _)
  | n + 1, d, M, Q, E, hs, hd, kk => by
    refine ⟨rfl, ?_⟩
    show w_same_l (sp_same_l n) [some d, some d, none] M _ _
    cases d with
    | non => simp only [w_same_l, w_same_l_1, wOrB, wSeq, wAsg, wDrop, wRet, wRetN, wNext, wIfS, wBl, Fg.wTru, wOp, wUn, wCl, wCons, wNil, wVar, wCst, wTup, wLst, gNm, wCall, List.set_cons_zero, List.set_cons_succ, List.getElem?_cons_zero, List.getElem?_cons_succ, cIsi, tyOf, exists_eq_left', exists_and_left, Option.some.injEq, List.cons.injEq, and_true, true_and, D.int.injEq, D.ref.injEq, D.str.injEq, D.tup.injEq, D.bl.injEq, exists_eq', and_assoc, kt, it1, truD, Bool.false_eq_true, if_false, if_true, dIs, Fg.isNon]; exact kk
    | bl b => simp only [w_same_l, w_same_l_1, w_same_l_2, w_same_l_3, wOrB, wAndV, wSeq, wAsg, wDrop, wRet, wRetN, wNext, wIfS, wBl, Fg.wTru, wOp, wUn, wCl, wCons, wNil, wVar, wCst, wTup, wLst, gNm, wCall, List.set_cons_zero, List.set_cons_succ, List.getElem?_cons_zero, List.getElem?_cons_succ, cIsi, tyOf, exists_eq_left', exists_and_left, Option.some.injEq, List.cons.injEq, and_true, true_and, D.int.injEq, D.ref.injEq, D.str.injEq, D.tup.injEq, D.bl.injEq, exists_eq', and_assoc, kt, it1, truD, Bool.false_eq_true, if_false, if_true, dIs, Fg.isNon, dEq, beq_self_eq_true]; exact kk
    | int i => simp only [w_same_l, w_same_l_1, w_same_l_2, w_same_l_3, w_same_l_4, wOrB, wAndV, wNotV, wSeq, wAsg, wDrop, wRet, wRetN, wNext, wIfS, wBl, Fg.wTru, wOp, wUn, wCl, wCons, wNil, wVar, wCst, wTup, wLst, gNm, wCall, List.set_cons_zero, List.set_cons_succ, List.getElem?_cons_zero, List.getElem?_cons_succ, cIsi, tyOf, exists_eq_left', exists_and_left, Option.some.injEq, List.cons.injEq, and_true, true_and, D.int.injEq, D.ref.injEq, D.str.injEq, D.tup.injEq, D.bl.injEq, exists_eq', and_assoc, kt, it1, truD, Bool.false_eq_true, if_false, if_true, dIs, Fg.isNon, dEq, decide_true, Bool.not_false]; exact kk
    | str s => simp only [w_same_l, w_same_l_1, w_same_l_2, w_same_l_3, wOrB, wAndV, wSeq, wAsg, wDrop, wRet, wRetN, wNext, wIfS, wBl, Fg.wTru, wOp, wUn, wCl, wCons, wNil, wVar, wCst, wTup, wLst, gNm, wCall, List.set_cons_zero, List.set_cons_succ, List.getElem?_cons_zero, List.getElem?_cons_succ, cIsi, tyOf, exists_eq_left', exists_and_left, Option.some.injEq, List.cons.injEq, and_true, true_and, D.int.injEq, D.ref.injEq, D.str.injEq, D.tup.injEq, D.bl.injEq, exists_eq', and_assoc, kt, it1, truD, Bool.false_eq_true, if_false, if_true, dIs, Fg.isNon, dEq, decide_true]; exact kk
    | tup ds =>
      rw [sv, Bool.and_eq_true, decide_eq_true_eq] at hs
      rw [dep] at hd
      simp only [w_same_l, wOrB, wAndV, wFor, wRng1, wSeq, wAsg, wDrop, wRet, wRetN, wNext, wIfS, wBl, Fg.wTru, wOp, wUn, wCl, wCons, wNil, wVar, wCst, wTup, wLst, gNm, wCall, List.set_cons_zero, List.set_cons_succ, List.getElem?_cons_zero, List.getElem?_cons_succ, cIsi, tyOf, exists_eq_left', exists_and_left, Option.some.injEq, List.cons.injEq, and_true, true_and, D.int.injEq, D.ref.injEq, D.str.injEq, D.tup.injEq, D.bl.injEq, exists_eq', and_assoc, kt, it1, truD, Bool.false_eq_true, if_false, if_true, dNe, dEq, beq_self_eq_true, Bool.not_true, cLen, lenD, decide_true, Int.toNat_natCast]
      refine ⟨by omega, by omega, ?_⟩
      refine for_rule (I := fun j ρ M' => ∃ v2, ρ = [some (.tup ds), some (.tup ds), v2] ∧ M' = M) ⟨none, rfl, rfl⟩ (fun j x hx ρ M1 ⟨v2, e1, e2⟩ K hK => ⟨trivial, ?_⟩) fun ρ M1 ⟨v2, e1, e2⟩ => ⟨trivial, ?_⟩
      · subst e1 e2
        obtain ⟨hj, rfl⟩ := upTo_at hx
        have ha : atI ds (0 + (j : Int)) = some ds[j] := by
          rw [Int.zero_add]
          exact at_lt (by omega) (by rw [Int.toNat_natCast]; exact List.getElem?_eq_getElem hj)
        have hm := List.getElem_mem hj
        simp only [wSeq, wAsg, wDrop, wRet, wRetN, wNext, wIfS, wBl, Fg.wTru, wOp, wUn, wCl, wCons, wNil, wVar, wCst, wTup, wLst, gNm, wCall, List.set_cons_zero, List.set_cons_succ, List.getElem?_cons_zero, List.getElem?_cons_succ, wNotB, dIx, exists_eq_left', exists_and_left, Option.some.injEq, List.cons.injEq, and_true, true_and, D.int.injEq, D.ref.injEq, D.str.injEq, D.tup.injEq, D.bl.injEq, exists_eq', and_assoc, ha, exists_eq_left]
        refine p_same n (sv_of hs.2 hm) (by have := dep_of hm; omega) ?_
        refine ⟨true, rfl, ?_⟩
        simp only [Bool.not_true, Bool.false_eq_true, if_false]
        exact hK _ _ ⟨_, rfl, rfl⟩
      · subst e1 e2
        simp only [wSeq, wAsg, wDrop, wRet, wRetN, wNext, wIfS, wBl, Fg.wTru, wOp, wUn, wCl, wCons, wNil, wVar, wCst, wTup, wLst, gNm, wCall, List.set_cons_zero, List.set_cons_succ, List.getElem?_cons_zero, List.getElem?_cons_succ]
        exact kk
    | rol _ => simp [sv] at hs
    | ty _ => simp [sv] at hs
    | ref _ => simp [sv] at hs
end FgL
/-! T22: a dict of names. -/
namespace FgL
open PySem PySem.Spec L2 Fg
open PyProof.Rows hiding St
def nmD (l : List Str) : List (D × D) := l.map fun s => (D.str s, D.bl true)
def addN (l : List Str) (s : Str) : List Str := if s ∈ l then l else l ++ [s]
theorem has_nmD (l : List Str) (s : Str) : hasK (nmD l) (kS s) = true ↔ s ∈ l := by
  unfold hasK nmD
  rw [List.any_map, List.any_eq_true]
  constructor
  · rintro ⟨x, hx, h⟩
    have h : dkey (D.str x) = some (kS s) := of_decide_eq_true h
    have : x = s := kS_inj (Option.some.inj h)
    exact this ▸ hx
  · exact fun h => ⟨s, h, decide_eq_true rfl⟩
theorem put_nmD (l : List Str) (s : Str) : putKD (nmD l) (.str s) (kS s) (.bl true) = nmD (addN l s) := by
  unfold putKD addN
  by_cases c : s ∈ l
  · rw [if_pos ((has_nmD l s).mpr c), if_pos c]
    unfold nmD
    rw [List.map_map]
    exact List.map_congr_left fun x _ => by
      show (if _ then _ else _) = _
      split <;> rfl
  · rw [if_neg (fun h => c ((has_nmD l s).mp h)), if_neg c]
    unfold nmD
    rw [List.map_append]
    rfl
end FgL
/-! T23: dict comprehensions of names. -/
namespace FgL
open PySem PySem.Spec L2 Fg
open PyProof.Rows hiding St
theorem addN_len (l : List Str) (s : Str) : (addN l s).length ≤ l.length + 1 := by
  unfold addN; split
  · omega
  · rw [List.length_append]; exact Nat.le_refl _
theorem kOkN (l : List Str) (s : Str) : KOk (nmD l) (.str s) (kS s) := ⟨rfl, kS_depth s, .inl ⟨rfl, fun p hp => by
  obtain ⟨x, _, rfl⟩ := List.mem_map.mp hp
  rfl⟩⟩
end FgL
/-! T26: dict comprehensions of names over rows as they lie; variables. -/
namespace FgL
open PySem PySem.Spec L2 Fg
open PyProof.Rows hiding St
theorem dcI_pr {α : Type} {R : D → α → Prop} {stay : MM → Prop} {p : Addr} {ρ0 : En} {g : WG} {tk tv : WE} {M0 : MM} (hp : M0 p = none) (f : α → Str) (hst : ∀ M, Ext M0 M → stay M)
    (hs : ∀ d x, R d x → ∀ (M : MM) (K1 : D → D → MM → Prop), Ext M0 M → K1 (.str (f x)) (.bl true) M → g d ρ0 M (fun ρ1 M1 => tk ρ1 M1 (fun x M3 => tv ρ1 M3 (fun y M4 => K1 x y M4) noX) noX) noX) : ∀ {ds : List D} {xs : List α}, Paired R ds xs → ∀ (acc : List Str) (M : MM) (o : Obj) (K : List (D × D) → MM → Prop),
    Ext M0 M → M p = some (.dct o (nmD acc)) → acc.length + xs.length ≤ sizeLine →
    (∀ M' o', Ext M0 M' → M' p = some (.dct o' (nmD ((xs.map f).foldl addN acc))) → K (nmD ((xs.map f).foldl addN acc)) M') → dcI stay p ρ0 g wYes tk tv ds (nmD acc) M K
  | _, _, .nil, acc, M, o, K, ex, hM, _, hk => ⟨hst M ex, hk M o ex hM⟩
  | _, _, .cons (a := d) (b := x) h t, acc, M, o, K, ex, hM, hz, hk => by
    rw [List.length_cons] at hz
    refine ⟨hst M ex, ?_⟩
    refine hs _ _ h M _ ex ⟨o, _, hM, kOkN acc _, by unfold nmD; rw [List.length_map]; omega, fun o' => ?_⟩
    rw [put_nmD]
    have := addN_len acc (f x)
    exact dcI_pr hp f hst hs t (addN acc (f x)) _ o' K (Ext.upd hp ex) up_same (by omega) hk
theorem foldl_addN_len : ∀ (l acc : List Str), (l.foldl addN acc).length ≤ acc.length + l.length
  | [], acc => Nat.le_refl _
  | s :: l, acc => by
    have := foldl_addN_len l (addN acc s)
    have := addN_len acc s
    rw [List.foldl_cons, List.length_cons]
    omega
theorem dc2_pr {α : Type} {R : D → α → Prop} {stay : MM → Prop} {p : Addr} {ρ0 : En} {g : WG} {wi1 : WI} {g1 : WG} {tk tv : WE} {vs1 : List Nat} {M0 : MM} (hp : M0 p = none) (F : α → List Str) (k : Nat) (hst : ∀ M, Ext M0 M → stay M)
    (hs : ∀ d x, R d x → (F x).length ≤ k ∧ ∀ (M : MM) (o : Obj) (acc : List Str) (K : List (D × D) → MM → Prop), Ext M0 M → M p = some (.dct o (nmD acc)) → acc.length + k ≤ sizeLine → (∀ M' o', Ext M0 M' → M' p = some (.dct o' (nmD ((F x).foldl addN acc))) → K (nmD ((F x).foldl addN acc)) M') → g d ρ0 M (fun ρ1 M2 => wi1 ρ1 M2 (fun ds1 st1 M3 => dcI st1 p (wipeD ρ1 vs1) g1 wYes tk tv ds1 (nmD acc) M3 K) noX) noX) : ∀ {ds : List D} {xs : List α}, Paired R ds xs → ∀ (acc : List Str) (M : MM) (o : Obj) (K : MM → Prop),
    Ext M0 M → M p = some (.dct o (nmD acc)) → acc.length + xs.length * k ≤ sizeLine → (∀ M' o', Ext M0 M' → M' p = some (.dct o' (nmD ((xs.map F).flatten.foldl addN acc))) → K M') → dc2D stay p ρ0 g wYes wi1 g1 wYes tk tv vs1 ds (nmD acc) M K
  | _, _, .nil, acc, M, o, K, ex, hM, _, hk => ⟨hst M ex, ⟨o, hM⟩, hk M o ex hM⟩
  | _, _, .cons (a := d) (b := x) h t, acc, M, o, K, ex, hM, hz, hk => by
    rw [List.length_cons, Nat.add_mul, Nat.one_mul] at hz
    obtain ⟨h1, h2⟩ := hs _ _ h
    refine ⟨hst M ex, ?_⟩
    refine h2 M o acc _ ex hM (by omega) fun M' o' ex' e => ?_
    have := foldl_addN_len (F x) acc
    exact dc2_pr hp F k hst hs t _ M' o' K ex' e (by omega) fun M2 o2 x2 e2 => hk M2 o2 x2 (by rw [e2, List.map_cons, List.flatten_cons, List.foldl_append])
/-- the names in a table, in the sequence in which they come -/
def names (t : Tab) : List Str := (t.map fun x => x.1.map (·.1)).flatten.foldl addN []
def n0 (l : List Str) : Mono := l.map fun s => (s, 0)
/-- the variables, rising -/
def vars (t : Tab) : List Str := (srtS (n0 (names t))).map (·.1)
theorem mem_fold : ∀ (l acc : List Str) (s : Str), s ∈ l.foldl addN acc ↔ s ∈ acc ∨ s ∈ l
  | [], acc, s => by simp
  | a :: l, acc, s => by
    rw [List.foldl_cons, mem_fold l]
    unfold addN
    split
    · rename_i h
      constructor
      · rintro (c | c)
        · exact .inl c
        · exact .inr (List.mem_cons_of_mem _ c)
      · rintro (c | c)
        · exact .inl c
        · rcases List.mem_cons.mp c with rfl | c
          · exact .inl h
          · exact .inr c
    · rw [List.mem_append, List.mem_singleton, List.mem_cons]
      constructor
      · rintro ((c | c) | c)
        · exact .inl c
        · exact .inr (.inl c)
        · exact .inr (.inr c)
      · rintro (c | c | c)
        · exact .inl (.inl c)
        · exact .inl (.inr c)
        · exact .inr c
theorem nd_fold : ∀ (l acc : List Str), acc.Nodup → (l.foldl addN acc).Nodup
  | [], acc, h => h
  | a :: l, acc, h => by
    rw [List.foldl_cons]
    refine nd_fold l _ ?_
    unfold addN
    split
    · exact h
    · rename_i q
      refine List.nodup_append.mpr ⟨h, List.nodup_cons.mpr ⟨List.not_mem_nil, List.nodup_nil⟩, fun x hx y hy => ?_⟩
      rw [List.mem_singleton] at hy
      exact fun e => q (by rw [← hy, ← e]; exact hx)
theorem mem_names {t : Tab} {s : Str} : s ∈ names t ↔ ∃ x ∈ t, ∃ c, (s, c) ∈ x.1 := by
  unfold names
  rw [mem_fold, List.mem_flatten]
  constructor
  · rintro (c | ⟨_, h, hs⟩)
    · cases c
    · obtain ⟨x, hx, rfl⟩ := List.mem_map.mp h
      obtain ⟨p, hp, rfl⟩ := List.mem_map.mp hs
      exact ⟨x, hx, p.2, hp⟩
  · rintro ⟨x, hx, c, hc⟩
    exact .inr ⟨_, List.mem_map.mpr ⟨x, hx, rfl⟩, List.mem_map.mpr ⟨_, hc, rfl⟩⟩
theorem nd_names (t : Tab) : (names t).Nodup := nd_fold _ _ List.nodup_nil
theorem n0_nd {l : List Str} (h : l.Nodup) : NDS (n0 l) := by
  unfold NDS n0
  rw [List.map_map]
  rwa [show ((fun x : Str × Int => x.1) ∘ fun s => (s, 0)) = id from rfl, List.map_id]
theorem n0_keys (l : List Str) : (n0 l).map (·.1) = l := by
  unfold n0
  rw [List.map_map]
  exact List.map_id _
/-- sorted() of a row of unlike names -/
theorem ms_n0 {l : List Str} (h : l.Nodup) : (l.map D.str).mergeSort leD = ((srtS (n0 l)).map (·.1)).map D.str := by
  have := ms_keysS (n0_nd h)
  rw [List.map_map]
  show _ = (srtS (n0 l)).map fun p => eS p.1
  rw [← this]
  congr 1
  unfold n0
  rw [List.map_map]
  rfl
theorem sortT_n0 (l : List Str) : SortOkT (l.map D.str) := by
  have := sortT_eS (n0 l)
  unfold n0 at this
  rw [List.map_map] at this
  exact this
theorem vars_eq {l m : List Str} (hl : l.Nodup) (hm : m.Nodup) (h : ∀ s, s ∈ l ↔ s ∈ m) : srtS (n0 l) = srtS (n0 m) :=
  srt_eqS (((List.perm_ext_iff_of_nodup hl hm).mpr h).map _)
theorem mem_vars {t : Tab} {s : Str} : s ∈ vars t ↔ s ∈ names t := by
  unfold vars
  rw [((srt_permS (n0 (names t))).map (·.1)).mem_iff, n0_keys]
theorem nd_vars (t : Tab) : (vars t).Nodup := by
  unfold vars
  rw [((srt_permS (n0 (names t))).map (·.1)).nodup_iff, n0_keys]
  exact nd_names t
theorem paired_len {α β : Type} {R : α → β → Prop} : ∀ {l : List α} {m : List β}, Paired R l m → l.length = m.length
  | _, _, .nil => rfl
  | _, _, .cons _ t => by rw [List.length_cons, List.length_cons, paired_len t]
theorem paired_mem {α β : Type} {R S : α → β → Prop} : ∀ {l : List α} {m : List β}, Paired R l m → (∀ a b, b ∈ m → R a b → S a b) → Paired S l m
  | _, _, .nil, _ => .nil
  | _, _, .cons h t, q => .cons (q _ _ List.mem_cons_self h) (paired_mem t fun a b hb => q a b (List.mem_cons_of_mem _ hb))
theorem p_variables {M : MM} {d : D} {t : Tab} {Q : QD} {E : QX} (hd : RPo M d t) (hz : t.length ≤ 10000) (hl : ∀ x ∈ t, x.1.length ≤ 1000)
    (k : ∀ M', Ext M M' → Q (.tup ((vars t).map D.str)) M') : sp_variables [d] M Q E := by
  refine ⟨rfl, ?_⟩
  show w_variables [some d, none, none, none] M _ _
  obtain ⟨ds, hi, pr⟩ := hd
  obtain ⟨st, hst⟩ := walk_items hi
  simp only [w_variables, wSeq, wAsg, wDrop, wRet, wRetN, wNext, wIfS, wBl, Fg.wTru, wOp, wUn, wCl, wCons, wNil, wVar, wCst, wTup, wLst, gNm, wCall, List.set_cons_zero, List.set_cons_succ, List.getElem?_cons_zero, List.getElem?_cons_succ, wDc2, wWk]
  refine ⟨ds, st, (hst M (Ext.refl M)).1, fun p hp => ?_⟩
  refine dc2_pr (R := fun d x => x ∈ t ∧ RTe M d x) hp (fun x => x.1.map (·.1)) 1000 (fun M' x => (hst M' x).2) (fun d x hx => ⟨by rw [List.length_map]; exact hl x hx.1, fun M2 o acc K ex hM hz2 hK => ?_⟩) (paired_mem pr fun a b hb h => ⟨hb, h⟩) [] _ dct0 _ (Ext.new hp) up_same (by rw [List.length_nil, sizeLine_eq]; omega) fun M' o' x' e => ?_
  · obtain ⟨hm, dm, h1, es, h2, pv⟩ := hx
    refine ⟨_, items_ext ex h1, rfl, ?_⟩
    simp only [wSeq, wAsg, wDrop, wRet, wRetN, wNext, wIfS, wBl, Fg.wTru, wOp, wUn, wCl, wCons, wNil, wVar, wCst, wTup, wLst, gNm, wCall, List.set_cons_zero, List.set_cons_succ, List.getElem?_cons_zero, List.getElem?_cons_succ, gMany, wipeD, wWk]
    obtain ⟨st2, hst2⟩ := walk_items h2
    refine ⟨es, st2, (hst2 M2 ex).1, ?_⟩
    refine dcI_pr (R := RV M) hp (fun y : Str × Int => y.1) (fun M' x => (hst2 M' x).2) (fun e y hy M3 K1 x3 k1 => ?_) pv acc M2 o K ex hM (by have := hl x hm; omega) hK
    exact ⟨_, items_ext x3 hy, rfl, k1⟩
  · simp only [cLst, cSortT, cTuple]
    have nn : (nmD ((t.map fun x => x.1.map (·.1)).flatten.foldl addN [])).map (·.1) = (names t).map D.str := by
      unfold nmD names
      rw [List.map_map]
      rfl
    obtain ⟨sd, hw, _⟩ := walk_dct e
    rw [nn] at hw
    refine ⟨_, _, sd, rfl, fun z e => (by cases e), hw, fun a1 ha1 => ?_⟩
    refine ⟨_, _, rfl, lstOf_ref up_same, sortT_n0 _, fun a2 ha2 => ?_⟩
    rw [ms_n0 (nd_names t)]
    refine ⟨_, _, rfl, items_ref up_same, ?_⟩
    exact k _ (x'.trans ((Ext.new ha1).trans (Ext.new ha2)))
end FgL
/-! V1: tables from the tape, with their heights. -/
namespace FgL
open PySem PySem.Spec L2 Fg
open PyProof.Rows hiding St
structure Dh (t : Tab) (n : Nat) (hgt g : Int) (signs : List Str) : Prop where
  nd : ND t
  al : ∀ x ∈ t, Good x.1 ∧ x.2 ≠ 0 ∧ x.1.length ≤ 3 ∧ (x.2.natAbs : Int) ≤ g ∧ (dgr x.1 : Int) ≤ hgt ∧ ∀ p ∈ x.1, p.1 ∈ signs
  sz : t.length ≤ n
theorem dgr_perm {a b : Mono} (h : a.Perm b) : dgr a = dgr b := by
  unfold dgr
  exact (h.map _).sum_nat
theorem dgr_put {e : Mono} {s : Str} {n : Int} (h : NDS e) (hp : ∀ y ∈ e, 1 ≤ y.2) (h0 : 0 ≤ valS e s) (h1 : 1 ≤ n) : (dgr (putS e s (valS e s + n)) : Int) = dgr e + n := by
  rw [← dgr_sm hp, ← dgr_sm (putS_all (P := fun y => 1 ≤ y.2) hp (by dsimp only; omega)), put_smS h]
  omega
theorem p_table {M : MM} {p qf nl : Addr} {ns : List Int} {signs : List Str} {n : Nat} {hgt g : Int} {Q : QD} {E : QX} (h : TS M p qf ns) (hl : ns.length ≤ 63) (hs : M nl = some (.lst (signs.map D.str))) (hne : nl ≠ p) (s1 : 1 ≤ signs.length) (s6 : signs.length ≤ 6) (hn : n ≤ 100) (g0 : 1000000 ≤ g) (h00 : 0 ≤ hgt) (g1 : g.natAbs.log2 < 8000)
    (k : ∀ a o t M', a ≠ p → M a = none → M' a = some (.dct o (kvs t)) → Dh t n hgt g signs → TS M' p qf ns → Ex p M M' → Q (.ref a) M') : sp_table_l [.ref p, .ref nl, .int n, .int hgt, .int g] M Q E := by
  refine ⟨rfl, ?_⟩
  show w_table_l [some (.ref p), some (.ref nl), some (.int n), some (.int hgt), some (.int g), none, none, none, none, none, none, none, none] M _ _
  (unfold w_table_l; obtain ⟨Tl, hTl⟩ : ∃ x, x = w_table_l_1 := ⟨_, rfl⟩; rw [← hTl]; simp only [wSeq, wAsg, wDrop, wRet, wRetN, wNext, wIfS, wBl, Fg.wTru, wOp, wUn, wCl, wCons, wNil, wVar, wCst, wTup, wLst, gNm, wCall, List.set_cons_zero, List.set_cons_succ, List.getElem?_cons_zero, List.getElem?_cons_succ, wDct0]; subst hTl)
  intro q hq
  have x0 : Ext M (Fg.up M q (.dct dct0 [])) := Ext.new hq
  have h0 : Fg.up M q (.dct dct0 []) q = some (.dct dct0 (kvs [])) := up_same
  have hqp := h.ne hq
  have f0 := h.ext x0
  generalize Fg.up M q (.dct dct0 []) = M0 at x0 h0 f0 ⊢
  (unfold w_table_l_1; obtain ⟨Tl, hTl⟩ : ∃ x, x = w_table_l_2 := ⟨_, rfl⟩; rw [← hTl]; simp only [wSeq, wAsg, wDrop, wRet, wRetN, wNext, wIfS, wBl, Fg.wTru, wOp, wUn, wCl, wCons, wNil, wVar, wCst, wTup, wLst, gNm, wCall, List.set_cons_zero, List.set_cons_succ, List.getElem?_cons_zero, List.getElem?_cons_succ, wFor, wRng1, dAdd]; subst hTl)
  refine p_draw f0 hl (Nat.lt_of_le_of_lt (Nat.log2_le_self _) (by omega)) fun r M1 r0 r1 f1 y1 => ?_
  refine ⟨_, rfl, by omega, by omega, ?_⟩
  have hr : r.toNat ≤ n := by omega
  generalize r.toNat = m at hr ⊢
  have ln : (Fg.upTo 0 m).length = m := by simp [Fg.upTo]
  refine for_rule (I := fun i ρ M' => ∃ v6 v7 v8 v9 v10 v11 v12 w o', ρ = [some (.ref p), some (.ref nl), some (.int n), some (.int hgt), some (.int g), some (.ref q), v6, v7, v8, v9, v10, v11, v12] ∧ TS M' p qf ns ∧ Ex p M M' ∧ M' q = some (.dct o' (kvs w)) ∧ Dh w i hgt g signs)
    ⟨none, none, none, none, none, none, none, [], dct0, rfl, f1, (Ex.of x0).trans (.fr y1), y1.at hqp.1 h0, ⟨List.nodup_nil, (fun _ h => nomatch h), Nat.le_refl _⟩⟩ (fun i x hx ρ M2 ⟨v6, v7, v8, v9, v10, v11, v12, w, o', e1, f2, x2, e2, dw⟩ K hK => ⟨trivial, ?_⟩) fun ρ M2 ⟨v6, v7, v8, v9, v10, v11, v12, w, o', e1, f2, x2, e2, dw⟩ => ⟨trivial, ?_⟩
  · subst e1
    have hi : i < m := by
      have := (List.getElem?_eq_some_iff.mp hx).1
      rwa [ln] at this
    simp only [wSeq, wAsg, wDrop, wRet, wRetN, wNext, wIfS, wBl, Fg.wTru, wOp, wUn, wCl, wCons, wNil, wVar, wCst, wTup, wLst, gNm, wCall, List.set_cons_zero, List.set_cons_succ, List.getElem?_cons_zero, List.getElem?_cons_succ, wFor, wRng1, wDct0]
    intro ep hep
    have hepp := f2.ne hep
    have hqe : q ≠ ep := fun z => by rw [← z, e2] at hep; cases hep
    have hepM : M ep = none := by
      cases z : M ep with
      | none => rfl
      | some o => rw [x2.at hepp.1 z] at hep; cases hep
    have x3 : Ext M2 (Fg.up M2 ep (.dct dct0 [])) := Ext.new hep
    have e3 : Fg.up M2 ep (.dct dct0 []) ep = some (.dct dct0 (kvsS [])) := up_same
    have f3 := f2.ext x3
    have q3 := x3 _ _ e2
    generalize Fg.up M2 ep (.dct dct0 []) = M3 at x3 e3 f3 q3 ⊢
    refine p_draw f3 hl (by decide +kernel) fun r4 M4 t0 t1 f4 y4 => ?_
    refine ⟨_, rfl, by omega, by omega, ?_⟩
    have hr4 : r4.toNat ≤ 3 := by omega
    generalize r4.toNat = n4 at hr4 ⊢
    have ln4 : (Fg.upTo 0 n4).length = n4 := by simp [Fg.upTo]
    have x4 : Ex p M M4 := (x2.trans (.of x3)).trans (.fr y4)
    refine for_rule (I := fun j ρ M' => ∃ lf v9 v11 v12, ∃ e : Mono, ∃ o2, ρ = [some (.ref p), some (.ref nl), some (.int n), some (.int hgt), some (.int g), some (.ref q), some x, some (.ref ep), some (.int (lf : Int)), v9, v10, v11, v12] ∧ TS M' p qf ns ∧ Ex p M M' ∧ M' q = some (.dct o' (kvs w)) ∧ M' ep = some (.dct o2 (kvsS e)) ∧ NDS e ∧ e.length ≤ j ∧ (∀ y ∈ e, 1 ≤ y.2 ∧ y.1 ∈ signs) ∧ 0 ≤ lf ∧ (dgr e : Int) + lf ≤ hgt)
      ⟨hgt, v9, v11, v12, [], dct0, rfl, f4, x4, y4.at hqp.1 q3, y4.at hepp.1 e3, List.nodup_nil, Nat.le_refl _, (fun _ h => nomatch h), h00, by simp [dgr]⟩ (fun j x' hx' ρ M5 ⟨lf, v9, v11, v12, e, o2, g1', f5, x5, q5, e5, ne, le, ae, al0, ald⟩ K2 hK2 => ⟨trivial, ?_⟩) fun ρ M5 ⟨lf, v9, v11, v12, e, o2, g1', f5, x5, q5, e5, ne, le, ae, al0, ald⟩ => ⟨trivial, ?_⟩
    · subst g1'
      have hj : j < n4 := by
        have := (List.getElem?_eq_some_iff.mp hx').1
        rwa [ln4] at this
      simp only [wSeq, wAsg, wDrop, wRet, wRetN, wNext, wIfS, wBl, Fg.wTru, wOp, wUn, wCl, wCons, wNil, wVar, wCst, wTup, wLst, gNm, wCall, List.set_cons_zero, List.set_cons_succ, List.getElem?_cons_zero, List.getElem?_cons_succ]
      refine p_draw f5 hl (by decide +kernel) fun r6 M6 s0 s1' f6 y6 => ?_
      simp only [dAdd, dLe, dOrd]
      have q6 := y6.at hqp.1 q5
      have e6 := y6.at hepp.1 e5
      have x6 := x5.trans (.fr y6)
      by_cases c : 1 + r6 ≤ lf
      · simp only [c, decide_true, if_true, wSeq, wAsg, wDrop, wRet, wRetN, wNext, wIfS, wBl, Fg.wTru, wOp, wUn, wCl, wCons, wNil, wVar, wCst, wTup, wLst, gNm, wCall, List.set_cons_zero, List.set_cons_succ, List.getElem?_cons_zero, List.getElem?_cons_succ]
        have n6 : M6 nl = some (.lst (signs.map D.str)) := x6.at hne hs
        simp only [cLen]
        refine ⟨_, _, rfl, lenD_lst n6, ?_⟩
        rw [List.length_map]
        refine p_draw f6 hl (Nat.lt_of_le_of_lt (Nat.log2_le_self _) (by omega)) fun r7 M7 u0 u1 f7 y7 => ?_
        have n7 := y7.at hne n6
        obtain ⟨d, ha, hd⟩ := at_mem (ds := signs.map D.str) u0 (by rw [List.length_map]; omega)
        obtain ⟨sg, hsg, rfl⟩ := List.mem_map.mp hd
        simp only [dIx, n7]
        refine ⟨r7, _, rfl, ha, ?_⟩
        have e7 := y7.at hepp.1 e6
        simp only [wBm, wSeq, wAsg, wDrop, wRet, wRetN, wNext, wIfS, wBl, Fg.wTru, wOp, wUn, wCl, wCons, wNil, wVar, wCst, wTup, wLst, gNm, wCall, List.set_cons_zero, List.set_cons_succ, List.getElem?_cons_zero, List.getElem?_cons_succ, tyR, e7]
        refine ⟨trivial, get2S (m := sg) e7 ?_⟩
        simp only [dAdd, gSubD, wSeq, wAsg, wDrop, wRet, wRetN, wNext, wIfS, wBl, Fg.wTru, wOp, wUn, wCl, wCons, wNil, wVar, wCst, wTup, wLst, gNm, wCall, List.set_cons_zero, List.set_cons_succ, List.getElem?_cons_zero, List.getElem?_cons_succ, dSub]
        have v0 : 0 ≤ valS e sg := by
          unfold valS
          cases z : lookS e sg with
          | none => simp
          | some c0 => have := (ae _ (look_someS z)).1; simp at this ⊢; omega
        refine setMS (m := sg) e7 (by rw [sizeLine_eq]; omega) fun o3 => ?_
        refine hK2 _ _ ⟨_, _, _, _, putS e sg (valS e sg + (1 + r6)), o3, rfl, f7.upd hepp, Ex.upd hepM (x6.trans (.fr y7)), by rw [up_ne hqe]; exact y7.at hqp.1 q6, up_same, put_ndS ne, ?_, putS_all ae ⟨by dsimp only; omega, hsg⟩, by omega, ?_⟩
        · have := put_lenS e sg (valS e sg + (1 + r6))
          omega
        · rw [dgr_put ne (fun y hy => (ae y hy).1) v0 (by omega)]
          omega
      · simp only [c, decide_false, Bool.false_eq_true, if_false]
        exact hK2 _ _ ⟨_, _, _, _, e, o2, rfl, f6, x6, q6, e6, ne, by omega, ae, al0, ald⟩
    · subst g1'
      rw [ln4] at le
      simp only [wLc, wWk, cLst, cSortT]
      obtain ⟨st, hw, _⟩ := walk_dct e5
      refine ⟨_, _, st, rfl, fun z e => (by cases e), hw, fun a1 ha1 => ?_⟩
      rw [keys_kvsS]
      refine ⟨_, _, rfl, lstOf_ref up_same, sortT_eS e, fun a2 ha2 => ?_⟩
      rw [ms_keysS ne]
      have x7 : Ext M5 (Fg.up (Fg.up M5 a1 (.lst (e.map fun p => eS p.1))) a2 (.lst ((srtS e).map fun p => eS p.1))) := (Ext.new ha1).trans (Ext.new ha2)
      have h7 : Fg.up (Fg.up M5 a1 (.lst (e.map fun p => eS p.1))) a2 (.lst ((srtS e).map fun p => eS p.1)) a2 = some (.lst ((srtS e).map fun p => eS p.1)) := up_same
      generalize Fg.up (Fg.up M5 a1 (.lst (e.map fun p => eS p.1))) a2 (.lst ((srtS e).map fun p => eS p.1)) = M7 at x7 h7 ⊢
      have e7 := x7 _ _ e5
      obtain ⟨st2, hw2, hst2⟩ := walk_lst h7
      refine ⟨_, st2, hw2, fun a3 ha3 => ?_⟩
      have lsr : (srtS e).length = e.length := (srt_permS e).length_eq
      refine lc_map (xs := srtS e) ha3 (fun p => eS p.1) eV (fun _ => true) (fun M' z => hst2 M' (z _ _ h7)) (by rw [sizeLine_eq]; omega) (fun y hy M8 z K1 K0 k1 k0 => ?_) fun M8 x8 h8 => ?_
      · simp only [wYes, wSeq, wAsg, wDrop, wRet, wRetN, wNext, wIfS, wBl, Fg.wTru, wOp, wUn, wCl, wCons, wNil, wVar, wCst, wTup, wLst, gNm, wCall, List.set_cons_zero, List.set_cons_succ, List.getElem?_cons_zero, List.getElem?_cons_succ, wipeD, if_true]
        refine getMS (m := y.1) (z _ _ e7) (look_memS ne ((srt_permS e).mem_iff.mp hy)) _ ?_
        simp only [List.length_cons, List.length_nil, sizeLine_eq]
        exact ⟨by decide, k1 rfl M8 (Ext.refl _)⟩
      · rw [List.filter_eq_self.mpr fun _ _ => rfl] at h8
        simp only [cTuple]
        refine ⟨_, _, rfl, items_ref h8, ?_⟩
        have x58 := x7.trans x8
        have f8 := f5.ext x58
        refine p_factor f8 hl g0 g1 fun z M9 z0 z1 f9 x9 => ?_
        simp only [gSubD, wSeq, wAsg, wDrop, wRet, wRetN, wNext, wIfS, wBl, Fg.wTru, wOp, wUn, wCl, wCons, wNil, wVar, wCst, wTup, wLst, gNm, wCall, List.set_cons_zero, List.set_cons_succ, List.getElem?_cons_zero, List.getElem?_cons_succ]
        have q9 := x9.at hqp.1 (x58 _ _ q5)
        have lw := dw.sz
        refine setM (m := srtS e) q9 (by rw [sizeLine_eq]; omega) fun o3 => hK _ _ ⟨_, _, _, _, _, _, _, put w (srtS e) z, o3, rfl, f9.upd hqp, Ex.upd hq ((x5.trans (.of x58)).trans x9), up_same, ⟨put_nd dw.nd, put_allM dw.al ⟨good_srt ne fun y hy => (ae y hy).1, z0, by dsimp only; omega, z1, by dsimp only; rw [dgr_perm (srt_permS e)]; omega, fun y hy => (ae y ((srt_permS e).mem_iff.mp hy)).2⟩, ?_⟩⟩
        · have := put_len w (srtS e) z
          omega
  · subst e1
    rw [ln] at dw
    simp only [w_table_l_2, wSeq, wAsg, wDrop, wRet, wRetN, wNext, wIfS, wBl, Fg.wTru, wOp, wUn, wCl, wCons, wNil, wVar, wCst, wTup, wLst, gNm, wCall, List.set_cons_zero, List.set_cons_succ, List.getElem?_cons_zero, List.getElem?_cons_succ]
    exact k q o' w M2 hqp.1 hq e2 ⟨dw.nd, dw.al, Nat.le_trans dw.sz hr⟩ f2 x2
end FgL
/-! V2: fractions, a polynomial's value (no program). -/
namespace FgL
open PySem PySem.Spec L2 Fg
open PyProof.Rows hiding St
theorem low_num {n d : Int} (h : 0 < d) : n / (Int.gcd n d : Int) = (Rat.divInt n d).num := by
  rw [Rat.num_divInt, Int.sign_eq_one_of_pos h, Int.one_mul, Int.gcd_comm]
theorem low_den {n d : Int} (h : 0 < d) : d / (Int.gcd n d : Int) = ((Rat.divInt n d).den : Int) := by
  rw [Rat.den_divInt, if_neg (by omega), Int.gcd_comm, Int.natCast_ediv]
  congr 1
  omega
theorem num_le {n d : Int} (h : 0 < d) : (Rat.divInt n d).num.natAbs ≤ n.natAbs := by
  rw [← low_num h]
  exact Int.natAbs_ediv_le_natAbs _ _
theorem den_le {n d : Int} (h : 0 < d) : (Rat.divInt n d).den ≤ d.natAbs := by
  have := low_den (n := n) h
  have h2 : d / (Int.gcd n d : Int) ≤ d := Int.ediv_le_self _ (by omega)
  omega
theorem fr_mul (q : Rat) (n d : Int) : Rat.divInt (q.num * n) (q.den * d) = q * Rat.divInt n d := by
  rw [← Rat.divInt_mul_divInt, Rat.num_divInt_den]
theorem fr_add (q r : Rat) : Rat.divInt (q.num * r.den + r.num * q.den) (q.den * r.den) = q + r := by
  rw [← Rat.divInt_add_divInt _ _ (by have := q.den_nz; omega) (by have := r.den_nz; omega), Rat.num_divInt_den, Rat.num_divInt_den]
theorem fr_mul2 (q r : Rat) : Rat.divInt (q.num * r.num) (q.den * r.den) = q * r := by rw [fr_mul, Rat.num_divInt_den]
theorem rpow_add (a : Rat) (n m : Nat) : a ^ (n + m) = a ^ n * a ^ m := by grind
theorem rpow_mul (a b : Rat) (n : Nat) : (a * b) ^ n = a ^ n * b ^ n := by
  induction n with
  | zero => rw [Rat.pow_zero, Rat.pow_zero, Rat.pow_zero, Rat.one_mul]
  | succ n ih => rw [Rat.pow_succ, Rat.pow_succ, Rat.pow_succ, ih]; grind
/-! ### a monomial's value -/
def evR (ρ : Str → Rat) : Mono → Rat
  | [] => 1
  | p :: m => ρ p.1 ^ p.2.toNat * evR ρ m
section
variable {ρ : Str → Rat}
theorem evR_app : ∀ a b : Mono, evR ρ (a ++ b) = evR ρ a * evR ρ b
  | [], b => by show evR ρ b = 1 * evR ρ b; rw [Rat.one_mul]
  | p :: a, b => by
    show ρ p.1 ^ p.2.toNat * evR ρ (a ++ b) = ρ p.1 ^ p.2.toNat * evR ρ a * evR ρ b
    rw [evR_app a b, Rat.mul_assoc]
theorem evR_perm {a b : Mono} (h : a.Perm b) : evR ρ a = evR ρ b := by
  induction h with
  | nil => rfl
  | cons p _ ih => show _ * _ = _ * _; rw [ih]
  | swap p q l =>
    show ρ q.1 ^ q.2.toNat * (ρ p.1 ^ p.2.toNat * evR ρ l) = ρ p.1 ^ p.2.toNat * (ρ q.1 ^ q.2.toNat * evR ρ l)
    grind
  | trans _ _ a b => exact a.trans b
/-- products over names: the value by the exponents of rows of names -/
def prR (ρ : Str → Rat) (x : Mono) : List Str → Rat
  | [] => 1
  | s :: K => ρ s ^ (valS x s).toNat * prR ρ x K
theorem prR_nil : ∀ K : List Str, prR ρ [] K = 1
  | [] => rfl
  | s :: K => by
    show ρ s ^ (valS [] s).toNat * prR ρ [] K = 1
    rw [prR_nil K, show (valS [] s).toNat = 0 from rfl, Rat.pow_zero, Rat.one_mul]
theorem val_cons_ne {p : Str × Int} {x : Mono} {s : Str} (h : p.1 ≠ s) : valS (p :: x) s = valS x s := by
  unfold valS lookS
  rw [List.find?_cons, decide_eq_false h]
theorem val_cons_eq (p : Str × Int) (x : Mono) : valS (p :: x) p.1 = p.2 := by
  unfold valS lookS
  rw [List.find?_cons, decide_eq_true rfl]; rfl
theorem val_no {x : Mono} {s : Str} (h : s ∉ x.map (·.1)) : valS x s = 0 := by
  unfold valS
  cases q : lookS x s with
  | none => rfl
  | some c => exact absurd (List.mem_map.mpr ⟨_, look_someS q, rfl⟩) h
theorem prR_skip {p : Str × Int} {x : Mono} : ∀ {K : List Str}, p.1 ∉ K → prR ρ (p :: x) K = prR ρ x K
  | [], _ => rfl
  | s :: K, h => by
    have h1 : p.1 ≠ s := fun e => h (by rw [e]; exact List.mem_cons_self)
    show ρ s ^ (valS (p :: x) s).toNat * _ = ρ s ^ (valS x s).toNat * _
    rw [val_cons_ne h1, prR_skip fun z => h (List.mem_cons_of_mem _ z)]
theorem prR_cons {p : Str × Int} {x : Mono} (hx : p.1 ∉ x.map (·.1)) : ∀ {K : List Str}, K.Nodup → p.1 ∈ K → prR ρ (p :: x) K = ρ p.1 ^ p.2.toNat * prR ρ x K
  | [], _, h => nomatch h
  | s :: K, nd, h => by
    obtain ⟨n1, n2⟩ := List.nodup_cons.mp nd
    show ρ s ^ (valS (p :: x) s).toNat * prR ρ (p :: x) K = ρ p.1 ^ p.2.toNat * (ρ s ^ (valS x s).toNat * prR ρ x K)
    by_cases e : p.1 = s
    · subst e
      rw [val_cons_eq, prR_skip n1, val_no hx, show (0 : Int).toNat = 0 from rfl, Rat.pow_zero, Rat.one_mul]
    · have hk : p.1 ∈ K := (List.mem_cons.mp h).resolve_left e
      rw [val_cons_ne e, prR_cons hx n2 hk]
      grind
theorem prR_ev : ∀ {x : Mono}, NDS x → ∀ {K : List Str}, K.Nodup → (∀ p ∈ x, p.1 ∈ K) → prR ρ x K = evR ρ x
  | [], _, K, _, _ => prR_nil K
  | p :: x, hx, K, nd, h => by
    unfold NDS at hx
    rw [List.map_cons, List.nodup_cons] at hx
    rw [prR_cons hx.1 nd (h p List.mem_cons_self), prR_ev hx.2 nd fun q hq => h q (List.mem_cons_of_mem _ hq)]
    rfl
/-- the product of two monomials -/
theorem prR_add {x a b : Mono} (h : ∀ s, valS x s = valS a s + valS b s) (ha : ∀ s, 0 ≤ valS a s) (hb : ∀ s, 0 ≤ valS b s) : ∀ K : List Str, prR ρ x K = prR ρ a K * prR ρ b K
  | [] => by show (1 : Rat) = 1 * 1; grind
  | s :: K => by
    have e : (valS x s).toNat = (valS a s).toNat + (valS b s).toNat := by have := h s; have := ha s; have := hb s; omega
    show ρ s ^ (valS x s).toNat * prR ρ x K = ρ s ^ (valS a s).toNat * prR ρ a K * (ρ s ^ (valS b s).toNat * prR ρ b K)
    rw [prR_add h ha hb K, e, rpow_add]
    grind
def uq {α : Type} [DecidableEq α] : List α → List α
  | [] => []
  | a :: l => if a ∈ l then uq l else a :: uq l
theorem mem_uq {α : Type} [DecidableEq α] : ∀ {l : List α} {x : α}, x ∈ uq l ↔ x ∈ l
  | [], x => Iff.rfl
  | a :: l, x => by
    unfold uq
    split
    · rename_i h
      rw [mem_uq, List.mem_cons]
      exact ⟨.inr, fun q => q.elim (fun e => e ▸ h) id⟩
    · rw [List.mem_cons, List.mem_cons, mem_uq]
theorem nd_uq {α : Type} [DecidableEq α] : ∀ l : List α, (uq l).Nodup
  | [] => List.nodup_nil
  | a :: l => by
    unfold uq
    split
    · exact nd_uq l
    · rename_i h
      exact List.nodup_cons.mpr ⟨fun z => h (mem_uq.mp z), nd_uq l⟩
theorem val_nnR {m : Mono} (g : Good m) (s : Str) : 0 ≤ valS m s := by
  unfold valS
  cases q : lookS m s with
  | none => exact Int.le_refl _
  | some c => have := g.po _ (look_someS q); show 0 ≤ c; simp only at this; omega
theorem val_JR {a b : Mono} (ga : Good a) (gb : Good b) (s : Str) : valS (J a b) s = valS a s + valS b s := by
  rw [val_smS (J_good ga gb).nd, J_sm ga, ← val_smS ga.nd, ← val_smS gb.nd]
theorem evR_J {a b : Mono} (ga : Good a) (gb : Good b) : evR ρ (J a b) = evR ρ a * evR ρ b := by
  let K := uq ((J a b).map (·.1) ++ (a.map (·.1) ++ b.map (·.1)))
  have hk : ∀ {m : Mono}, (∀ s, s ∈ m.map (·.1) → s ∈ (J a b).map (·.1) ++ (a.map (·.1) ++ b.map (·.1))) → ∀ p ∈ m, p.1 ∈ K := fun h p hp => mem_uq.mpr (h _ (List.mem_map.mpr ⟨p, hp, rfl⟩))
  rw [← prR_ev (J_good ga gb).nd (nd_uq _) (hk fun s h => List.mem_append_left _ h), ← prR_ev ga.nd (nd_uq _) (hk fun s h => List.mem_append_right _ (List.mem_append_left _ h)), ← prR_ev gb.nd (nd_uq _) (hk fun s h => List.mem_append_right _ (List.mem_append_right _ h))]
  exact prR_add (val_JR ga gb) (val_nnR ga) (val_nnR gb) K
/-! ### a table's value -/
def smR : Tab → (Mono → Rat) → Rat
  | [], _ => 0
  | x :: t, f => (x.2 : Rat) * f x.1 + smR t f
theorem smR_app (f : Mono → Rat) : ∀ t u : Tab, smR (t ++ u) f = smR t f + smR u f
  | [], u => by show smR u f = 0 + smR u f; grind
  | x :: t, u => by
    show (x.2 : Rat) * f x.1 + smR (t ++ u) f = (x.2 : Rat) * f x.1 + smR t f + smR u f
    rw [smR_app f t u]
    grind
def ksR (g : Mono → Rat) : List Mono → Rat
  | [] => 0
  | m :: K => g m + ksR g K
theorem ksR_add (g h : Mono → Rat) : ∀ K, ksR (fun m => g m + h m) K = ksR g K + ksR h K
  | [] => by show (0 : Rat) = 0 + 0; grind
  | m :: K => by
    show g m + h m + ksR (fun m => g m + h m) K = g m + ksR g K + (h m + ksR h K)
    rw [ksR_add g h K]
    grind
theorem ksR_zero : ∀ K, ksR (fun _ => 0) K = 0
  | [] => rfl
  | m :: K => by
    show (0 : Rat) + ksR (fun _ => 0) K = 0
    rw [ksR_zero K]; grind
theorem ksR_congr {g h : Mono → Rat} : ∀ {K : List Mono}, (∀ m ∈ K, g m = h m) → ksR g K = ksR h K
  | [], _ => rfl
  | m :: K, e => by
    show g m + _ = h m + _
    rw [e m List.mem_cons_self, ksR_congr fun x hx => e x (List.mem_cons_of_mem _ hx)]
theorem ksR_one {c : Rat} {x : Mono} {f : Mono → Rat} : ∀ {K : List Mono}, K.Nodup → x ∈ K → ksR (fun m => (if x = m then c else 0) * f m) K = c * f x
  | [], _, h => nomatch h
  | m :: K, nd, h => by
    obtain ⟨n1, n2⟩ := List.nodup_cons.mp nd
    show (if x = m then c else 0) * f m + _ = _
    by_cases e : x = m
    · rw [if_pos e]
      subst e
      have : ksR (fun m => (if x = m then c else 0) * f m) K = ksR (fun _ => 0) K := ksR_congr fun z hz => by
        rw [if_neg (fun (q : x = z) => n1 (q ▸ hz))]
        grind
      rw [this, ksR_zero]
      grind
    · rw [if_neg e, ksR_one n2 ((List.mem_cons.mp h).resolve_left e)]
      grind
theorem smR_ks {f : Mono → Rat} {K : List Mono} (nd : K.Nodup) : ∀ {t : Tab}, (∀ x ∈ t, x.1 ∈ K) → smR t f = ksR (fun m => ((sm t (dl m) : Int) : Rat) * f m) K
  | [], _ => by
    rw [show smR [] f = 0 from rfl, ← ksR_zero K]
    exact ksR_congr fun m _ => by rw [sm_nil]; show (0 : Rat) = ((0 : Int) : Rat) * f m; grind
  | x :: t, h => by
    show (x.2 : Rat) * f x.1 + smR t f = _
    rw [smR_ks nd fun y hy => h y (List.mem_cons_of_mem _ hy), ← ksR_one (c := (x.2 : Rat)) (f := f) nd (h x List.mem_cons_self), ← ksR_add]
    refine ksR_congr fun m _ => ?_
    rw [sm_cons]
    unfold Fg.dl
    by_cases e : x.1 = m
    · rw [if_pos e, if_pos e, Int.mul_one, Rat.intCast_add]
      grind
    · rw [if_neg e, if_neg e, Int.mul_zero, Int.zero_add]
      grind
theorem smR_eqv {t u : Tab} (e : Eqv t u) (f : Mono → Rat) : smR t f = smR u f := by
  have nd := nd_uq (t.map (·.1) ++ u.map (·.1))
  rw [smR_ks nd (t := t) fun x hx => mem_uq.mpr (List.mem_append_left _ (List.mem_map.mpr ⟨x, hx, rfl⟩)), smR_ks nd (t := u) fun x hx => mem_uq.mpr (List.mem_append_right _ (List.mem_map.mpr ⟨x, hx, rfl⟩))]
  exact ksR_congr fun m _ => by rw [e (dl m)]
theorem smR_row (c : Int) {a : Mono} (ga : Good a) : ∀ {u : Tab}, Gk u → smR (u.map fun y => (J a y.1, c * y.2)) (evR ρ) = (c : Rat) * evR ρ a * smR u (evR ρ)
  | [], _ => by show (0 : Rat) = _ * 0; grind
  | y :: u, h => by
    show ((c * y.2 : Int) : Rat) * evR ρ (J a y.1) + smR (u.map fun y => (J a y.1, c * y.2)) (evR ρ) = (c : Rat) * evR ρ a * ((y.2 : Rat) * evR ρ y.1 + smR u (evR ρ))
    rw [smR_row c ga fun z hz => h z (List.mem_cons_of_mem _ hz), evR_J ga (h y List.mem_cons_self), Rat.intCast_mul]
    grind
theorem smR_mul : ∀ {t u : Tab}, Gk t → Gk u → smR (mulT t u) (evR ρ) = smR t (evR ρ) * smR u (evR ρ)
  | [], u, _, _ => by show (0 : Rat) = 0 * _; grind
  | x :: t, u, ht, hu => by
    have e : mulT (x :: t) u = (u.map fun y => (J x.1 y.1, x.2 * y.2)) ++ mulT t u := by unfold mulT; rw [List.map_cons, List.flatten_cons]
    rw [e, smR_app, smR_row x.2 (ht x List.mem_cons_self) hu, smR_mul (fun y hy => ht y (List.mem_cons_of_mem _ hy)) hu]
    show _ = ((x.2 : Rat) * evR ρ x.1 + smR t (evR ρ)) * _
    grind
/-! ### over one common bottom -/
/-- the product of the numbers' powers, by a table of exponents -/
def pwI (g : Str → Int) : Mono → Int
  | [] => 1
  | p :: m => g p.1 ^ p.2.toNat * pwI g m
/-- a monomial's top over the common bottom -/
def topI (n d : Str → Int) (x : Mono) : Mono → Int
  | [] => 1
  | p :: H => n p.1 ^ (valS x p.1).toNat * d p.1 ^ (p.2 - valS x p.1).toNat * topI n d x H
theorem top_pr {n d : Str → Int} {x : Mono} (h0 : ∀ s, 0 ≤ valS x s) : ∀ {H : Mono}, (∀ p ∈ H, 0 < d p.1 ∧ valS x p.1 ≤ p.2) → ((topI n d x H : Int) : Rat) = (pwI d H : Rat) * prR (fun s => Rat.divInt (n s) (d s)) x (H.map (·.1))
  | [], _ => by show ((1 : Int) : Rat) = ((1 : Int) : Rat) * 1; grind
  | p :: H, h => by
    obtain ⟨h1, h2⟩ := h p List.mem_cons_self
    have ih := top_pr (n := n) (d := d) h0 fun q hq => h q (List.mem_cons_of_mem _ hq)
    have hd : ((d p.1 : Int) : Rat) ≠ 0 := fun e => by
      have := Rat.intCast_inj.mp (show ((d p.1 : Int) : Rat) = ((0 : Int) : Rat) from e)
      omega
    have e : p.2.toNat = (valS x p.1).toNat + (p.2 - valS x p.1).toNat := by have := h0 p.1; omega
    show ((n p.1 ^ (valS x p.1).toNat * d p.1 ^ (p.2 - valS x p.1).toNat * topI n d x H : Int) : Rat) = ((d p.1 ^ p.2.toNat * pwI d H : Int) : Rat) * (Rat.divInt (n p.1) (d p.1) ^ (valS x p.1).toNat * prR (fun s => Rat.divInt (n s) (d s)) x (H.map (·.1)))
    rw [Rat.intCast_mul, Rat.intCast_mul, Rat.intCast_mul, Rat.intCast_pow, Rat.intCast_pow, Rat.intCast_pow, ih, e, rpow_add, Rat.divInt_eq_div]
    have k : (n p.1 : Rat) ^ (valS x p.1).toNat = (d p.1 : Rat) ^ (valS x p.1).toNat * ((n p.1 : Rat) / (d p.1 : Rat)) ^ (valS x p.1).toNat := by
      rw [← rpow_mul]
      congr 1
      grind
    rw [k]
    grind
def totI (n d : Str → Int) (H : Mono) : Tab → Int
  | [] => 0
  | x :: t => x.2 * topI n d x.1 H + totI n d H t
theorem pwI_pos {d : Str → Int} : ∀ {H : Mono}, (∀ p ∈ H, 0 < d p.1) → 0 < pwI d H
  | [], _ => show (0 : Int) < 1 by decide
  | p :: H, h => Int.mul_pos (Int.pow_pos (h p List.mem_cons_self)) (pwI_pos fun q hq => h q (List.mem_cons_of_mem _ hq))
theorem tot_sm {n d : Str → Int} {H : Mono} (nH : NDS H) (hd : ∀ p ∈ H, 0 < d p.1) : ∀ {t : Tab}, Gk t → (∀ x ∈ t, ∀ p ∈ x.1, p.1 ∈ H.map (·.1)) → (∀ x ∈ t, ∀ p ∈ H, valS x.1 p.1 ≤ p.2) →
    ((totI n d H t : Int) : Rat) = (pwI d H : Rat) * smR t (evR fun s => Rat.divInt (n s) (d s))
  | [], _, _, _ => by show ((0 : Int) : Rat) = _ * 0; grind
  | x :: t, g, h1, h2 => by
    have gx := g x List.mem_cons_self
    show ((x.2 * topI n d x.1 H + totI n d H t : Int) : Rat) = (pwI d H : Rat) * ((x.2 : Rat) * evR _ x.1 + smR t _)
    rw [Rat.intCast_add, Rat.intCast_mul, top_pr (val_nnR gx) fun p hp => ⟨hd p hp, h2 x List.mem_cons_self p hp⟩, tot_sm nH hd (fun y hy => g y (List.mem_cons_of_mem _ hy)) (fun y hy => h1 y (List.mem_cons_of_mem _ hy)) (fun y hy => h2 y (List.mem_cons_of_mem _ hy)),
      prR_ev gx.nd nH (h1 x List.mem_cons_self)]
    grind
/-- the law's fraction is the polynomial's value -/
theorem reck {n d : Str → Int} {H : Mono} {t : Tab} (nH : NDS H) (hd : ∀ p ∈ H, 0 < d p.1) (g : Gk t) (h1 : ∀ x ∈ t, ∀ p ∈ x.1, p.1 ∈ H.map (·.1)) (h2 : ∀ x ∈ t, ∀ p ∈ H, valS x.1 p.1 ≤ p.2) :
    Rat.divInt (totI n d H t) (pwI d H) = smR t (evR fun s => Rat.divInt (n s) (d s)) := by
  have hp := pwI_pos hd
  rw [Rat.divInt_eq_div, tot_sm nH hd g h1 h2]
  have : ((pwI d H : Int) : Rat) ≠ 0 := fun e => by
    have := Rat.intCast_inj.mp (show ((pwI d H : Int) : Rat) = ((0 : Int) : Rat) from e)
    omega
  grind
end
end FgL
/-! V3: common divisors, fractions in lowest terms. -/
namespace FgL
open PySem PySem.Spec L2 Fg
open PyProof.Rows hiding St
def nf (q : Rat) : D := .tup [.int q.num, .int q.den]
theorem while_gcd {M : MM} {N : EndsD} {E : QS} : ∀ (n a b : Nat), b < n → N.nx [some (.int (Nat.gcd a b : Nat)), some (.int 0)] M →
    whileD (wBl (wOp dGt (wVar 1) (wCst (.int 0)))) (wSeq (wPar 0 1 (wVar 1) (wOp dMod (wVar 0) (wVar 1))) wNext) n [some (.int (a : Int)), some (.int (b : Int))] M N E
  | 0, _, _, h, _ => absurd h (Nat.not_lt_zero _)
  | n + 1, a, b, h, k => by
    unfold whileD
    simp only [wSeq, wAsg, wDrop, wRet, wRetN, wNext, wIfS, wBl, Fg.wTru, wOp, wUn, wCl, wCons, wNil, wVar, wCst, wTup, wLst, gNm, wCall, List.set_cons_zero, List.set_cons_succ, List.getElem?_cons_zero, List.getElem?_cons_succ, dGt, dOrd, wPar]
    by_cases c : (0 : Int) < (b : Int)
    · simp only [c, decide_true, if_true, dMod, true_and]
      have hb : 0 < b := by omega
      have := Nat.mod_lt a hb
      refine while_gcd n b (a % b) (by omega) ?_
      rw [Nat.gcd_comm, ← Nat.gcd_rec, Nat.gcd_comm]
      exact k
    · simp only [c, decide_false, Bool.false_eq_true, if_false]
      have hb : b = 0 := by omega
      subst hb
      rw [Nat.gcd_zero_right] at k
      exact k
theorem abs_ite (i : Int) : (if i < 0 then -i else i) = (i.natAbs : Int) := by split <;> omega
theorem p_divisor_of {a b : Int} {M : MM} {Q : QD} {E : QX} (k : Q (.int (Int.gcd a b : Nat)) M) : sp_divisor_of [.int a, .int b] M Q E := by
  refine ⟨rfl, ?_⟩
  show w_divisor_of [some (.int a), some (.int b)] M _ _
  (unfold w_divisor_of; obtain ⟨Tl, hTl⟩ : ∃ x, x = w_divisor_of_1 := ⟨_, rfl⟩; rw [← hTl]; simp only [wSeq, wAsg, wDrop, wRet, wRetN, wNext, wIfS, wBl, Fg.wTru, wOp, wUn, wCl, wCons, wNil, wVar, wCst, wTup, wLst, gNm, wCall, List.set_cons_zero, List.set_cons_succ, List.getElem?_cons_zero, List.getElem?_cons_succ, cAbs]; subst hTl)
  refine ⟨a, rfl, ?_⟩
  rw [abs_ite]
  (unfold w_divisor_of_1; obtain ⟨Tl, hTl⟩ : ∃ x, x = w_divisor_of_2 := ⟨_, rfl⟩; rw [← hTl]; simp only [wSeq, wAsg, wDrop, wRet, wRetN, wNext, wIfS, wBl, Fg.wTru, wOp, wUn, wCl, wCons, wNil, wVar, wCst, wTup, wLst, gNm, wCall, List.set_cons_zero, List.set_cons_succ, List.getElem?_cons_zero, List.getElem?_cons_succ, cAbs]; subst hTl)
  refine ⟨b, rfl, ?_⟩
  rw [abs_ite]
  (unfold w_divisor_of_2; obtain ⟨Tl, hTl⟩ : ∃ x, x = w_divisor_of_3 := ⟨_, rfl⟩; rw [← hTl]; simp only [wSeq, wAsg, wDrop, wRet, wRetN, wNext, wIfS, wBl, Fg.wTru, wOp, wUn, wCl, wCons, wNil, wVar, wCst, wTup, wLst, gNm, wCall, List.set_cons_zero, List.set_cons_succ, List.getElem?_cons_zero, List.getElem?_cons_succ, wWhile]; subst hTl)
  refine ⟨b.natAbs + 1, while_gcd _ a.natAbs b.natAbs (Nat.lt_succ_self _) ?_⟩
  simp only [w_divisor_of_3, wSeq, wAsg, wDrop, wRet, wRetN, wNext, wIfS, wBl, Fg.wTru, wOp, wUn, wCl, wCons, wNil, wVar, wCst, wTup, wLst, gNm, wCall, List.set_cons_zero, List.set_cons_succ, List.getElem?_cons_zero, List.getElem?_cons_succ]
  exact k
theorem gcd_dv {n d : Int} (h : 0 < d) (hb : d.natAbs.log2 < 9000) : ∀ z : Int, CDivW z ((Int.gcd n d : Nat) : Int) := fun z => by
  have h1 : 0 < Int.gcd n d := Int.gcd_pos_of_ne_zero_right _ (by omega)
  have h2 : Int.gcd n d ≤ d.natAbs := Nat.le_of_dvd (by omega) (Int.gcd_dvd_natAbs_right _ _)
  have h3 : (Int.gcd n d).log2 < 9000 := by
    rw [Nat.log2_lt (by omega)] at hb ⊢
    omega
  exact ⟨by omega, by rw [Int.natAbs_natCast]; exact h3⟩
theorem p_fraction {n d : Int} {M : MM} {Q : QD} {E : QX} (h : 0 < d) (hb : d.natAbs.log2 < 9000) (k : Q (nf (Rat.divInt n d)) M) : sp_fraction [.int n, .int d] M Q E := by
  refine ⟨rfl, ?_⟩
  show w_fraction [some (.int n), some (.int d), none] M _ _
  have cd := gcd_dv (n := n) h hb
  (unfold w_fraction; obtain ⟨Tl, hTl⟩ : ∃ x, x = w_fraction_1 := ⟨_, rfl⟩; rw [← hTl]; simp only [wSeq, wAsg, wDrop, wRet, wRetN, wNext, wIfS, wBl, Fg.wTru, wOp, wUn, wCl, wCons, wNil, wVar, wCst, wTup, wLst, gNm, wCall, List.set_cons_zero, List.set_cons_succ, List.getElem?_cons_zero, List.getElem?_cons_succ]; subst hTl)
  refine p_divisor_of ?_
  simp only [w_fraction_1, wSeq, wAsg, wDrop, wRet, wRetN, wNext, wIfS, wBl, Fg.wTru, wOp, wUn, wCl, wCons, wNil, wVar, wCst, wTup, wLst, gNm, wCall, List.set_cons_zero, List.set_cons_succ, List.getElem?_cons_zero, List.getElem?_cons_succ, dDiv, cd, true_and, List.length_cons, List.length_nil, low_num h, low_den h]
  exact ⟨by rw [sizeLine_eq]; decide, k⟩
theorem p_divisor_l {a b : Int} {M : MM} {Q : QD} {E : QX} (h0 : 0 ≤ b) (hb : b.natAbs.log2 < 9000) (k : Q (.int (Int.gcd a b : Nat)) M) : sp_divisor_l [.int a, .int b] M Q E := by
  refine ⟨rfl, ?_⟩
  show w_divisor_l [some (.int a), some (.int b), none, none, none, none] M _ _
  have mx : (if 0 - a > a then 0 - a else a) = (a.natAbs : Int) := by split <;> omega
  (unfold w_divisor_l; obtain ⟨Tl, hTl⟩ : ∃ x, x = w_divisor_l_1 := ⟨_, rfl⟩; rw [← hTl]; simp only [wSeq, wAsg, wDrop, wRet, wRetN, wNext, wIfS, wBl, Fg.wTru, wOp, wUn, wCl, wCons, wNil, wVar, wCst, wTup, wLst, gNm, wCall, List.set_cons_zero, List.set_cons_succ, List.getElem?_cons_zero, List.getElem?_cons_succ, dSub, cMax]; subst hTl)
  refine ⟨a, 0 - a, rfl, ?_⟩
  rw [mx]
  (unfold w_divisor_l_1; obtain ⟨Tl, hTl⟩ : ∃ x, x = w_divisor_l_2 := ⟨_, rfl⟩; rw [← hTl]; simp only [wSeq, wAsg, wDrop, wRet, wRetN, wNext, wIfS, wBl, Fg.wTru, wOp, wUn, wCl, wCons, wNil, wVar, wCst, wTup, wLst, gNm, wCall, List.set_cons_zero, List.set_cons_succ, List.getElem?_cons_zero, List.getElem?_cons_succ]; subst hTl)
  obtain ⟨b, rfl⟩ := Int.eq_ofNat_of_zero_le h0
  rw [Int.natAbs_natCast] at hb
  have b9 : b < 2 ^ 9000 := by
    by_cases z : b = 0
    · subst z
      exact Nat.pow_pos (by decide)
    · exact (Nat.log2_lt z).mp hb
  have last : ∀ v4 v5 : Option D, w_divisor_l_3 [some (.int a), some (.int (b : Int)), some (.int (Int.gcd a (b : Int) : Nat)), some (.int 0), v4, v5] M { nx := fun _ M' => Q .non M', rt := Q } fun x _ M' => E x M' := fun v4 v5 => by
    simp only [w_divisor_l_3, wSeq, wAsg, wDrop, wRet, wRetN, wNext, wIfS, wBl, Fg.wTru, wOp, wUn, wCl, wCons, wNil, wVar, wCst, wTup, wLst, gNm, wCall, List.set_cons_zero, List.set_cons_succ, List.getElem?_cons_zero, List.getElem?_cons_succ]
    exact k
  (unfold w_divisor_l_2; obtain ⟨Tl, hTl⟩ : ∃ x, x = w_divisor_l_3 := ⟨_, rfl⟩; rw [← hTl]; simp only [wSeq, wAsg, wDrop, wRet, wRetN, wNext, wIfS, wBl, Fg.wTru, wOp, wUn, wCl, wCons, wNil, wVar, wCst, wTup, wLst, gNm, wCall, List.set_cons_zero, List.set_cons_succ, List.getElem?_cons_zero, List.getElem?_cons_succ, wFor, wRng1]; subst hTl)
  refine ⟨_, rfl, by decide, by decide, ?_⟩
  refine for_rule (I := fun i ρ M' => ∃ hh ll : Nat, ∃ v4 v5, ρ = [some (.int a), some (.int (b : Int)), some (.int (hh : Int)), some (.int (ll : Int)), v4, v5] ∧ M' = M ∧ Nat.gcd hh ll = Int.gcd a (b : Int) ∧ (i % 2 = 0 → ll * 2 ^ (i / 2) ≤ b) ∧ (i % 2 = 1 → ll < hh ∧ hh * 2 ^ (i / 2) ≤ b))
    ⟨a.natAbs, b, none, none, rfl, rfl, rfl, fun _ => by simp, fun z => by simp at z⟩ (fun i x hx ρ M1 ⟨hh, ll, v4, v5, e1, e2, g, i0, i1⟩ K hK => ⟨trivial, ?_⟩) fun ρ M1 ⟨hh, ll, v4, v5, e1, e2, g, i0, i1⟩ => ⟨trivial, ?_⟩
  · subst e1 e2
    simp only [wSeq, wAsg, wDrop, wRet, wRetN, wNext, wIfS, wBl, Fg.wTru, wOp, wUn, wCl, wCons, wNil, wVar, wCst, wTup, wLst, gNm, wCall, List.set_cons_zero, List.set_cons_succ, List.getElem?_cons_zero, List.getElem?_cons_succ, dEq, wBrk]
    by_cases c : (ll : Int) = 0
    · simp only [c, decide_true, if_true]
      have : ll = 0 := by omega
      subst this
      rw [Nat.gcd_zero_right] at g
      rw [g]
      exact last _ _
    · simp only [c, decide_false, Bool.false_eq_true, if_false, cInt, dMod]
      have hl : 0 < ll := by omega
      refine ⟨by omega, ?_⟩
      have ml := Nat.mod_lt hh hl
      refine hK _ _ ⟨ll, hh % ll, _, _, rfl, rfl, ?_, fun z => ?_, fun z => ?_⟩
      · rw [Nat.gcd_comm, ← Nat.gcd_rec, Nat.gcd_comm]
        exact g
      · obtain ⟨j1, j2⟩ := i1 (by omega)
        have e3 : (i + 1) / 2 = i / 2 + 1 := by omega
        rw [e3, Nat.pow_succ]
        have h2 : 2 * (hh % ll) ≤ hh := by
          have := Nat.div_add_mod hh ll
          have : 1 ≤ hh / ll := (Nat.one_le_div_iff hl).mpr (by omega)
          have : ll * 1 ≤ ll * (hh / ll) := Nat.mul_le_mul_left _ this
          omega
        calc hh % ll * (2 ^ (i / 2) * 2) = 2 * (hh % ll) * 2 ^ (i / 2) := by rw [Nat.mul_comm (2 ^ (i / 2)) 2, ← Nat.mul_assoc, Nat.mul_comm (hh % ll) 2]
          _ ≤ hh * 2 ^ (i / 2) := Nat.mul_le_mul_right _ h2
          _ ≤ b := j2
      · have := i0 (by omega)
        have e3 : (i + 1) / 2 = i / 2 := by omega
        rw [e3]
        exact ⟨ml, this⟩
  · subst e1 e2
    rw [show (Fg.upTo 0 (Int.toNat 30000)).length = 30000 by rw [upTo_len]; rfl] at i0
    have := i0 (by decide)
    have z : ll = 0 := by
      by_cases c : ll = 0
      · exact c
      · exfalso
        have h1 : 1 * 2 ^ (30000 / 2) ≤ ll * 2 ^ (30000 / 2) := Nat.mul_le_mul_right _ (by omega)
        have h2 : (2 : Nat) ^ 9000 < 2 ^ (30000 / 2) := Nat.pow_lt_pow_right (by decide) (by decide)
        omega
    subst z
    rw [Nat.gcd_zero_right] at g
    rw [g]
    exact last v4 v5
theorem p_lowest_l {n d : Int} {M : MM} {Q : QD} {E : QX} (h : 0 < d) (hb : d.natAbs.log2 < 9000) (k : Q (nf (Rat.divInt n d)) M) : sp_lowest_l [.int n, .int d] M Q E := by
  refine ⟨rfl, ?_⟩
  show w_lowest_l [some (.int n), some (.int d), none] M _ _
  have cd := gcd_dv (n := n) h hb
  (unfold w_lowest_l; obtain ⟨Tl, hTl⟩ : ∃ x, x = w_lowest_l_1 := ⟨_, rfl⟩; rw [← hTl]; simp only [wSeq, wAsg, wDrop, wRet, wRetN, wNext, wIfS, wBl, Fg.wTru, wOp, wUn, wCl, wCons, wNil, wVar, wCst, wTup, wLst, gNm, wCall, List.set_cons_zero, List.set_cons_succ, List.getElem?_cons_zero, List.getElem?_cons_succ]; subst hTl)
  refine p_divisor_l (by omega) hb ?_
  simp only [w_lowest_l_1, wSeq, wAsg, wDrop, wRet, wRetN, wNext, wIfS, wBl, Fg.wTru, wOp, wUn, wCl, wCons, wNil, wVar, wCst, wTup, wLst, gNm, wCall, List.set_cons_zero, List.set_cons_succ, List.getElem?_cons_zero, List.getElem?_cons_succ, dDiv, cd, true_and, List.length_cons, List.length_nil, low_num h, low_den h]
  exact ⟨by rw [sizeLine_eq]; decide, k⟩
end FgL
/-! V4: a dict of fractions; drawn fractions; powers. -/
namespace FgL
open PySem PySem.Spec L2 Fg
open PyProof.Rows hiding St
/-- a dict from names to fractions -/
def spD (ρ : Str → Rat) (l : List Str) : List (D × D) := l.map fun s => (D.str s, nf (ρ s))
def setR (ρ : Str → Rat) (s : Str) (q : Rat) : Str → Rat := fun x => if x = s then q else ρ x
section
variable {ρ : Str → Rat} {l : List Str}
theorem has_spD (s : Str) : hasK (spD ρ l) (kS s) = true ↔ s ∈ l := by
  unfold hasK spD
  rw [List.any_map, List.any_eq_true]
  constructor
  · rintro ⟨x, hx, h⟩
    have h : dkey (D.str x) = some (kS s) := of_decide_eq_true h
    have : x = s := kS_inj (Option.some.inj h)
    exact this ▸ hx
  · exact fun h => ⟨s, h, decide_eq_true rfl⟩
theorem kOkF (s : Str) : KOk (spD ρ l) (.str s) (kS s) := ⟨rfl, kS_depth s, .inl ⟨rfl, fun p hp => by
  obtain ⟨x, _, rfl⟩ := List.mem_map.mp hp
  rfl⟩⟩
theorem put_spD (s : Str) (q : Rat) : putKD (spD ρ l) (.str s) (kS s) (nf q) = spD (setR ρ s q) (addN l s) := by
  unfold putKD addN
  by_cases c : s ∈ l
  · rw [if_pos ((has_spD s).mpr c), if_pos c]
    unfold spD
    rw [List.map_map]
    refine List.map_congr_left fun x _ => ?_
    show (if dkey (D.str x) = some (kS s) then (D.str x, nf q) else (D.str x, nf (ρ x))) = (D.str x, nf (setR ρ s q x))
    unfold setR
    by_cases e : x = s
    · rw [if_pos (show dkey (D.str x) = some (kS s) by rw [e]; rfl), if_pos e]
    · rw [if_neg (show ¬ dkey (D.str x) = some (kS s) from fun z => e (kS_inj (Option.some.inj z))), if_neg e]
  · rw [if_neg (fun h => c ((has_spD s).mp h)), if_neg c]
    unfold spD
    rw [List.map_append]
    congr 1
    · refine List.map_congr_left fun x hx => ?_
      unfold setR
      rw [if_neg (fun (e : x = s) => c (e ▸ hx))]
    · show [(D.str s, nf q)] = [(D.str s, nf (setR ρ s q s))]
      unfold setR
      rw [if_pos rfl]
theorem look_spD (s : Str) : lookK (spD ρ l) (kS s) = if s ∈ l then some (nf (ρ s)) else none := by
  unfold lookK spD
  induction l with
  | nil => rfl
  | cons x l ih =>
    rw [List.map_cons, List.find?_cons]
    by_cases e : x = s
    · rw [decide_eq_true (show dkey (D.str x) = some (kS s) by rw [e]; rfl), if_pos (by rw [e]; exact List.mem_cons_self)]
      show some (nf (ρ x)) = _
      rw [e]
    · rw [show decide (dkey ((D.str x, nf (ρ x)) : D × D).1 = some (kS s)) = false from decide_eq_false (fun z => e (kS_inj (Option.some.inj z)))]
      simp only
      rw [ih]
      by_cases c : s ∈ l
      · rw [if_pos c, if_pos (List.mem_cons_of_mem _ c)]
      · rw [if_neg c, if_neg (fun z => c ((List.mem_cons.mp z).resolve_left (fun q => e q.symm)))]
theorem getF {M : MM} {a : Addr} {o : Obj} {s : Str} {Q : QD} (h : M a = some (.dct o (spD ρ l))) (hs : s ∈ l) (q : Q (nf (ρ s)) M) : dIx (.ref a) (.str s) M Q := by
  unfold dIx
  simp only [h]
  exact ⟨kS s, nf (ρ s), kOkF s, by rw [look_spD, if_pos hs], q⟩
theorem keys_spD : (spD ρ l).map (·.1) = l.map D.str := by
  unfold spD
  rw [List.map_map]
  rfl
theorem addN_len' (l : List Str) (s : Str) : (addN l s).length ≤ l.length + 1 := addN_len l s
theorem spD_len : (spD ρ l).length = l.length := by
  unfold spD
  rw [List.length_map]
theorem setF {M : MM} {a : Addr} {o : Obj} {s : Str} {q : Rat} {Q : MM → Prop} (h : M a = some (.dct o (spD ρ l))) (hz : l.length < sizeLine) (k : ∀ o', Q (up M a (.dct o' (spD (setR ρ s q) (addN l s))))) : dSetI (.ref a) (.str s) (nf q) M Q := by
  unfold dSetI
  simp only [h]
  refine ⟨kS s, kOkF s, by rw [spD_len]; exact hz, fun o' => ?_⟩
  rw [put_spD]
  exact k o'
end
def topF : Nat := 10 ^ 28
structure FrOk (q : Rat) : Prop where
  num : q.num.natAbs ≤ topF
  den : q.den ≤ topF
theorem frOk_int {z : Int} (h : z.natAbs ≤ 10) : FrOk (z : Rat) := ⟨by rw [Rat.num_intCast]; have : 10 ≤ topF := by decide +kernel
                                                                       omega, by rw [Rat.den_intCast]; decide +kernel⟩
theorem nf_int (z : Int) : nf (z : Rat) = .tup [.int z, .int 1] := by
  unfold nf
  rw [Rat.num_intCast, Rat.den_intCast]
  rfl
theorem log2_by {n k : Nat} (h : n < 2 ^ k) (hk : 0 < k) : n.log2 < k := by
  by_cases z : n = 0
  · rw [z]
    exact hk
  · exact (Nat.log2_lt z).mpr h
theorem p_fraction_l {M : MM} {p qf : Addr} {ns : List Int} {Q : QD} {E : QX} (h : TS M p qf ns) (hl : ns.length ≤ 63) (k : ∀ q M', FrOk q → TS M' p qf ns → Ex p M M' → Q (nf q) M') : sp_fraction_l [.ref p] M Q E := by
  refine ⟨rfl, ?_⟩
  show w_fraction_l [some (.ref p), none, none, none] M _ _
  have c28 : CPow 10 28 := by unfold CPow; decide +kernel
  have e28 : (10 : Int) ^ (28 : Int).toNat = 10000000000000000000000000000 := by decide +kernel
  have tF : (topF : Int) = 10000000000000000000000000000 := by decide +kernel
  have cd3 : ∀ z : Int, CDivW z 3 := fun z => ⟨by decide, by decide⟩
  (unfold w_fraction_l; obtain ⟨Tl, hTl⟩ : ∃ x, x = w_fraction_l_1 := ⟨_, rfl⟩; rw [← hTl]; simp only [wSeq, wAsg, wDrop, wRet, wRetN, wNext, wIfS, wBl, Fg.wTru, wOp, wUn, wCl, wCons, wNil, wVar, wCst, wTup, wLst, gNm, wCall, List.set_cons_zero, List.set_cons_succ, List.getElem?_cons_zero, List.getElem?_cons_succ]; subst hTl)
  refine p_draw h hl (by decide +kernel) fun r M1 r0 r1 f1 y1 => ?_
  (unfold w_fraction_l_1; obtain ⟨Tl, hTl⟩ : ∃ x, x = w_fraction_l_2 := ⟨_, rfl⟩; rw [← hTl]; simp only [wSeq, wAsg, wDrop, wRet, wRetN, wNext, wIfS, wBl, Fg.wTru, wOp, wUn, wCl, wCons, wNil, wVar, wCst, wTup, wLst, gNm, wCall, List.set_cons_zero, List.set_cons_succ, List.getElem?_cons_zero, List.getElem?_cons_succ, dLt, dOrd, dSub, List.length_cons, List.length_nil, Nat.zero_add, Nat.reduceAdd]; subst hTl)
  by_cases c : r < 2
  · simp only [c, decide_true, if_true]
    refine p_draw f1 hl (by decide +kernel) fun r2 M2 t0 t1 f2 y2 => ?_
    refine ⟨by rw [sizeLine_eq]; decide, ?_⟩
    rw [← nf_int]
    exact k _ M2 (frOk_int (by omega)) f2 (.fr (y1.trans y2))
  · simp only [c, decide_false, Bool.false_eq_true, if_false]
    (unfold w_fraction_l_2; obtain ⟨Tl, hTl⟩ : ∃ x, x = w_fraction_l_3 := ⟨_, rfl⟩; rw [← hTl]; simp only [wSeq, wAsg, wDrop, wRet, wRetN, wNext, wIfS, wBl, Fg.wTru, wOp, wUn, wCl, wCons, wNil, wVar, wCst, wTup, wLst, gNm, wCall, List.set_cons_zero, List.set_cons_succ, List.getElem?_cons_zero, List.getElem?_cons_succ, dPow, c28, e28, true_and, dSub, List.length_cons, List.length_nil, Nat.zero_add, Nat.reduceAdd]; subst hTl)
    refine ⟨by rw [sizeLine_eq]; decide, fun a ha => ?_⟩
    have x2 : Ext M1 (Fg.up M1 a (.lst [.int 6, .int 6, .int 1000, .int 10000000000000000000000000000])) := Ext.new ha
    have f2 := f1.ext x2
    have m2 : Fg.up M1 a (.lst [.int 6, .int 6, .int 1000, .int 10000000000000000000000000000]) a = some (.lst [.int 6, .int 6, .int 1000, .int 10000000000000000000000000000]) := up_same
    generalize Fg.up M1 a (.lst [.int 6, .int 6, .int 1000, .int 10000000000000000000000000000]) = M2 at x2 f2 m2 ⊢
    obtain ⟨d, hd, hm⟩ := at_mem (ds := [D.int 6, .int 6, .int 1000, .int 10000000000000000000000000000]) (r := r - 2) (by omega) (by simp only [List.length_cons, List.length_nil]; omega)
    obtain ⟨w, rfl, w1, w2⟩ : ∃ w, d = .int w ∧ 6 ≤ w ∧ w ≤ (topF : Int) := by
      simp only [List.mem_cons, List.not_mem_nil, or_false] at hm
      rcases hm with rfl | rfl | rfl | rfl
      · exact ⟨_, rfl, by omega, by omega⟩
      · exact ⟨_, rfl, by omega, by omega⟩
      · exact ⟨_, rfl, by omega, by omega⟩
      · exact ⟨_, rfl, by omega, by omega⟩
    simp only [dIx, m2]
    refine ⟨r - 2, .int w, rfl, hd, ?_⟩
    have lw : w.natAbs.log2 < 8000 := by
      have : w.natAbs < 2 ^ 100 := Nat.lt_of_le_of_lt (show w.natAbs ≤ topF by omega) (by decide +kernel)
      have := log2_by this (by decide)
      omega
    (unfold w_fraction_l_3; obtain ⟨Tl, hTl⟩ : ∃ x, x = w_fraction_l_4 := ⟨_, rfl⟩; rw [← hTl]; simp only [wSeq, wAsg, wDrop, wRet, wRetN, wNext, wIfS, wBl, Fg.wTru, wOp, wUn, wCl, wCons, wNil, wVar, wCst, wTup, wLst, gNm, wCall, List.set_cons_zero, List.set_cons_succ, List.getElem?_cons_zero, List.getElem?_cons_succ, dDiv, dSub, cd3, true_and]; subst hTl)
    refine p_draw f2 hl lw fun r3 M3 t0 t1 f3 y3 => ?_
    simp only [w_fraction_l_4, wSeq, wAsg, wDrop, wRet, wRetN, wNext, wIfS, wBl, Fg.wTru, wOp, wUn, wCl, wCons, wNil, wVar, wCst, wTup, wLst, gNm, wCall, List.set_cons_zero, List.set_cons_succ, List.getElem?_cons_zero, List.getElem?_cons_succ, dAdd]
    refine p_draw f3 hl lw fun r4 M4 s0 s1 f4 y4 => ?_
    have p0 : 0 < 1 + r4 := by omega
    have hb : (1 + r4).natAbs ≤ topF := by omega
    refine p_lowest_l p0 (by
      have : (1 + r4).natAbs < 2 ^ 100 := Nat.lt_of_le_of_lt hb (by decide +kernel)
      have := log2_by this (by decide)
      omega) ?_
    refine k _ M4 ⟨Nat.le_trans (num_le p0) (by omega), Nat.le_trans (den_le p0) hb⟩ f4 ((Ex.fr y1).trans ((Ex.of x2).trans (.fr (y3.trans y4))))
theorem p_own_raised {M : MM} {a e : Int} {Q : QD} {E : QX} (h0 : 0 ≤ e) (h1 : e ≤ 1000) (ha : a.natAbs < 2 ^ 100) (k : Q (.int (a ^ e.toNat)) M) : sp_own_raised_l [.int a, .int e] M Q E := by
  refine ⟨rfl, ?_⟩
  show w_own_raised_l [some (.int a), some (.int e), none, none] M _ _
  (unfold w_own_raised_l; obtain ⟨Tl, hTl⟩ : ∃ x, x = w_own_raised_l_1 := ⟨_, rfl⟩; rw [← hTl]; simp only [wSeq, wAsg, wDrop, wRet, wRetN, wNext, wIfS, wBl, Fg.wTru, wOp, wUn, wCl, wCons, wNil, wVar, wCst, wTup, wLst, gNm, wCall, List.set_cons_zero, List.set_cons_succ, List.getElem?_cons_zero, List.getElem?_cons_succ]; subst hTl)
  (unfold w_own_raised_l_1; obtain ⟨Tl, hTl⟩ : ∃ x, x = w_own_raised_l_2 := ⟨_, rfl⟩; rw [← hTl]; simp only [wSeq, wAsg, wDrop, wRet, wRetN, wNext, wIfS, wBl, Fg.wTru, wOp, wUn, wCl, wCons, wNil, wVar, wCst, wTup, wLst, gNm, wCall, List.set_cons_zero, List.set_cons_succ, List.getElem?_cons_zero, List.getElem?_cons_succ, wFor, wRng1]; subst hTl)
  refine ⟨_, rfl, by omega, by omega, ?_⟩
  refine for_rule (I := fun i ρ M' => ∃ v3, ρ = [some (.int a), some (.int e), some (.int (a ^ i)), v3] ∧ M' = M) ⟨none, by rw [Int.pow_zero], rfl⟩ (fun i x hx ρ M1 ⟨v3, e1, e2⟩ K hK => ⟨trivial, ?_⟩) fun ρ M1 ⟨v3, e1, e2⟩ => ⟨trivial, ?_⟩
  · subst e1 e2
    have hi : i < e.toNat := (upTo_at hx).1
    simp only [wSeq, wAsg, wDrop, wRet, wRetN, wNext, wIfS, wBl, Fg.wTru, wOp, wUn, wCl, wCons, wNil, wVar, wCst, wTup, wLst, gNm, wCall, List.set_cons_zero, List.set_cons_succ, List.getElem?_cons_zero, List.getElem?_cons_succ, dMul]
    refine ⟨mul_ok ?_ (Nat.lt_trans ha (Nat.pow_lt_pow_right (by decide) (by decide))), hK _ _ ⟨_, by rw [← Int.pow_succ], rfl⟩⟩
    rw [Int.natAbs_pow]
    have g1 : a.natAbs ^ i ≤ (2 ^ 100) ^ i := Nat.pow_le_pow_left (Nat.le_of_lt ha) i
    rw [← Nat.pow_mul] at g1
    have g2 : 2 ^ (100 * i) < 2 ^ 400000 := Nat.pow_lt_pow_right (by decide) (by omega)
    omega
  · subst e1 e2
    rw [upTo_len]
    simp only [w_own_raised_l_2, wSeq, wAsg, wDrop, wRet, wRetN, wNext, wIfS, wBl, Fg.wTru, wOp, wUn, wCl, wCons, wNil, wVar, wCst, wTup, wLst, gNm, wCall, List.set_cons_zero, List.set_cons_succ, List.getElem?_cons_zero, List.getElem?_cons_succ]
    exact k
end FgL
/-! V5: the law's own reckoning. -/
namespace FgL
open PySem PySem.Spec L2 Fg
open PyProof.Rows hiding St
theorem val_putS {H : Mono} (h : NDS H) (s : Str) (c : Int) (x : Str) : valS (putS H s c) x = if x = s then c else valS H x := by
  rw [val_smS (put_ndS h), put_smS h, ← val_smS h]
  unfold dlS
  by_cases e : s = x
  · rw [if_pos e, if_pos e.symm, e]; omega
  · rw [if_neg e, if_neg (fun z => e z.symm)]; omega
theorem key_of {H : Mono} {s : Str} (h : 1 ≤ valS H s) : s ∈ H.map (·.1) := by
  by_cases c : s ∈ H.map (·.1)
  · exact c
  · rw [val_no c] at h
    exact absurd h (by decide)
theorem dgr_take (H : Mono) (i : Nat) : dgr (H.take i) ≤ dgr H := by
  have := dgr_app (H.take i) (H.drop i)
  rw [List.take_append_drop] at this
  omega
theorem dgr_bd {hm : Nat} : ∀ {H : Mono}, (∀ p ∈ H, p.2 ≤ (hm : Int)) → dgr H ≤ H.length * hm
  | [], _ => Nat.zero_le _
  | p :: H, h => by
    have ih := dgr_bd (H := H) fun q hq => h q (List.mem_cons_of_mem _ hq)
    have := h p List.mem_cons_self
    unfold dgr at ih ⊢
    rw [List.map_cons, List.sum_cons, List.length_cons, Nat.add_mul, Nat.one_mul]
    omega
theorem pwI_app (g : Str → Int) : ∀ a b : Mono, pwI g (a ++ b) = pwI g a * pwI g b
  | [], b => by show pwI g b = 1 * pwI g b; omega
  | p :: a, b => by
    show g p.1 ^ p.2.toNat * pwI g (a ++ b) = g p.1 ^ p.2.toNat * pwI g a * pwI g b
    rw [pwI_app g a b, Int.mul_assoc]
theorem topI_app (n d : Str → Int) (x : Mono) : ∀ a b : Mono, topI n d x (a ++ b) = topI n d x a * topI n d x b
  | [], b => by show topI n d x b = 1 * topI n d x b; omega
  | p :: a, b => by
    show n p.1 ^ (valS x p.1).toNat * d p.1 ^ (p.2 - valS x p.1).toNat * topI n d x (a ++ b) = n p.1 ^ (valS x p.1).toNat * d p.1 ^ (p.2 - valS x p.1).toNat * topI n d x a * topI n d x b
    rw [topI_app n d x a b, Int.mul_assoc (n p.1 ^ (valS x p.1).toNat * d p.1 ^ (p.2 - valS x p.1).toNat)]
theorem totI_app (n d : Str → Int) (H : Mono) : ∀ a b : Tab, totI n d H (a ++ b) = totI n d H a + totI n d H b
  | [], b => by show totI n d H b = 0 + totI n d H b; omega
  | x :: a, b => by
    show x.2 * topI n d x.1 H + totI n d H (a ++ b) = x.2 * topI n d x.1 H + totI n d H a + totI n d H b
    rw [totI_app n d H a b]; omega
theorem pwI_le {g : Str → Int} {B : Nat} (hg : ∀ s, (g s).natAbs ≤ B) : ∀ H : Mono, (pwI g H).natAbs ≤ B ^ dgr H
  | [] => Nat.le_refl _
  | p :: H => by
    show (g p.1 ^ p.2.toNat * pwI g H).natAbs ≤ _
    have := pwI_le hg H
    unfold dgr at *
    rw [List.map_cons, List.sum_cons, Int.natAbs_mul, Int.natAbs_pow, Nat.pow_add]
    exact Nat.mul_le_mul (Nat.pow_le_pow_left (hg _) _) this
theorem topI_le {n d : Str → Int} {B : Nat} {x : Mono} (h0 : ∀ s, 0 ≤ valS x s) (hn : ∀ s, (n s).natAbs ≤ B) (hd : ∀ s, (d s).natAbs ≤ B) : ∀ {H : Mono}, (∀ p ∈ H, valS x p.1 ≤ p.2) → (topI n d x H).natAbs ≤ B ^ dgr H
  | [], _ => Nat.le_refl _
  | p :: H, h => by
    show (n p.1 ^ (valS x p.1).toNat * d p.1 ^ (p.2 - valS x p.1).toNat * topI n d x H).natAbs ≤ _
    have ih := topI_le (x := x) h0 hn hd fun q hq => h q (List.mem_cons_of_mem _ hq)
    have e : p.2.toNat = (valS x p.1).toNat + (p.2 - valS x p.1).toNat := by have := h0 p.1; have := h p List.mem_cons_self; omega
    unfold dgr at *
    rw [List.map_cons, List.sum_cons, Int.natAbs_mul, Int.natAbs_mul, Int.natAbs_pow, Int.natAbs_pow, Nat.pow_add, e, Nat.pow_add]
    exact Nat.mul_le_mul (Nat.mul_le_mul (Nat.pow_le_pow_left (hn _) _) (Nat.pow_le_pow_left (hd _) _)) ih
/-- what the reckoning asks of a table -/
structure Rk (t : Tab) (Kn : List Str) (hm : Nat) : Prop where
  gk : Gk t
  ky : ∀ x ∈ t, ∀ p ∈ x.1, p.1 ∈ Kn
  hb : ∀ x ∈ t, ∀ p ∈ x.1, p.2 ≤ (hm : Int)
  kh : Kn.length * hm ≤ 60
  co : ∀ x ∈ t, x.2.natAbs < 2 ^ 400
  kn : Kn.length ≤ 100
theorem topF_100 : topF < 2 ^ 100 := by decide +kernel
theorem topF_60 : topF ^ 60 < 2 ^ 8999 := by decide +kernel
theorem pw_bits {z : Int} {k : Nat} (h : z.natAbs ≤ topF ^ k) (hk : k ≤ 60) : z.natAbs < 2 ^ 8999 := by
  have h1 : topF ^ k ≤ topF ^ 60 := Nat.pow_le_pow_right (by decide +kernel) hk
  have := topF_60
  omega
theorem b9 : (2 : Nat) ^ 8999 < 2 ^ 400000 ∧ (2 : Nat) ^ 400 * 2 ^ 8999 < 2 ^ 400000 ∧ (2 : Nat) ^ 100 < 2 ^ 400000 := by
  rw [← Nat.pow_add]
  exact ⟨Nat.pow_lt_pow_right (by decide) (by decide), Nat.pow_lt_pow_right (by decide) (by decide), Nat.pow_lt_pow_right (by decide) (by decide)⟩
theorem ix01 (q : Rat) : atI [D.int q.num, .int q.den] 0 = some (.int q.num) ∧ atI [D.int q.num, .int q.den] 1 = some (.int q.den) := ⟨rfl, rfl⟩
theorem ixN0 {q : Rat} {M : MM} {Q : QD} (k : Q (.int q.num) M) : dIx (nf q) (.int 0) M Q := ⟨0, _, rfl, (ix01 q).1, k⟩
theorem ixN1 {q : Rat} {M : MM} {Q : QD} (k : Q (.int q.den) M) : dIx (nf q) (.int 1) M Q := ⟨1, _, rfl, (ix01 q).2, k⟩
theorem p_reckoned_l {M : MM} {a : Addr} {o : Obj} {ρ : Str → Rat} {l Kn : List Str} {t : Tab} {hm : Nat} {Q : QD} {E : QX} (hs : M a = some (.dct o (spD ρ l))) (hf : ∀ s, FrOk (ρ s)) (R : Rk t Kn hm) (hkl : ∀ s ∈ Kn, s ∈ l)
    (k : ∀ M', Ext M M' → Q (nf (smR t (evR ρ))) M') : sp_reckoned_l [eP t, .ref a] M Q E := by
  refine ⟨rfl, ?_⟩
  show w_reckoned_l [some (eP t), some (.ref a), none, none, none, none, none, none, none, none] M _ _
  have hn : ∀ s, ((ρ s).num).natAbs ≤ topF := fun s => (hf s).num
  have hd : ∀ s, (((ρ s).den : Nat) : Int).natAbs ≤ topF := fun s => by rw [Int.natAbs_natCast]; exact (hf s).den
  have hdp : ∀ s, 0 < (((ρ s).den : Nat) : Int) := fun s => by have := (ρ s).den_pos; omega
  have t100 := topF_100
  obtain ⟨b9a, b9b, b9c⟩ := b9
  (unfold w_reckoned_l; obtain ⟨Tl, hTl⟩ : ∃ x, x = w_reckoned_l_1 := ⟨_, rfl⟩; rw [← hTl]; simp only [wSeq, wAsg, wDrop, wRet, wRetN, wNext, wIfS, wBl, Fg.wTru, wOp, wUn, wCl, wCons, wNil, wVar, wCst, wTup, wLst, gNm, wCall, List.set_cons_zero, List.set_cons_succ, List.getElem?_cons_zero, List.getElem?_cons_succ, wDct0]; subst hTl)
  intro h hh
  have x0 : Ext M (Fg.up M h (.dct dct0 [])) := Ext.new hh
  have m0 : Fg.up M h (.dct dct0 []) h = some (.dct dct0 (kvsS [])) := up_same
  generalize Fg.up M h (.dct dct0 []) = M0 at x0 m0 ⊢
  (unfold w_reckoned_l_1; obtain ⟨Tl, hTl⟩ : ∃ x, x = w_reckoned_l_2 := ⟨_, rfl⟩; rw [← hTl]; simp only [wSeq, wAsg, wDrop, wRet, wRetN, wNext, wIfS, wBl, Fg.wTru, wOp, wUn, wCl, wCons, wNil, wVar, wCst, wTup, wLst, gNm, wCall, List.set_cons_zero, List.set_cons_succ, List.getElem?_cons_zero, List.getElem?_cons_succ, wFor, wWk]; subst hTl)
  refine ⟨t.map eT, fun _ => True, rfl, ?_⟩
  refine for_rule (I := fun i ρ' M' => ∃ v3 v4 v6 v7 v9, ∃ (H : Mono) (o' : Obj), ρ' = [some (eP t), some (.ref a), some (.ref h), v3, v4, none, v6, v7, none, v9] ∧ M' h = some (.dct o' (kvsS H)) ∧ Ext M M' ∧ NDS H ∧ (∀ p ∈ H, 1 ≤ p.2 ∧ p.2 ≤ (hm : Int) ∧ p.1 ∈ Kn) ∧ ∀ x ∈ t.take i, ∀ p ∈ x.1, p.2 ≤ valS H p.1)
    ⟨none, none, none, none, none, [], dct0, rfl, m0, x0, List.nodup_nil, (fun _ z => nomatch z), fun x hx => by rw [List.take_zero] at hx; cases hx⟩ (fun i d hx ρ' M1 ⟨v3, v4, v6, v7, v9, H, o', e1, e2, x1, nH, aH, cH⟩ K hK => ⟨trivial, ?_⟩) fun ρ' M1 ⟨v3, v4, v6, v7, v9, H, o', e1, e2, x1, nH, aH, cH⟩ => ⟨trivial, ?_⟩
  · subst e1
    rw [List.getElem?_map] at hx
    obtain ⟨x, hx2, rfl⟩ := Option.map_eq_some_iff.mp hx
    have hxm := List.mem_of_getElem? hx2
    have tk : t.take (i + 1) = t.take i ++ [x] := by rw [List.take_add_one, hx2]; rfl
    refine ⟨[eM x.1, .int x.2], rfl, rfl, ?_⟩
    simp only [gMany, wSeq, wAsg, wDrop, wRet, wRetN, wNext, wIfS, wBl, Fg.wTru, wOp, wUn, wCl, wCons, wNil, wVar, wCst, wTup, wLst, gNm, wCall, List.set_cons_zero, List.set_cons_succ, List.getElem?_cons_zero, List.getElem?_cons_succ, wFor, wWk]
    refine ⟨x.1.map eV, fun _ => True, rfl, ?_⟩
    refine for_rule (I := fun j ρ' M' => ∃ v4 v9, ∃ (H : Mono) (o' : Obj), ρ' = [some (eP t), some (.ref a), some (.ref h), v3, v4, none, some (eM x.1), some (.int x.2), none, v9] ∧ M' h = some (.dct o' (kvsS H)) ∧ Ext M M' ∧ NDS H ∧ (∀ p ∈ H, 1 ≤ p.2 ∧ p.2 ≤ (hm : Int) ∧ p.1 ∈ Kn) ∧ (∀ x ∈ t.take i, ∀ p ∈ x.1, p.2 ≤ valS H p.1) ∧ ∀ p ∈ x.1.take j, p.2 ≤ valS H p.1)
      ⟨v4, v9, H, o', rfl, e2, x1, nH, aH, cH, fun p hp => by rw [List.take_zero] at hp; cases hp⟩ (fun j d hy ρ' M2 ⟨v4, v9, H, o', e1, e2, x2, nH, aH, cH, cJ⟩ K2 hK2 => ⟨trivial, ?_⟩) fun ρ' M2 ⟨v4, v9, H, o', e1, e2, x2, nH, aH, cH, cJ⟩ => ⟨trivial, ?_⟩
    · subst e1
      rw [List.getElem?_map] at hy
      obtain ⟨y, hy2, rfl⟩ := Option.map_eq_some_iff.mp hy
      have hym := List.mem_of_getElem? hy2
      have py := (R.gk x hxm).po y hym
      have by_ := R.hb x hxm y hym
      have tk2 : x.1.take (j + 1) = x.1.take j ++ [y] := by rw [List.take_add_one, hy2]; rfl
      refine ⟨[.str y.1, .int y.2], rfl, rfl, ?_⟩
      simp only [gMany, wSeq, wAsg, wDrop, wRet, wRetN, wNext, wIfS, wBl, Fg.wTru, wOp, wUn, wCl, wCons, wNil, wVar, wCst, wTup, wLst, gNm, wCall, List.set_cons_zero, List.set_cons_succ, List.getElem?_cons_zero, List.getElem?_cons_succ, cMax, wBm, tyR, e2, gSubD]
      refine ⟨trivial, get2S (m := y.1) e2 ?_⟩
      refine ⟨_, _, rfl, ?_⟩
      have vb : valS H y.1 ≤ (hm : Int) := by
        unfold valS
        cases q : lookS H y.1 with
        | none => show (0 : Int) ≤ hm; omega
        | some c => exact (aH _ (look_someS q)).2.1
      have mx : (if valS H y.1 > y.2 then valS H y.1 else y.2) = max y.2 (valS H y.1) := by split <;> omega
      rw [mx]
      have lH : H.length ≤ 100 := by
        have := nodup_le (l := H.map (·.1)) (m := Kn) nH fun s hs => by
          obtain ⟨p, hp, rfl⟩ := List.mem_map.mp hs
          exact (aH p hp).2.2
        rw [List.length_map] at this
        have := R.kn
        omega
      refine setMS (m := y.1) e2 (by rw [sizeLine_eq]; omega) fun o2 => ?_
      have vp := val_putS nH y.1 (max y.2 (valS H y.1))
      refine hK2 _ _ ⟨_, _, putS H y.1 (max y.2 (valS H y.1)), o2, rfl, up_same, Ext.upd hh x2, put_ndS nH, putS_all aH ⟨by dsimp only; omega, by dsimp only; omega, R.ky x hxm y hym⟩, fun x' hx' p hp => ?_, fun p hp => ?_⟩
      · have := cH x' hx' p hp
        rw [vp]
        split
        · rename_i z
          rw [z] at this
          omega
        · exact this
      · rw [tk2] at hp
        rw [vp]
        rcases List.mem_append.mp hp with hp | hp
        · have := cJ p hp
          split
          · rename_i z
            rw [z] at this
            omega
          · exact this
        · rw [List.mem_singleton] at hp
          rw [hp, if_pos rfl]
          omega
    · subst e1
      rw [List.length_map, List.take_length] at cJ
      refine hK _ _ ⟨_, _, _, _, _, H, o', rfl, e2, x2, nH, aH, fun x' hx' p hp => ?_⟩
      rw [tk] at hx'
      rcases List.mem_append.mp hx' with hx' | hx'
      · exact cH x' hx' p hp
      · rw [List.mem_singleton] at hx'
        subst hx'
        exact cJ p hp
  · subst e1
    rw [List.length_map, List.take_length] at cH
    have lH : H.length ≤ Kn.length := by
      have := nodup_le (l := H.map (·.1)) (m := Kn) nH fun s hs => by
        obtain ⟨p, hp, rfl⟩ := List.mem_map.mp hs
        exact (aH p hp).2.2
      rwa [List.length_map] at this
    have dH : dgr H ≤ 60 := by
      have h1 := dgr_bd fun p hp => (aH p hp).2.1
      have h2 : H.length * hm ≤ Kn.length * hm := Nat.mul_le_mul_right _ lH
      have := R.kh
      omega
    have vH : ∀ p ∈ H, valS H p.1 = p.2 := fun p hp => by
      unfold valS
      rw [look_memS nH (c := p.2) hp]; rfl
    have le_H : ∀ x ∈ t, ∀ p ∈ H, valS x.1 p.1 ≤ p.2 := fun x hx p hp => by
      cases q : lookS x.1 p.1 with
      | none =>
        unfold valS
        rw [q]
        have := (aH p hp).1
        show (0 : Int) ≤ _
        omega
      | some c =>
        have := cH x hx _ (look_someS q)
        simp only at this
        rw [vH p hp] at this
        unfold valS
        rw [q]
        exact this
    have kl : ∀ p ∈ H, p.1 ∈ l := fun p hp => hkl _ (aH p hp).2.2
    have pb : ∀ i, (pwI (fun s => ((ρ s).den : Int)) (H.take i)).natAbs < 2 ^ 8999 := fun i => pw_bits (pwI_le hd _) (Nat.le_trans (dgr_take H i) dH)
    have s1 := x1 _ _ hs
    have e60 : ∀ p ∈ H, 0 ≤ p.2 ∧ p.2 ≤ 60 := fun p hp => by
      have h1 : p.2.toNat ≤ dgr H := by
        have := dgr_app (H.takeWhile fun q => decide (q ≠ p)) (H.dropWhile fun q => decide (q ≠ p))
        clear this
        have go : ∀ {H : Mono}, p ∈ H → p.2.toNat ≤ dgr H := fun {H} => by
          induction H with
          | nil => intro z; cases z
          | cons q H ih =>
            intro z
            unfold dgr at ih ⊢
            rw [List.map_cons, List.sum_cons]
            rcases List.mem_cons.mp z with z | z
            · rw [z]; omega
            · have := ih z; omega
        exact go hp
      have := (aH p hp).1
      omega
    (unfold w_reckoned_l_2; obtain ⟨Tl, hTl⟩ : ∃ x, x = w_reckoned_l_3 := ⟨_, rfl⟩; rw [← hTl]; simp only [wSeq, wAsg, wDrop, wRet, wRetN, wNext, wIfS, wBl, Fg.wTru, wOp, wUn, wCl, wCons, wNil, wVar, wCst, wTup, wLst, gNm, wCall, List.set_cons_zero, List.set_cons_succ, List.getElem?_cons_zero, List.getElem?_cons_succ]; subst hTl)
    (unfold w_reckoned_l_3; obtain ⟨Tl, hTl⟩ : ∃ x, x = w_reckoned_l_4 := ⟨_, rfl⟩; rw [← hTl]; simp only [wSeq, wAsg, wDrop, wRet, wRetN, wNext, wIfS, wBl, Fg.wTru, wOp, wUn, wCl, wCons, wNil, wVar, wCst, wTup, wLst, gNm, wCall, List.set_cons_zero, List.set_cons_succ, List.getElem?_cons_zero, List.getElem?_cons_succ, wFor, wWk]; subst hTl)
    obtain ⟨st, hw, hst⟩ := walk_dct e2
    refine ⟨_, st, hw, ?_⟩
    rw [keys_kvsS]
    refine for_rule (I := fun i ρ' M' => ∃ v4, ρ' = [some (eP t), some (.ref a), some (.ref h), some (.int (pwI (fun s => ((ρ s).den : Int)) (H.take i))), v4, none, v6, v7, none, v9] ∧ M' = M1) ⟨v4, by rw [List.take_zero]; rfl, rfl⟩ (fun i d hx ρ' M2 ⟨v4, e3, e4⟩ K hK => ⟨by rw [e4]; exact hst _ e2, ?_⟩) fun ρ' M2 ⟨v4, e3, e4⟩ => ⟨by rw [e4]; exact hst _ e2, ?_⟩
    · subst e3 e4
      rw [List.getElem?_map] at hx
      obtain ⟨p, hp2, rfl⟩ := Option.map_eq_some_iff.mp hx
      have hpm := List.mem_of_getElem? hp2
      have tk : H.take (i + 1) = H.take i ++ [p] := by rw [List.take_add_one, hp2]; rfl
      simp only [wSeq, wAsg, wDrop, wRet, wRetN, wNext, wIfS, wBl, Fg.wTru, wOp, wUn, wCl, wCons, wNil, wVar, wCst, wTup, wLst, gNm, wCall, List.set_cons_zero, List.set_cons_succ, List.getElem?_cons_zero, List.getElem?_cons_succ, eS]
      refine getF (s := p.1) s1 (kl p hpm) ?_
      refine ixN1 ?_
      refine getMS (m := p.1) e2 (look_memS nH hpm) _ ?_
      refine p_own_raised (e60 p hpm).1 (by have := (e60 p hpm).2; omega) (Nat.lt_of_le_of_lt (hd _) t100) ?_
      have pe : pwI (fun s => ((ρ s).den : Int)) (H.take i) * ((ρ p.1).den : Int) ^ p.2.toNat = pwI (fun s => ((ρ s).den : Int)) (H.take (i + 1)) := by
        rw [tk, pwI_app]
        congr 1
        show _ = _ * (1 : Int)
        rw [Int.mul_one]
      have hpow : (((ρ p.1).den : Int) ^ p.2.toNat).natAbs < 2 ^ 8999 := pw_bits (k := p.2.toNat) (by rw [Int.natAbs_pow]; exact Nat.pow_le_pow_left (hd _) _) (by have := e60 p hpm; omega)
      simp only [dMul]
      refine ⟨mul_ok (Nat.lt_trans (pb i) b9a) (Nat.lt_trans hpow b9a), ?_⟩
      rw [pe]
      exact hK _ _ ⟨_, rfl, rfl⟩
    · subst e3 e4
      rw [List.length_map, List.take_length]
      (unfold w_reckoned_l_4; obtain ⟨Tl, hTl⟩ : ∃ x, x = w_reckoned_l_5 := ⟨_, rfl⟩; rw [← hTl]; simp only [wSeq, wAsg, wDrop, wRet, wRetN, wNext, wIfS, wBl, Fg.wTru, wOp, wUn, wCl, wCons, wNil, wVar, wCst, wTup, wLst, gNm, wCall, List.set_cons_zero, List.set_cons_succ, List.getElem?_cons_zero, List.getElem?_cons_succ]; subst hTl)
      (unfold w_reckoned_l_5; obtain ⟨Tl, hTl⟩ : ∃ x, x = w_reckoned_l_6 := ⟨_, rfl⟩; rw [← hTl]; simp only [wSeq, wAsg, wDrop, wRet, wRetN, wNext, wIfS, wBl, Fg.wTru, wOp, wUn, wCl, wCons, wNil, wVar, wCst, wTup, wLst, gNm, wCall, List.set_cons_zero, List.set_cons_succ, List.getElem?_cons_zero, List.getElem?_cons_succ, wFor, wWk]; subst hTl)
      refine ⟨t.map eT, fun _ => True, rfl, ?_⟩
      refine for_rule (I := fun i ρ' M' => ∃ v4 v6 v7 v8 v9, ρ' = [some (eP t), some (.ref a), some (.ref h), some (.int (pwI (fun s => ((ρ s).den : Int)) H)), v4, some (.int (totI (fun s => (ρ s).num) (fun s => ((ρ s).den : Int)) H (t.take i))), v6, v7, v8, v9] ∧ Ext M2 M') ⟨_, _, _, _, _, by rw [List.take_zero]; rfl, Ext.refl _⟩ (fun i d hx ρ' M3 ⟨v4, v6, v7, v8, v9, e5, x3⟩ K hK => ⟨trivial, ?_⟩) fun ρ' M3 ⟨v4, v6, v7, v8, v9, e5, x3⟩ => ⟨trivial, ?_⟩
      · subst e5
        rw [List.getElem?_map] at hx
        obtain ⟨x, hx2, rfl⟩ := Option.map_eq_some_iff.mp hx
        have hxm := List.mem_of_getElem? hx2
        have gx := R.gk x hxm
        have tk : t.take (i + 1) = t.take i ++ [x] := by rw [List.take_add_one, hx2]; rfl
        refine ⟨[eM x.1, .int x.2], rfl, rfl, ?_⟩
        simp only [gMany, wSeq, wAsg, wDrop, wRet, wRetN, wNext, wIfS, wBl, Fg.wTru, wOp, wUn, wCl, wCons, wNil, wVar, wCst, wTup, wLst, gNm, wCall, List.set_cons_zero, List.set_cons_succ, List.getElem?_cons_zero, List.getElem?_cons_succ, wFor, wWk, cDict]
        refine ⟨_, kvsS x.1, rfl, ?_, pairsOk_kvsS x.1, fun ed od hed => ?_⟩
        · show some (x.1.map eV) = _
          unfold kvsS
          rw [List.map_map]
          rfl
        rw [putAll_ndS gx.nd]
        have x4 : Ext M3 (Fg.up M3 ed (.dct od (kvsS x.1))) := Ext.new hed
        have m4 : Fg.up M3 ed (.dct od (kvsS x.1)) ed = some (.dct od (kvsS x.1)) := up_same
        generalize Fg.up M3 ed (.dct od (kvsS x.1)) = M4 at x4 m4 ⊢
        have h4 := x4 _ _ (x3 _ _ e2)
        have s4 := x4 _ _ (x3 _ _ s1)
        obtain ⟨st, hw, hst⟩ := walk_dct h4
        refine ⟨_, st, hw, ?_⟩
        rw [keys_kvsS]
        refine for_rule (I := fun j ρ' M' => ∃ v4 v9, ρ' = [some (eP t), some (.ref a), some (.ref h), some (.int (pwI (fun s => ((ρ s).den : Int)) H)), v4, some (.int (totI (fun s => (ρ s).num) (fun s => ((ρ s).den : Int)) H (t.take i))), some (eM x.1), some (.int (x.2 * topI (fun s => (ρ s).num) (fun s => ((ρ s).den : Int)) x.1 (H.take j))), some (.ref ed), v9] ∧ M' = M4) ⟨v4, v9, by rw [List.take_zero, show topI (fun s => (ρ s).num) (fun s => ((ρ s).den : Int)) x.1 [] = 1 from rfl, Int.mul_one], rfl⟩ (fun j d hy ρ' M5 ⟨v4, v9, e6, e7⟩ K2 hK2 => ⟨by rw [e7]; exact hst _ h4, ?_⟩) fun ρ' M5 ⟨v4, v9, e6, e7⟩ => ⟨by rw [e7]; exact hst _ h4, ?_⟩
        · subst e6 e7
          rw [List.getElem?_map] at hy
          obtain ⟨p, hp2, rfl⟩ := Option.map_eq_some_iff.mp hy
          have hpm := List.mem_of_getElem? hp2
          have tk2 : H.take (j + 1) = H.take j ++ [p] := by rw [List.take_add_one, hp2]; rfl
          have v0 := val_nnR gx p.1
          have v1 := le_H x hxm p hpm
          have v6_ := e60 p hpm
          have tb : (topI (fun s => (ρ s).num) (fun s => ((ρ s).den : Int)) x.1 (H.take j)).natAbs < 2 ^ 8999 := pw_bits (topI_le (val_nnR gx) hn hd fun q hq => le_H x hxm q (List.mem_of_mem_take hq)) (Nat.le_trans (dgr_take H j) dH)
          have nb : (x.2 * topI (fun s => (ρ s).num) (fun s => ((ρ s).den : Int)) x.1 (H.take j)).natAbs < 2 ^ 400000 := by
            rw [Int.natAbs_mul]
            exact Nat.lt_of_le_of_lt (Nat.mul_le_mul (Nat.le_of_lt (R.co x hxm)) (Nat.le_of_lt tb)) b9b
          have hp1 : ((ρ p.1).num ^ (valS x.1 p.1).toNat).natAbs < 2 ^ 8999 := pw_bits (k := (valS x.1 p.1).toNat) (by rw [Int.natAbs_pow]; exact Nat.pow_le_pow_left (hn _) _) (by omega)
          have hp3 : (((ρ p.1).den : Int) ^ (p.2 - valS x.1 p.1).toNat).natAbs < 2 ^ 8999 := pw_bits (k := (p.2 - valS x.1 p.1).toNat) (by rw [Int.natAbs_pow]; exact Nat.pow_le_pow_left (hd _) _) (by omega)
          have nb2 : (x.2 * topI (fun s => (ρ s).num) (fun s => ((ρ s).den : Int)) x.1 (H.take j) * (ρ p.1).num ^ (valS x.1 p.1).toNat).natAbs < 2 ^ 400000 := by
            rw [Int.natAbs_mul, Int.natAbs_mul]
            have g1 := Nat.mul_le_mul (Nat.mul_le_mul (Nat.le_of_lt (R.co x hxm)) (Nat.le_of_lt tb)) (Nat.le_of_lt hp1)
            rw [← Nat.pow_add, ← Nat.pow_add] at g1
            exact Nat.lt_of_le_of_lt g1 (Nat.pow_lt_pow_right (by decide) (by decide))
          simp only [wSeq, wAsg, wDrop, wRet, wRetN, wNext, wIfS, wBl, Fg.wTru, wOp, wUn, wCl, wCons, wNil, wVar, wCst, wTup, wLst, gNm, wCall, List.set_cons_zero, List.set_cons_succ, List.getElem?_cons_zero, List.getElem?_cons_succ, eS, wBm, tyR, m4]
          refine ⟨trivial, get2S (m := p.1) m4 ?_⟩
          refine getF (s := p.1) s4 (kl p hpm) ?_
          refine ixN0 ?_
          refine p_own_raised v0 (by omega) (Nat.lt_of_le_of_lt (hn _) t100) ?_
          simp only [dMul]
          refine ⟨mul_ok nb (Nat.lt_trans hp1 b9a), ?_⟩
          refine getF (s := p.1) s4 (kl p hpm) ?_
          refine ixN1 ?_
          refine getMS (m := p.1) h4 (look_memS nH hpm) _ ?_
          simp only [dSub]
          refine p_own_raised (by omega) (by omega) (Nat.lt_of_le_of_lt (hd _) t100) ?_
          refine ⟨mul_ok nb2 (Nat.lt_trans hp3 b9a), ?_⟩
          have te : x.2 * topI (fun s => (ρ s).num) (fun s => ((ρ s).den : Int)) x.1 (H.take j) * (ρ p.1).num ^ (valS x.1 p.1).toNat * ((ρ p.1).den : Int) ^ (p.2 - valS x.1 p.1).toNat = x.2 * topI (fun s => (ρ s).num) (fun s => ((ρ s).den : Int)) x.1 (H.take (j + 1)) := by
            rw [tk2, topI_app]
            show _ = x.2 * (_ * ((ρ p.1).num ^ (valS x.1 p.1).toNat * ((ρ p.1).den : Int) ^ (p.2 - valS x.1 p.1).toNat * 1))
            rw [Int.mul_one, Int.mul_assoc, Int.mul_assoc]
          rw [te]
          exact hK2 _ _ ⟨_, _, rfl, rfl⟩
        · subst e6 e7
          rw [List.length_map, List.take_length]
          simp only [wSeq, wAsg, wDrop, wRet, wRetN, wNext, wIfS, wBl, Fg.wTru, wOp, wUn, wCl, wCons, wNil, wVar, wCst, wTup, wLst, gNm, wCall, List.set_cons_zero, List.set_cons_succ, List.getElem?_cons_zero, List.getElem?_cons_succ, dAdd]
          have te : totI (fun s => (ρ s).num) (fun s => ((ρ s).den : Int)) H (t.take i) + x.2 * topI (fun s => (ρ s).num) (fun s => ((ρ s).den : Int)) x.1 H = totI (fun s => (ρ s).num) (fun s => ((ρ s).den : Int)) H (t.take (i + 1)) := by
            rw [tk, totI_app]
            show _ = _ + (x.2 * topI _ _ x.1 H + 0)
            rw [Int.add_zero]
          rw [te]
          exact hK _ _ ⟨_, _, _, _, _, rfl, x3.trans x4⟩
      · subst e5
        rw [List.length_map, List.take_length]
        simp only [w_reckoned_l_6, wSeq, wAsg, wDrop, wRet, wRetN, wNext, wIfS, wBl, Fg.wTru, wOp, wUn, wCl, wCons, wNil, wVar, wCst, wTup, wLst, gNm, wCall, List.set_cons_zero, List.set_cons_succ, List.getElem?_cons_zero, List.getElem?_cons_succ]
        have p0 : 0 < pwI (fun s => ((ρ s).den : Int)) H := pwI_pos fun p _ => hdp p.1
        have pH := pb H.length
        rw [List.take_length] at pH
        refine p_lowest_l p0 (by have := log2_by pH (by decide); omega) ?_
        have er := reck (n := fun s => (ρ s).num) (d := fun s => ((ρ s).den : Int)) nH (fun p _ => hdp p.1) R.gk (fun x hx p hp => key_of (by have := cH x hx p hp; have := (R.gk x hx).po p hp; omega)) le_H
        have ef : (fun s => Rat.divInt (ρ s).num ((ρ s).den : Int)) = ρ := funext fun s => Rat.num_divInt_den _
        rw [ef] at er
        rw [er]
        exact k M3 (x1.trans x3)
end FgL
/-! V6: value. -/
namespace FgL
open PySem PySem.Spec L2 Fg
open PyProof.Rows hiding St
/-- a pair of a name and its fraction, as it lies -/
def RPr (ρ : Str → Rat) (M : MM) (row : D) (s : Str) : Prop := ∃ x, itemsOf M row = some [.str s, x] ∧ itemsOf M x = some [.int (ρ s).num, .int (ρ s).den]
def RPs (ρ : Str → Rat) (M : MM) (e : D) (L : List Str) : Prop := ∃ ds, itemsOf M e = some ds ∧ Paired (RPr ρ M) ds L
theorem RPr.ext {ρ : Str → Rat} {M M' : MM} (e : Ext M M') {d : D} {s : Str} (h : RPr ρ M d s) : RPr ρ M' d s := let ⟨x, h1, h2⟩ := h; ⟨x, items_ext e h1, items_ext e h2⟩
theorem setR_self (ρ : Str → Rat) (s : Str) : setR ρ s (ρ s) = ρ := funext fun x => by
  unfold setR
  split
  · rename_i e; rw [e]
  · rfl
theorem dcF_pr {ρ : Str → Rat} {R : D → Str → Prop} {stay : MM → Prop} {p : Addr} {ρ0 : En} {g : WG} {tk tv : WE} {M0 : MM} (hp : M0 p = none) (hst : ∀ M, Ext M0 M → stay M)
    (hs : ∀ d s, R d s → ∀ (M : MM) (K1 : D → D → MM → Prop), Ext M0 M → K1 (.str s) (nf (ρ s)) M → g d ρ0 M (fun ρ1 M1 => tk ρ1 M1 (fun x M3 => tv ρ1 M3 (fun y M4 => K1 x y M4) noX) noX) noX) : ∀ {ds : List D} {xs : List Str}, Paired R ds xs → ∀ (acc : List Str) (M : MM) (o : Obj) (K : MM → Prop),
    Ext M0 M → M p = some (.dct o (spD ρ acc)) → acc.length + xs.length ≤ sizeLine → (∀ M' o', Ext M0 M' → M' p = some (.dct o' (spD ρ (xs.foldl addN acc))) → K M') → dcD stay p ρ0 g wYes tk tv ds (spD ρ acc) M K
  | _, _, .nil, acc, M, o, K, ex, hM, _, hk => ⟨hst M ex, ⟨o, hM⟩, hk M o ex hM⟩
  | _, _, .cons (a := d) (b := x) h t, acc, M, o, K, ex, hM, hz, hk => by
    rw [List.length_cons] at hz
    refine ⟨hst M ex, ?_⟩
    refine hs _ _ h M _ ex ⟨o, _, hM, kOkF x, by rw [spD_len]; omega, fun o' => ?_⟩
    rw [put_spD, setR_self]
    have := addN_len acc x
    exact dcF_pr hp hst hs t (addN acc x) _ o' K (Ext.upd hp ex) up_same (by omega) hk
theorem paired_get {α β : Type} {R : α → β → Prop} : ∀ {l : List α} {m : List β}, Paired R l m → ∀ {i : Nat} {a : α}, l[i]? = some a → ∃ b, m[i]? = some b ∧ R a b
  | _, _, .nil, i, a, h => by simp at h
  | _, _, .cons (b := b) q t, 0, a, h => by
    simp at h
    exact ⟨b, rfl, h ▸ q⟩
  | _, _, .cons q t, i + 1, a, h => by
    obtain ⟨b, h1, h2⟩ := paired_get t (i := i) (a := a) (by simpa using h)
    exact ⟨b, by simpa using h1, h2⟩
/-- how great a fraction is -/
structure FrB (q : Rat) (C k : Nat) : Prop where
  num : q.num.natAbs ≤ C * topF ^ k
  den : q.den ≤ topF ^ k
theorem FrB.mul {q r : Rat} {C k : Nat} (h : FrB q C k) (g : FrOk r) : FrB (q * r) C (k + 1) := by
  have d0 : 0 < (q.den : Int) * (r.den : Int) := Int.mul_pos (by have := q.den_pos; omega) (by have := r.den_pos; omega)
  rw [← fr_mul2]
  refine ⟨Nat.le_trans (num_le d0) ?_, Nat.le_trans (den_le d0) ?_⟩
  · rw [Int.natAbs_mul, Nat.pow_succ, ← Nat.mul_assoc]
    exact Nat.mul_le_mul h.num g.num
  · rw [Int.natAbs_mul, Int.natAbs_natCast, Int.natAbs_natCast, Nat.pow_succ]
    exact Nat.mul_le_mul h.den g.den
theorem FrB.add {q r : Rat} {C D k m : Nat} (h : FrB q C k) (g : FrB r D m) : FrB (q + r) (C + D) (k + m) := by
  have d0 : 0 < (q.den : Int) * (r.den : Int) := Int.mul_pos (by have := q.den_pos; omega) (by have := r.den_pos; omega)
  rw [← fr_add]
  refine ⟨Nat.le_trans (num_le d0) ?_, Nat.le_trans (den_le d0) ?_⟩
  · refine Nat.le_trans (Int.natAbs_add_le _ _) ?_
    rw [Int.natAbs_mul, Int.natAbs_mul, Int.natAbs_natCast, Int.natAbs_natCast, Nat.pow_add, Nat.add_mul]
    have h1 := Nat.mul_le_mul h.num g.den
    have h2 := Nat.mul_le_mul g.num h.den
    rw [Nat.mul_assoc] at h1
    rw [Nat.mul_assoc, Nat.mul_comm (topF ^ m)] at h2
    omega
  · rw [Int.natAbs_mul, Int.natAbs_natCast, Int.natAbs_natCast, Nat.pow_add]
    exact Nat.mul_le_mul h.den g.den
theorem frB_int (z : Int) : FrB (z : Rat) z.natAbs 0 := ⟨by rw [Rat.num_intCast]; simp, by rw [Rat.den_intCast]; exact Nat.le_refl _⟩
/-- what value asks of a table -/
structure Vl (t : Tab) : Prop where
  gk : Gk t
  dg : (t.map fun x => dgr x.1).sum ≤ 60
  co : ∀ x ∈ t, x.2.natAbs < 2 ^ 400
  sz : t.length ≤ 100
  ml : ∀ x ∈ t, x.1.length ≤ 1000
theorem c400 : (2 : Nat) ^ 400 * 101 < 2 ^ 500 := by decide +kernel
theorem num_bits {C k : Nat} {z : Nat} (hC : C ≤ 2 ^ 500) (hk : k ≤ 60) (h : z ≤ C * topF ^ k) : z < 2 ^ 20000 := by
  have h1 : topF ^ k ≤ topF ^ 60 := Nat.pow_le_pow_right (by decide +kernel) hk
  have := topF_60
  have h2 : C * topF ^ k ≤ 2 ^ 500 * 2 ^ 8999 := Nat.mul_le_mul hC (by omega)
  rw [← Nat.pow_add] at h2
  have : (2 : Nat) ^ (500 + 8999) < 2 ^ 20000 := Nat.pow_lt_pow_right (by decide) (by decide)
  omega
theorem b20 : (2 : Nat) ^ 20000 < 2 ^ 400000 := Nat.pow_lt_pow_right (by decide) (by decide)
theorem smR_take (ρ : Str → Rat) {t : Tab} {i : Nat} {x : Mono × Int} (h : t[i]? = some x) : smR (t.take (i + 1)) (evR ρ) = smR (t.take i) (evR ρ) + (x.2 : Rat) * evR ρ x.1 := by
  rw [List.take_add_one, h]
  show smR (t.take i ++ [x]) _ = _
  rw [smR_app]
  show _ + ((x.2 : Rat) * evR ρ x.1 + 0) = _
  grind
theorem evR_take (ρ : Str → Rat) {m : Mono} {j : Nat} {y : Str × Int} (h : m[j]? = some y) : evR ρ (m.take (j + 1)) = evR ρ (m.take j) * ρ y.1 ^ y.2.toNat := by
  rw [List.take_add_one, h]
  show evR ρ (m.take j ++ [y]) = _
  rw [evR_app]
  show _ * (ρ y.1 ^ y.2.toNat * 1) = _
  grind
theorem sum_take {t : Tab} {i : Nat} {x : Mono × Int} (h : t[i]? = some x) : ((t.take (i + 1)).map fun x => dgr x.1).sum = ((t.take i).map fun x => dgr x.1).sum + dgr x.1 := by
  rw [List.take_add_one, h]
  show ((t.take i ++ [x]).map _).sum = _
  rw [List.map_append, List.sum_append_nat]
  simp
theorem sum_take_le (t : Tab) (i : Nat) : ((t.take i).map fun x => dgr x.1).sum ≤ (t.map fun x => dgr x.1).sum := by
  have : ((t.take i ++ t.drop i).map fun x => dgr x.1).sum = (t.map fun x => dgr x.1).sum := by rw [List.take_append_drop]
  rw [List.map_append, List.sum_append_nat] at this
  omega
theorem dgr_take1 {m : Mono} {j : Nat} {y : Str × Int} (h : m[j]? = some y) : dgr (m.take (j + 1)) = dgr (m.take j) + y.2.toNat := by
  rw [List.take_add_one, h]
  show dgr (m.take j ++ [y]) = _
  rw [dgr_app]
  simp [dgr]
section
variable {M : MM} {pd prs : D} {t : Tab} {ρ : Str → Rat} {L : List Str} {Q : QD} {E : QX}
/-- by, and what comes behind it -/
theorem value_by (hp : RPs ρ M prs L) (hL : L.length ≤ 1000) (N : EndsD) (E : QS) (k : ∀ b o M', Ext M M' → M' b = some (.dct o (spD ρ (L.foldl addN []))) → w_value_1 [some pd, some prs, some (.ref b), none, none, none, none, none, none, none, none, none] M' N E) :
    w_value [some pd, some prs, none, none, none, none, none, none, none, none, none, none] M N E := by
  obtain ⟨ds, hi, pr⟩ := hp
  obtain ⟨st, hst⟩ := walk_items hi
  (unfold w_value; obtain ⟨Tl, hTl⟩ : ∃ x, x = w_value_1 := ⟨_, rfl⟩; rw [← hTl]; simp only [wSeq, wAsg, wDrop, wRet, wRetN, wNext, wIfS, wBl, Fg.wTru, wOp, wUn, wCl, wCons, wNil, wVar, wCst, wTup, wLst, gNm, wCall, List.set_cons_zero, List.set_cons_succ, List.getElem?_cons_zero, List.getElem?_cons_succ, wDc, wWk]; subst hTl)
  refine ⟨ds, st, (hst M (Ext.refl M)).1, fun b hb => ?_⟩
  refine dcF_pr (R := RPr ρ M) (ρ := ρ) hb (fun M' x => (hst M' x).2) (fun d s hr M2 K1 x2 k1 => ?_) pr [] _ dct0 _ (Ext.new hb) up_same (by rw [List.length_nil, sizeLine_eq]; omega) fun M' o' x' e => k b o' M' x' e
  obtain ⟨x, h1, h2⟩ := hr
  refine ⟨_, items_ext x2 h1, rfl, ?_⟩
  simp only [gMany, wSeq, wAsg, wDrop, wRet, wRetN, wNext, wIfS, wBl, Fg.wTru, wOp, wUn, wCl, wCons, wNil, wVar, wCst, wTup, wLst, gNm, wCall, List.set_cons_zero, List.set_cons_succ, List.getElem?_cons_zero, List.getElem?_cons_succ, wipeD]
  refine ⟨_, items_ext x2 h2, rfl, ?_⟩
  simp only [gMany, wSeq, wAsg, wDrop, wRet, wRetN, wNext, wIfS, wBl, Fg.wTru, wOp, wUn, wCl, wCons, wNil, wVar, wCst, wTup, wLst, gNm, wCall, List.set_cons_zero, List.set_cons_succ, List.getElem?_cons_zero, List.getElem?_cons_succ, List.length_cons, List.length_nil]
  exact ⟨by rw [sizeLine_eq]; decide, k1⟩
theorem value_rest {B : List Str} {b : Addr} {o : Obj} (hd : RPo M pd t) (V : Vl t) (hf : ∀ s, FrOk (ρ s)) (hb : M b = some (.dct o (spD ρ B))) (hB : ∀ x ∈ t, ∀ p ∈ x.1, p.1 ∈ B) (v3 v5 v6 v7 v8 v9 : Option D) (k : ∀ M', Ext M M' → Q (nf (smR t (evR ρ))) M') :
    w_value_2 [some pd, some prs, some (.ref b), v3, none, v5, v6, v7, v8, v9, none, none] M { nx := fun _ M' => Q .non M', rt := Q } (fun x _ M' => E x M') := by
  have b20 := b20
  have c400 := c400
  have t100 := topF_100
  obtain ⟨ds, hi, pr⟩ := hd
  obtain ⟨st, hst⟩ := walk_items hi
  (unfold w_value_2; obtain ⟨Tl, hTl⟩ : ∃ x, x = w_value_3 := ⟨_, rfl⟩; rw [← hTl]; simp only [wSeq, wAsg, wDrop, wRet, wRetN, wNext, wIfS, wBl, Fg.wTru, wOp, wUn, wCl, wCons, wNil, wVar, wCst, wTup, wLst, gNm, wCall, List.set_cons_zero, List.set_cons_succ, List.getElem?_cons_zero, List.getElem?_cons_succ, List.length_cons, List.length_nil]; subst hTl)
  refine ⟨by rw [sizeLine_eq]; decide, ?_⟩
  (unfold w_value_3; obtain ⟨Tl, hTl⟩ : ∃ x, x = w_value_4 := ⟨_, rfl⟩; rw [← hTl]; simp only [wSeq, wAsg, wDrop, wRet, wRetN, wNext, wIfS, wBl, Fg.wTru, wOp, wUn, wCl, wCons, wNil, wVar, wCst, wTup, wLst, gNm, wCall, List.set_cons_zero, List.set_cons_succ, List.getElem?_cons_zero, List.getElem?_cons_succ, wFor, wWk]; subst hTl)
  refine ⟨ds, st, (hst M (Ext.refl M)).1, ?_⟩
  have len := paired_len pr
  refine for_rule (I := fun i ρ' M' => ∃ v3 v5 v6 v7 v8 v9, ρ' = [some pd, some prs, some (.ref b), v3, some (nf (smR (t.take i) (evR ρ))), v5, v6, v7, v8, v9, none, none] ∧ Ext M M' ∧ FrB (smR (t.take i) (evR ρ)) (i * 2 ^ 400) ((t.take i).map fun x => dgr x.1).sum)
    ⟨v3, v5, v6, v7, v8, v9, by rw [List.take_zero]; exact congrArg (fun z => [some pd, some prs, some (D.ref b), v3, some z, v5, v6, v7, v8, v9, none, none]) (nf_int 0).symm, Ext.refl _, ⟨by rw [List.take_zero]; exact Nat.zero_le _, by rw [List.take_zero]; exact Nat.le_refl _⟩⟩ (fun i d hx ρ' M1 ⟨v3, v5, v6, v7, v8, v9, e1, x1, FB⟩ K hK => ⟨(hst M1 x1).2, ?_⟩) fun ρ' M1 ⟨v3, v5, v6, v7, v8, v9, e1, x1, FB⟩ => ⟨(hst M1 x1).2, ?_⟩
  · subst e1
    obtain ⟨x, hx2, hr⟩ := paired_get pr hx
    obtain ⟨dm, h1, es, h2, pv⟩ := hr
    have hxm := List.mem_of_getElem? hx2
    have hit := (List.getElem?_eq_some_iff.mp hx2).1
    have sz := V.sz
    have sdg := sum_take hx2
    have sle := sum_take_le t (i + 1)
    have vdg := V.dg
    have cx := V.co x hxm
    refine ⟨_, items_ext x1 h1, rfl, ?_⟩
    simp only [gMany, wSeq, wAsg, wDrop, wRet, wRetN, wNext, wIfS, wBl, Fg.wTru, wOp, wUn, wCl, wCons, wNil, wVar, wCst, wTup, wLst, gNm, wCall, List.set_cons_zero, List.set_cons_succ, List.getElem?_cons_zero, List.getElem?_cons_succ, wFor, wWk, List.length_cons, List.length_nil]
    refine ⟨by rw [sizeLine_eq]; decide, ?_⟩
    obtain ⟨st2, hst2⟩ := walk_items h2
    refine ⟨es, st2, (hst2 M1 x1).1, ?_⟩
    have len2 := paired_len pv
    refine for_rule (I := fun j ρ' M' => ∃ v3 v8 v9, ρ' = [some pd, some prs, some (.ref b), v3, some (nf (smR (t.take i) (evR ρ))), some dm, some (.int x.2), some (nf ((x.2 : Rat) * evR ρ (x.1.take j))), v8, v9, none, none] ∧ M' = M1 ∧ FrB ((x.2 : Rat) * evR ρ (x.1.take j)) x.2.natAbs (dgr (x.1.take j)))
      ⟨v3, v8, v9, by rw [List.take_zero, show (x.2 : Rat) * evR ρ [] = (x.2 : Rat) from by show (x.2 : Rat) * 1 = _; grind, nf_int], rfl, by rw [List.take_zero, show (x.2 : Rat) * evR ρ [] = (x.2 : Rat) from by show (x.2 : Rat) * 1 = _; grind]; exact frB_int _⟩ (fun j d hy ρ' M2 ⟨v3, v8, v9, e2, e3, PB⟩ K2 hK2 => ⟨by rw [e3]; exact (hst2 M1 x1).2, ?_⟩) fun ρ' M2 ⟨v3, v8, v9, e2, e3, PB⟩ => ⟨by rw [e3]; exact (hst2 M1 x1).2, ?_⟩
    · subst e2 e3
      obtain ⟨y, hy2, hv⟩ := paired_get pv hy
      have hym := List.mem_of_getElem? hy2
      have py := (V.gk x hxm).po y hym
      have dj := dgr_take1 hy2
      have dle := dgr_take x.1 (j + 1)
      refine ⟨_, items_ext x1 hv, rfl, ?_⟩
      simp only [gMany, wSeq, wAsg, wDrop, wRet, wRetN, wNext, wIfS, wBl, Fg.wTru, wOp, wUn, wCl, wCons, wNil, wVar, wCst, wTup, wLst, gNm, wCall, List.set_cons_zero, List.set_cons_succ, List.getElem?_cons_zero, List.getElem?_cons_succ, wFor, wRng1]
      refine ⟨_, rfl, by omega, by omega, ?_⟩
      have ln := upTo_len y.2.toNat
      refine for_rule (I := fun n ρ' M' => ∃ v9, ρ' = [some pd, some prs, some (.ref b), some (.str y.1), some (nf (smR (t.take i) (evR ρ))), some dm, some (.int x.2), some (nf ((x.2 : Rat) * evR ρ (x.1.take j) * ρ y.1 ^ n)), some (.int y.2), v9, none, none] ∧ M' = M2 ∧ FrB ((x.2 : Rat) * evR ρ (x.1.take j) * ρ y.1 ^ n) x.2.natAbs (dgr (x.1.take j) + n))
        ⟨v9, by rw [Rat.pow_zero, Rat.mul_one], rfl, by rw [Rat.pow_zero, Rat.mul_one]; exact PB⟩ (fun n z hz ρ' M3 ⟨v9, e4, e5, QB⟩ K3 hK3 => ⟨trivial, ?_⟩) fun ρ' M3 ⟨v9, e4, e5, QB⟩ => ⟨trivial, ?_⟩
      · subst e4 e5
        have hn : n < y.2.toNat := (upTo_at hz).1
        have hb1 := x1 _ _ hb
        have yB := hB x hxm y hym
        generalize hq : (x.2 : Rat) * evR ρ (x.1.take j) * ρ y.1 ^ n = q at QB ⊢
        have f1 := hf y.1
        have qn := num_bits (by omega) (by omega) QB.num
        have qd : (q.den : Int).natAbs < 2 ^ 8999 := pw_bits (k := dgr (x.1.take j) + n) (by rw [Int.natAbs_natCast]; exact QB.den) (by omega)
        have fn : ((ρ y.1).num).natAbs < 2 ^ 400000 := by have := f1.num; have := b9.2.2; omega
        have fd : (((ρ y.1).den : Nat) : Int).natAbs < 2 ^ 400000 := by rw [Int.natAbs_natCast]; have := f1.den; have := b9.2.2; omega
        have d0 : 0 < (q.den : Int) * ((ρ y.1).den : Int) := Int.mul_pos (by have := q.den_pos; omega) (by have := (ρ y.1).den_pos; omega)
        simp only [wSeq, wAsg, wDrop, wRet, wRetN, wNext, wIfS, wBl, Fg.wTru, wOp, wUn, wCl, wCons, wNil, wVar, wCst, wTup, wLst, gNm, wCall, List.set_cons_zero, List.set_cons_succ, List.getElem?_cons_zero, List.getElem?_cons_succ]
        refine ixN0 ?_
        refine getF (s := y.1) hb1 yB (ixN0 ⟨mul_ok (Nat.lt_trans qn b20) fn, ?_⟩)
        refine ixN1 ?_
        refine getF (s := y.1) hb1 yB (ixN1 ⟨mul_ok (Nat.lt_trans qd b9.1) fd, ?_⟩)
        refine p_fraction d0 (by
          have : ((q.den : Int) * ((ρ y.1).den : Int)).natAbs < 2 ^ 8999 := pw_bits (k := dgr (x.1.take j) + n + 1) (by
            rw [Int.natAbs_mul, Int.natAbs_natCast, Int.natAbs_natCast, Nat.pow_succ]
            exact Nat.mul_le_mul QB.den f1.den) (by omega)
          have := log2_by this (by decide)
          omega) ?_
        rw [fr_mul2]
        have eq : q * ρ y.1 = (x.2 : Rat) * evR ρ (x.1.take j) * ρ y.1 ^ (n + 1) := by rw [← hq, Rat.pow_succ]; grind
        refine hK3 _ _ ⟨_, by rw [eq], rfl, ?_⟩
        rw [← eq]
        exact QB.mul f1
      · subst e4 e5
        rw [ln] at QB ⊢
        have eq : (x.2 : Rat) * evR ρ (x.1.take j) * ρ y.1 ^ y.2.toNat = (x.2 : Rat) * evR ρ (x.1.take (j + 1)) := by rw [evR_take ρ hy2]; grind
        rw [eq, ← dj] at QB
        rw [eq]
        exact hK2 _ _ ⟨_, _, _, rfl, rfl, QB⟩
    · subst e2 e3
      rw [len2, List.take_length] at PB ⊢
      generalize hP : (x.2 : Rat) * evR ρ x.1 = P at PB ⊢
      generalize hT : smR (t.take i) (evR ρ) = T at FB ⊢
      have Tn := num_bits (by omega) (by omega) FB.num
      have Pn := num_bits (by omega) (by omega) PB.num
      have Td : (T.den : Int).natAbs < 2 ^ 8999 := pw_bits (by rw [Int.natAbs_natCast]; exact FB.den) (by omega)
      have Pd : (P.den : Int).natAbs < 2 ^ 8999 := pw_bits (by rw [Int.natAbs_natCast]; exact PB.den) (by omega)
      have d0 : 0 < (T.den : Int) * (P.den : Int) := Int.mul_pos (by have := T.den_pos; omega) (by have := P.den_pos; omega)
      have b9a := b9.1
      simp only [wSeq, wAsg, wDrop, wRet, wRetN, wNext, wIfS, wBl, Fg.wTru, wOp, wUn, wCl, wCons, wNil, wVar, wCst, wTup, wLst, gNm, wCall, List.set_cons_zero, List.set_cons_succ, List.getElem?_cons_zero, List.getElem?_cons_succ]
      refine ixN0 (ixN1 ⟨mul_ok (Nat.lt_trans Tn b20) (Nat.lt_trans Pd b9a), ?_⟩)
      refine ixN0 (ixN1 ⟨mul_ok (Nat.lt_trans Pn b20) (Nat.lt_trans Td b9a), ?_⟩)
      simp only [dAdd]
      refine ixN1 (ixN1 ⟨mul_ok (Nat.lt_trans Td b9a) (Nat.lt_trans Pd b9a), ?_⟩)
      refine p_fraction d0 (by
        have : ((T.den : Int) * (P.den : Int)).natAbs < 2 ^ 8999 := pw_bits (k := ((t.take i).map fun x => dgr x.1).sum + dgr x.1) (by
          rw [Int.natAbs_mul, Int.natAbs_natCast, Int.natAbs_natCast, Nat.pow_add]
          exact Nat.mul_le_mul FB.den PB.den) (by omega)
        have := log2_by this (by decide)
        omega) ?_
      rw [fr_add]
      have eq : T + P = smR (t.take (i + 1)) (evR ρ) := by rw [smR_take ρ hx2, hT, hP]
      have FA := FB.add PB
      rw [eq] at FA
      refine hK _ _ ⟨_, _, _, _, _, _, by rw [eq], x1, ⟨?_, ?_⟩⟩
      · refine Nat.le_trans FA.num ?_
        rw [sdg]
        refine Nat.mul_le_mul_right _ ?_
        rw [Nat.add_mul, Nat.one_mul]
        omega
      · rw [sdg]
        exact FA.den
  · subst e1
    rw [len, List.take_length]
    simp only [w_value_4, wSeq, wAsg, wDrop, wRet, wRetN, wNext, wIfS, wBl, Fg.wTru, wOp, wUn, wCl, wCons, wNil, wVar, wCst, wTup, wLst, gNm, wCall, List.set_cons_zero, List.set_cons_succ, List.getElem?_cons_zero, List.getElem?_cons_succ]
    exact k M1 x1
theorem in_by {b : Addr} {o : Obj} {B : List Str} {n : Str} {Q : QD} (hb : M b = some (.dct o (spD ρ B))) (k : Q (.bl (!decide (n ∈ B))) M) : dNotIn (.str n) (.ref b) M Q := by
  unfold dNotIn dIn
  simp only [hb]
  refine ⟨kS n, kOkF n, ?_⟩
  rw [look_spD]
  by_cases c : n ∈ B
  · rw [if_pos c]
    simp only [c, decide_true] at k
    exact k
  · rw [if_neg c]
    simp only [c, decide_false] at k
    exact k
theorem p_value (hd : RPo M pd t) (hp : RPs ρ M prs L) (hL : L.length ≤ 1000) (V : Vl t) (hf : ∀ s, FrOk (ρ s)) (hB : ∀ s ∈ names t, s ∈ L) (k : ∀ M', Ext M M' → Q (nf (smR t (evR ρ))) M') : sp_value [pd, prs] M Q E := by
  refine ⟨rfl, ?_⟩
  show w_value [some pd, some prs, none, none, none, none, none, none, none, none, none, none] M _ _
  refine value_by hp hL _ _ fun b o M1 x1 hb => ?_
  have mB : ∀ s, s ∈ L.foldl addN [] ↔ s ∈ L := fun s => by rw [mem_fold]; simp
  have hd1 : RPo M1 pd t := hd.ext x1
  (unfold w_value_1; obtain ⟨Tl, hTl⟩ : ∃ x, x = w_value_2 := ⟨_, rfl⟩; rw [← hTl]; simp only [wSeq, wAsg, wDrop, wRet, wRetN, wNext, wIfS, wBl, Fg.wTru, wOp, wUn, wCl, wCons, wNil, wVar, wCst, wTup, wLst, gNm, wCall, List.set_cons_zero, List.set_cons_succ, List.getElem?_cons_zero, List.getElem?_cons_succ, wFor, wWk]; subst hTl)
  refine p_variables hd1 (by have := V.sz; omega) V.ml fun M2 x2 => ?_
  refine ⟨_, _, rfl, ?_⟩
  refine for_rule (I := fun i ρ' M' => ∃ v3, ρ' = [some pd, some prs, some (.ref b), v3, none, none, none, none, none, none, none, none] ∧ M' = M2) ⟨none, rfl, rfl⟩ (fun i d hx ρ' M3 ⟨v3, e1, e2⟩ K hK => ⟨trivial, ?_⟩) fun ρ' M3 ⟨v3, e1, e2⟩ => ⟨trivial, ?_⟩
  · subst e1 e2
    obtain ⟨n, hn, rfl⟩ := List.mem_map.mp (List.mem_of_getElem? hx)
    simp only [wSeq, wAsg, wDrop, wRet, wRetN, wNext, wIfS, wBl, Fg.wTru, wOp, wUn, wCl, wCons, wNil, wVar, wCst, wTup, wLst, gNm, wCall, List.set_cons_zero, List.set_cons_succ, List.getElem?_cons_zero, List.getElem?_cons_succ]
    refine in_by (x2 _ _ hb) ?_
    have : n ∈ L.foldl addN [] := (mB n).mpr (hB n (mem_vars.mp hn))
    simp only [this, decide_true, Bool.not_true, Bool.false_eq_true, if_false]
    exact hK _ _ ⟨_, rfl, rfl⟩
  · subst e1 e2
    refine value_rest (hd1.ext x2) V hf (x2 _ _ hb) (fun x hx p hp => (mB _).mpr (hB _ (mem_names.mpr ⟨x, hx, p.2, hp⟩))) _ _ _ _ _ _ fun M4 x4 => k M4 (x1.trans (x2.trans x4))
theorem p_value_lack {pre post : List Str} {n : Str} (hd : RPo M pd t) (hp : RPs ρ M prs L) (hL : L.length ≤ 1000) (V : Vl t) (hv : vars t = pre ++ n :: post) (h1 : ∀ s ∈ pre, s ∈ L) (h2 : n ∉ L) (k : ∀ M', Ext M M' → E ⟨Str.ofString "NothingThere", Str.ofString "word", .str n⟩ M') : sp_value [pd, prs] M Q E := by
  refine ⟨rfl, ?_⟩
  show w_value [some pd, some prs, none, none, none, none, none, none, none, none, none, none] M _ _
  refine value_by hp hL _ _ fun b o M1 x1 hb => ?_
  have mB : ∀ s, s ∈ L.foldl addN [] ↔ s ∈ L := fun s => by rw [mem_fold]; simp
  have hd1 : RPo M1 pd t := hd.ext x1
  (unfold w_value_1; obtain ⟨Tl, hTl⟩ : ∃ x, x = w_value_2 := ⟨_, rfl⟩; rw [← hTl]; simp only [wSeq, wAsg, wDrop, wRet, wRetN, wNext, wIfS, wBl, Fg.wTru, wOp, wUn, wCl, wCons, wNil, wVar, wCst, wTup, wLst, gNm, wCall, List.set_cons_zero, List.set_cons_succ, List.getElem?_cons_zero, List.getElem?_cons_succ, wFor, wWk]; subst hTl)
  refine p_variables hd1 (by have := V.sz; omega) V.ml fun M2 x2 => ?_
  refine ⟨_, _, rfl, ?_⟩
  rw [hv]
  have go : ∀ (pre : List Str), (∀ s ∈ pre, s ∈ L) → ∀ v3 (N : EndsD), loopD (fun _ => True) (gNm 3) (wSeq (wIfS (wBl (wOp dNotIn (wVar 3) (wVar 2))) (wSeq (wRaise "NothingThere" "word" (wVar 3)) wNext) wNext) wNext) ((pre ++ n :: post).map D.str) [some pd, some prs, some (.ref b), v3, none, none, none, none, none, none, none, none] M2 N (fun x _ M' => E x M') := fun pre => by
    induction pre with
    | nil =>
      intro _ v3 N
      refine ⟨trivial, ?_⟩
      simp only [wSeq, wAsg, wDrop, wRet, wRetN, wNext, wIfS, wBl, Fg.wTru, wOp, wUn, wCl, wCons, wNil, wVar, wCst, wTup, wLst, gNm, wCall, List.set_cons_zero, List.set_cons_succ, List.getElem?_cons_zero, List.getElem?_cons_succ]
      refine in_by (x2 _ _ hb) ?_
      have : ¬ n ∈ L.foldl addN [] := fun z => h2 ((mB n).mp z)
      simp only [this, decide_false, Bool.not_false, if_true, wRaise, wSeq, wAsg, wDrop, wRet, wRetN, wNext, wIfS, wBl, Fg.wTru, wOp, wUn, wCl, wCons, wNil, wVar, wCst, wTup, wLst, gNm, wCall, List.set_cons_zero, List.set_cons_succ, List.getElem?_cons_zero, List.getElem?_cons_succ]
      exact k M2 (x1.trans x2)
    | cons s pre ih =>
      intro hs v3 N
      refine ⟨trivial, ?_⟩
      simp only [wSeq, wAsg, wDrop, wRet, wRetN, wNext, wIfS, wBl, Fg.wTru, wOp, wUn, wCl, wCons, wNil, wVar, wCst, wTup, wLst, gNm, wCall, List.set_cons_zero, List.set_cons_succ, List.getElem?_cons_zero, List.getElem?_cons_succ]
      refine in_by (x2 _ _ hb) ?_
      have : s ∈ L.foldl addN [] := (mB s).mpr (hs s List.mem_cons_self)
      simp only [this, decide_true, Bool.not_true, Bool.false_eq_true, if_false]
      exact ih (fun z hz => hs z (List.mem_cons_of_mem _ hz)) _ N
  exact go pre h1 none _
end
end FgL
/-! V7: names; pairs in a drawn sequence. -/
namespace FgL
open PySem PySem.Spec L2 Fg
open PyProof.Rows hiding St
theorem addN_filter : ∀ {ks : List Str}, ks.Nodup → ∀ cur : List Str, ks.foldl addN cur = cur ++ ks.filter fun s => !decide (s ∈ cur)
  | [], _, cur => by simp
  | k :: ks, nd, cur => by
    obtain ⟨h1, h2⟩ := List.nodup_cons.mp nd
    rw [List.foldl_cons, addN_filter h2, List.filter_cons]
    unfold addN
    by_cases c : k ∈ cur
    · rw [if_pos c, if_neg (by simp [c])]
    · rw [if_neg c, if_pos (by simp [c])]
      rw [List.append_assoc]
      congr 1
      show _ = [k] ++ _
      congr 1
      refine List.filter_congr fun s hs => ?_
      have : s ≠ k := fun e => h1 (e ▸ hs)
      simp [this]
theorem any_strs' (l : List Str) (s : Str) : anyEq (l.map D.str) (.str s) = decide (s ∈ l) := by
  have : anyEq (l.map D.str) (.str s) = true ↔ s ∈ l := by
    rw [anyEq_iff (fun d hd => by obtain ⟨x, _, rfl⟩ := List.mem_map.mp hd; rfl) rfl, List.mem_map]
    constructor
    · rintro ⟨x, hx, e⟩
      cases e
      exact hx
    · exact fun hx => ⟨s, hx, rfl⟩
  by_cases c : s ∈ l
  · rw [this.mpr c, decide_eq_true c]
  · rw [decide_eq_false c]
    cases q : anyEq (l.map D.str) (.str s) with
    | false => rfl
    | true => exact absurd (this.mp q) c
theorem deps_strs' (l : List Str) : deps (l.map D.str) = 0 := by
  induction l with
  | nil => rfl
  | cons s l ih => rw [List.map_cons, deps, ih]; rfl
theorem nin_lst {M : MM} {a : Addr} {l : List Str} {s : Str} {Q : QD} (h : M a = some (.lst (l.map D.str))) (k : Q (.bl (!decide (s ∈ l))) M) : dNotIn (.str s) (.ref a) M Q := by
  unfold dNotIn dIn
  simp only [h, any_strs', deps_strs']
  exact ⟨rfl, dats_map D.str (fun _ => rfl) l, by simp, k⟩
def nmTo (t : Tab) : List Str := (t.map fun x => x.1.map (·.1)).flatten.foldl addN []
theorem nmTo_len (t : Tab) (ml : ∀ x ∈ t, x.1.length ≤ 1000) : (nmTo t).length ≤ t.length * 1000 := by
  unfold nmTo
  refine Nat.le_trans (foldl_addN_len _ _) ?_
  rw [List.length_nil, Nat.zero_add]
  induction t with
  | nil => exact Nat.zero_le _
  | cons x t ih =>
    have := ih fun y hy => ml y (List.mem_cons_of_mem _ hy)
    have := ml x List.mem_cons_self
    rw [List.map_cons, List.flatten_cons, List.length_append, List.length_map, List.length_cons, Nat.add_mul, Nat.one_mul]
    omega
theorem nmTo_take {t : Tab} {i : Nat} {x : Mono × Int} (h : t[i]? = some x) (nd : NDS x.1) : nmTo (t.take (i + 1)) = nmTo (t.take i) ++ (x.1.map (·.1)).filter fun s => !decide (s ∈ nmTo (t.take i)) := by
  have : nmTo (t.take (i + 1)) = (x.1.map (·.1)).foldl addN (nmTo (t.take i)) := by
    unfold nmTo
    rw [List.take_add_one, h]
    show ((t.take i ++ [x]).map _).flatten.foldl addN [] = _
    rw [List.map_append, List.flatten_append, List.foldl_append]
    simp
  rw [this, addN_filter nd]
theorem p_names_l {M : MM} {t : Tab} {Q : QD} {E : QX} (gk : Gk t) (sz : t.length ≤ 100) (ml : ∀ x ∈ t, x.1.length ≤ 1000) (k : ∀ a M', Ext M M' → M a = none → M' a = some (.lst ((vars t).map D.str)) → Q (.ref a) M') : sp_names_l [eP t] M Q E := by
  refine ⟨rfl, ?_⟩
  show w_names_l [some (eP t), none, none, none, none, none] M _ _
  (unfold w_names_l; obtain ⟨Tl, hTl⟩ : ∃ x, x = w_names_l_1 := ⟨_, rfl⟩; rw [← hTl]; simp only [wSeq, wAsg, wDrop, wRet, wRetN, wNext, wIfS, wBl, Fg.wTru, wOp, wUn, wCl, wCons, wNil, wVar, wCst, wTup, wLst, gNm, wCall, List.set_cons_zero, List.set_cons_succ, List.getElem?_cons_zero, List.getElem?_cons_succ, List.length_nil]; subst hTl)
  refine ⟨Nat.zero_le _, fun a0 ha0 => ?_⟩
  (unfold w_names_l_1; obtain ⟨Tl, hTl⟩ : ∃ x, x = w_names_l_2 := ⟨_, rfl⟩; rw [← hTl]; simp only [wSeq, wAsg, wDrop, wRet, wRetN, wNext, wIfS, wBl, Fg.wTru, wOp, wUn, wCl, wCons, wNil, wVar, wCst, wTup, wLst, gNm, wCall, List.set_cons_zero, List.set_cons_succ, List.getElem?_cons_zero, List.getElem?_cons_succ, wFor, wWk]; subst hTl)
  refine ⟨t.map eT, fun _ => True, rfl, ?_⟩
  refine for_rule (I := fun i ρ' M' => ∃ r v2 v3, ρ' = [some (eP t), some (.ref r), v2, v3, none, none] ∧ Ext M M' ∧ M' r = some (.lst ((nmTo (t.take i)).map D.str)))
    ⟨a0, none, none, rfl, Ext.new ha0, up_same⟩ (fun i d hx ρ' M1 ⟨r, v2, v3, e1, x1, m1⟩ K hK => ⟨trivial, ?_⟩) fun ρ' M1 ⟨r, v2, v3, e1, x1, m1⟩ => ⟨trivial, ?_⟩
  · subst e1
    rw [List.getElem?_map] at hx
    obtain ⟨x, hx2, rfl⟩ := Option.map_eq_some_iff.mp hx
    have hxm := List.mem_of_getElem? hx2
    have hit := (List.getElem?_eq_some_iff.mp hx2).1
    have mlx := ml x hxm
    have nl := nmTo_len (t.take i) fun y hy => ml y (List.mem_of_mem_take hy)
    rw [List.length_take] at nl
    have nl2 : min i t.length * 1000 ≤ 100 * 1000 := Nat.mul_le_mul_right _ (by omega)
    refine ⟨[eM x.1, .int x.2], rfl, rfl, ?_⟩
    simp only [gMany, wSeq, wAsg, wDrop, wRet, wRetN, wNext, wIfS, wBl, Fg.wTru, wOp, wUn, wCl, wCons, wNil, wVar, wCst, wTup, wLst, gNm, wCall, List.set_cons_zero, List.set_cons_succ, List.getElem?_cons_zero, List.getElem?_cons_succ, wLc, wWk]
    refine ⟨x.1.map eV, fun _ => True, rfl, fun b hb => ?_⟩
    refine lc_map (xs := x.1) hb eV (fun y => D.str y.1) (fun y => !decide (y.1 ∈ nmTo (t.take i))) (fun _ _ => trivial) (by rw [sizeLine_eq]; omega) (fun y hy M2 x2 K1 K0 k1 k0 => ?_) fun M3 x3 h3 => ?_
    · refine ⟨[.str y.1, .int y.2], rfl, rfl, ?_⟩
      simp only [gMany, wSeq, wAsg, wDrop, wRet, wRetN, wNext, wIfS, wBl, Fg.wTru, wOp, wUn, wCl, wCons, wNil, wVar, wCst, wTup, wLst, gNm, wCall, List.set_cons_zero, List.set_cons_succ, List.getElem?_cons_zero, List.getElem?_cons_succ, wipeD]
      refine nin_lst (x2 _ _ m1) ?_
      cases q : decide (y.1 ∈ nmTo (t.take i)) with
      | true => simp only [Bool.not_true, Bool.false_eq_true, if_false]; exact k0 (by rw [q]; rfl) M2 (Ext.refl _)
      | false => simp only [Bool.not_false, if_true]; exact k1 (by rw [q]; rfl) M2 (Ext.refl _)
    · have fl : (x.1.filter fun y => !decide (y.1 ∈ nmTo (t.take i))).map (fun y => D.str y.1) = ((x.1.map (·.1)).filter fun s => !decide (s ∈ nmTo (t.take i))).map D.str := by
        rw [List.filter_map, List.map_map]
        rfl
      rw [fl] at h3
      have m3 := x3 _ _ m1
      have flen := List.length_filter_le (fun s => !decide (s ∈ nmTo (t.take i))) (x.1.map (·.1))
      rw [List.length_map] at flen
      simp only [dAdd]
      refine ⟨_, _, m3, h3, by rw [List.length_map, List.length_map, sizeLine_eq]; omega, fun c hc => ?_⟩
      rw [← List.map_append, ← nmTo_take hx2 (gk x hxm).nd]
      exact hK _ _ ⟨c, _, _, rfl, x1.trans (x3.trans (Ext.new hc)), up_same⟩
  · subst e1
    rw [List.length_map, List.take_length] at m1
    simp only [w_names_l_2, wSeq, wAsg, wDrop, wRet, wRetN, wNext, wIfS, wBl, Fg.wTru, wOp, wUn, wCl, wCons, wNil, wVar, wCst, wTup, wLst, gNm, wCall, List.set_cons_zero, List.set_cons_succ, List.getElem?_cons_zero, List.getElem?_cons_succ, cSortT]
    refine ⟨_, _, rfl, lstOf_ref m1, sortT_n0 _, fun c hc => ?_⟩
    rw [show nmTo t = names t from rfl, ms_n0 (nd_names t)]
    exact k c _ (x1.trans (Ext.new hc)) (x1.none hc) up_same
/-! ### pairs -/
theorem eraseIdx_map_ {α β : Type} (f : α → β) : ∀ (l : List α) (i : Nat), (l.map f).eraseIdx i = (l.eraseIdx i).map f
  | [], _ => rfl
  | _ :: _, 0 => rfl
  | a :: l, i + 1 => congrArg (f a :: ·) (eraseIdx_map_ f l i)
section
variable {p q r : Addr}
def hid (p q r : Addr) (M : MM) : MM := rm (rm (rm M p) q) r
theorem hid_at {M : MM} {x : Addr} {o : MO} (h : M x = some o) (h1 : x ≠ p) (h2 : x ≠ q) (h3 : x ≠ r) : hid p q r M x = some o := rm_at (rm_at (rm_at h h1) h2) h3
theorem hid_sub (M : MM) : Ext (hid p q r M) M := (rm_sub _ r).trans ((rm_sub _ q).trans (rm_sub _ p))
theorem hid_ext {M M' : MM} (e : ∀ x o, x ≠ p → x ≠ q → x ≠ r → M x = some o → M' x = some o) : Ext (hid p q r M) (hid p q r M') := fun x o h => by
  have h0 := hid_sub M x o h
  unfold hid rm at h
  split at h
  · cases h
  · rename_i h3
    split at h
    · cases h
    · rename_i h2
      split at h
      · cases h
      · rename_i h1
        exact hid_at (e x o h1 h2 h3 h0) h1 h2 h3
end
theorem p_pairs_l {M : MM} {p qf nl sp : Addr} {ns : List Int} {o : Obj} {ρ : Str → Rat} {l ks : List Str} {Q : QD} {E : QX} (h : TS M p qf ns) (hl : ns.length ≤ 63) (hn : M nl = some (.lst (l.map D.str))) (hs : M sp = some (.dct o (spD ρ ks))) (hsp : sp ≠ p) (hnp : nl ≠ p) (hk : ∀ s ∈ l, s ∈ ks) (l1 : l.length ≤ 100)
    (k : ∀ d L M', TS M' p qf ns → Ex p M M' → RPs ρ M' d L → (∀ s, s ∈ L ↔ s ∈ l) → L.length ≤ 100 → Q d M') : sp_pairs_l [.ref p, .ref nl, .ref sp] M Q E := by
  refine ⟨rfl, ?_⟩
  show w_pairs_l [some (.ref p), some (.ref nl), some (.ref sp), none, none, none, none] M _ _
  (unfold w_pairs_l; obtain ⟨Tl, hTl⟩ : ∃ x, x = w_pairs_l_1 := ⟨_, rfl⟩; rw [← hTl]; simp only [wSeq, wAsg, wDrop, wRet, wRetN, wNext, wIfS, wBl, Fg.wTru, wOp, wUn, wCl, wCons, wNil, wVar, wCst, wTup, wLst, gNm, wCall, List.set_cons_zero, List.set_cons_succ, List.getElem?_cons_zero, List.getElem?_cons_succ, cLst]; subst hTl)
  obtain ⟨st, hw, _⟩ := walk_lst hn
  refine ⟨_, _, st, rfl, fun z e => (by cases e), hw, fun q hq => ?_⟩
  have xq : Ext M (Fg.up M q (.lst (l.map D.str))) := Ext.new hq
  have mq : Fg.up M q (.lst (l.map D.str)) q = some (.lst (l.map D.str)) := up_same
  have fq := h.ext xq
  have hqp : q ≠ p := (h.ne hq).1
  generalize Fg.up M q (.lst (l.map D.str)) = M1 at xq mq fq ⊢
  (unfold w_pairs_l_1; obtain ⟨Tl, hTl⟩ : ∃ x, x = w_pairs_l_2 := ⟨_, rfl⟩; rw [← hTl]; simp only [wSeq, wAsg, wDrop, wRet, wRetN, wNext, wIfS, wBl, Fg.wTru, wOp, wUn, wCl, wCons, wNil, wVar, wCst, wTup, wLst, gNm, wCall, List.set_cons_zero, List.set_cons_succ, List.getElem?_cons_zero, List.getElem?_cons_succ, List.length_nil]; subst hTl)
  refine ⟨Nat.zero_le _, fun r hr => ?_⟩
  have xr : Ext M1 (Fg.up M1 r (.lst [])) := Ext.new hr
  have mr : Fg.up M1 r (.lst []) r = some (.lst []) := up_same
  have fr := fq.ext xr
  have hrp : r ≠ p := (fq.ne hr).1
  have hrq : r ≠ q := fun e => by rw [e, mq] at hr; cases hr
  have mq2 := xr _ _ mq
  have hrM : M r = none := xq.none hr
  generalize Fg.up M1 r (.lst []) = M2 at xr mr fr mq2 ⊢
  have x02 : Ext M M2 := xq.trans xr
  (unfold w_pairs_l_2; obtain ⟨Tl, hTl⟩ : ∃ x, x = w_pairs_l_3 := ⟨_, rfl⟩; rw [← hTl]; simp only [wSeq, wAsg, wDrop, wRet, wRetN, wNext, wIfS, wBl, Fg.wTru, wOp, wUn, wCl, wCons, wNil, wVar, wCst, wTup, wLst, gNm, wCall, List.set_cons_zero, List.set_cons_succ, List.getElem?_cons_zero, List.getElem?_cons_succ, wFor, wRng1, cLen]; subst hTl)
  refine ⟨_, _, rfl, lenD_lst (x02 _ _ hn), ?_⟩
  refine ⟨_, rfl, by omega, by rw [List.length_map]; omega, ?_⟩
  rw [List.length_map, Int.toNat_natCast]
  have last : ∀ (M3 : MM) (rows : List D) (L : List Str) v5 v6, TS M3 p qf ns → Ex p M M3 → M3 r = some (.lst rows) → Paired (RPr ρ (hid p q r M3)) rows L → (∀ s, s ∈ L ↔ s ∈ l) → L.length ≤ 100 →
      w_pairs_l_3 [some (.ref p), some (.ref nl), some (.ref sp), some (.ref q), some (.ref r), v5, v6] M3 { nx := fun _ M' => Q .non M', rt := Q } (fun x _ M' => E x M') := fun M3 rows L v5 v6 f3 x3 m3 pr hL l2 => by
    (unfold w_pairs_l_3; obtain ⟨Tl, hTl⟩ : ∃ x, x = w_pairs_l_4 := ⟨_, rfl⟩; rw [← hTl]; simp only [wSeq, wAsg, wDrop, wRet, wRetN, wNext, wIfS, wBl, Fg.wTru, wOp, wUn, wCl, wCons, wNil, wVar, wCst, wTup, wLst, gNm, wCall, List.set_cons_zero, List.set_cons_succ, List.getElem?_cons_zero, List.getElem?_cons_succ]; subst hTl)
    refine p_draw f3 hl (by decide +kernel) fun r1 M4 r0 r1' f4 y4 => ?_
    have pr4 : Paired (RPr ρ M4) rows L := Paired.mapP pr fun _ _ z => z.ext ((hid_ext (p := p) (q := q) (r := r) (M' := M4) fun x o h1 _ _ e => (y4 x h1).trans e).trans (hid_sub M4))
    have m4 := y4.at hrp m3
    simp only [dEq]
    by_cases c : r1 = 1
    · simp only [c, decide_true, if_true, cTuple]
      exact ⟨_, rows, rfl, items_ref m4, k _ L M4 f4 (x3.trans (.fr y4)) ⟨rows, rfl, pr4⟩ hL l2⟩
    · simp only [c, decide_false, Bool.false_eq_true, if_false]
      simp only [w_pairs_l_4, wSeq, wAsg, wDrop, wRet, wRetN, wNext, wIfS, wBl, Fg.wTru, wOp, wUn, wCl, wCons, wNil, wVar, wCst, wTup, wLst, gNm, wCall, List.set_cons_zero, List.set_cons_succ, List.getElem?_cons_zero, List.getElem?_cons_succ]
      exact k _ L M4 f4 (x3.trans (.fr y4)) ⟨rows, items_ref m4, pr4⟩ hL l2
  refine for_rule (I := fun i ρ' M' => ∃ v5 v6 rest L rows, ρ' = [some (.ref p), some (.ref nl), some (.ref sp), some (.ref q), some (.ref r), v5, v6] ∧ TS M' p qf ns ∧ Ex p M M' ∧ M' q = some (.lst (rest.map D.str)) ∧ M' r = some (.lst rows) ∧ Paired (RPr ρ (hid p q r M')) rows L ∧ rest.length + i = l.length ∧ L.length = i ∧ ∀ s, s ∈ l ↔ s ∈ rest ∨ s ∈ L)
    ⟨none, none, l, [], [], rfl, fr, .of x02, mq2, mr, .nil, by omega, rfl, fun s => by simp⟩ (fun i d hx ρ' M3 ⟨v5, v6, rest, L, rows, e1, f3, x3, m3, n3, pr, lr, lL, hm⟩ K hK => ⟨trivial, ?_⟩) fun ρ' M3 ⟨v5, v6, rest, L, rows, e1, f3, x3, m3, n3, pr, lr, lL, hm⟩ => ⟨trivial, ?_⟩
  · subst e1
    have hi := (upTo_at hx).1
    simp only [wSeq, wAsg, wDrop, wRet, wRetN, wNext, wIfS, wBl, Fg.wTru, wOp, wUn, wCl, wCons, wNil, wVar, wCst, wTup, wLst, gNm, wCall, List.set_cons_zero, List.set_cons_succ, List.getElem?_cons_zero, List.getElem?_cons_succ, wBm, tyR, m3, cLen]
    refine ⟨trivial, _, _, rfl, lenD_lst m3, ?_⟩
    rw [List.length_map]
    refine p_draw f3 hl (Nat.lt_of_le_of_lt (Nat.log2_le_self _) (by omega)) fun r4 M4 t0 t1 f4 y4 => ?_
    have m4 := y4.at hqp m3
    have n4 := y4.at hrp n3
    have s4 := (x3.trans (.fr y4)).at hsp hs
    have hr4 : r4.toNat < rest.length := by omega
    have ex : rest[r4.toNat]? = some rest[r4.toNat] := List.getElem?_eq_getElem hr4
    have hsr : rest[r4.toNat] ∈ rest := List.getElem_mem hr4
    have hsl : rest[r4.toNat] ∈ l := (hm _).mpr (.inl hsr)
    generalize hsg : rest[r4.toNat] = sg at ex hsr hsl
    refine ⟨q, rest.map D.str, r4, r4.toNat, .str sg, rfl, rfl, m4, by omega, by omega, ?_, by rw [List.getElem?_map, ex]; rfl, ?_⟩
    · unfold ixN
      rw [if_pos t0, List.length_map, if_pos (by omega)]
    have nrq : r ≠ q := hrq
    have s5 : Fg.up M4 q (.lst ((rest.map D.str).eraseIdx r4.toNat)) sp = some (.dct o (spD ρ ks)) := by
      rw [up_ne (fun e => by rw [e, m4] at s4; cases s4)]; exact s4
    have n5 : Fg.up M4 q (.lst ((rest.map D.str).eraseIdx r4.toNat)) r = some (.lst rows) := by rw [up_ne hrq]; exact n4
    have m5 : Fg.up M4 q (.lst ((rest.map D.str).eraseIdx r4.toNat)) q = some (.lst ((rest.map D.str).eraseIdx r4.toNat)) := up_same
    have f5 := f4.upd (h.ne hq) (o := .lst ((rest.map D.str).eraseIdx r4.toNat))
    have pr5 : Paired (RPr ρ (hid p q r (Fg.up M4 q (.lst ((rest.map D.str).eraseIdx r4.toNat))))) rows L := Paired.mapP pr fun _ _ z => z.ext (hid_ext fun x o h1 h2 _ e => by rw [up_ne h2]; exact (y4 x h1).trans e)
    have x5 : Ex p M (Fg.up M4 q (.lst ((rest.map D.str).eraseIdx r4.toNat))) := Ex.upd hq (x3.trans (.fr y4))
    generalize Fg.up M4 q (.lst ((rest.map D.str).eraseIdx r4.toNat)) = M5 at s5 n5 m5 f5 pr5 x5 ⊢
    simp only [wSeq, wAsg, wDrop, wRet, wRetN, wNext, wIfS, wBl, Fg.wTru, wOp, wUn, wCl, wCons, wNil, wVar, wCst, wTup, wLst, gNm, wCall, List.set_cons_zero, List.set_cons_succ, List.getElem?_cons_zero, List.getElem?_cons_succ, n5]
    refine ⟨trivial, ?_⟩
    refine getF (s := sg) s5 (hk sg hsl) ?_
    simp only [List.length_cons, List.length_nil]
    refine ⟨by rw [sizeLine_eq]; decide, ?_⟩
    refine getF (s := sg) s5 (hk sg hsl) ?_
    simp only [cLst]
    refine ⟨_, [.int (ρ sg).num, .int (ρ sg).den], fun _ => True, rfl, (fun z e => by cases e), rfl, fun a1 ha1 => ?_⟩
    have x6 : Ext M5 (Fg.up M5 a1 (.lst [.int (ρ sg).num, .int (ρ sg).den])) := Ext.new ha1
    have m6 : Fg.up M5 a1 (.lst [.int (ρ sg).num, .int (ρ sg).den]) a1 = some (.lst [.int (ρ sg).num, .int (ρ sg).den]) := up_same
    have n1 : a1 ≠ p ∧ a1 ≠ q ∧ a1 ≠ r := ⟨(f5.ne ha1).1, fun e => (by rw [e, m5] at ha1; cases ha1), fun e => (by rw [e, n5] at ha1; cases ha1)⟩
    generalize Fg.up M5 a1 (.lst [.int (ρ sg).num, .int (ρ sg).den]) = M6 at x6 m6 ⊢
    refine ⟨by rw [sizeLine_eq]; decide, fun a2 ha2 => ?_⟩
    have x7 : Ext M6 (Fg.up M6 a2 (.lst [.str sg, .ref a1])) := Ext.new ha2
    have m7 : Fg.up M6 a2 (.lst [.str sg, .ref a1]) a2 = some (.lst [.str sg, .ref a1]) := up_same
    have n2 : a2 ≠ p ∧ a2 ≠ q ∧ a2 ≠ r := ⟨((f5.ext x6).ne ha2).1, fun e => (by rw [e, x6 _ _ m5] at ha2; cases ha2), fun e => (by rw [e, x6 _ _ n5] at ha2; cases ha2)⟩
    generalize Fg.up M6 a2 (.lst [.str sg, .ref a1]) = M7 at x7 m7 ⊢
    refine ⟨by rw [sizeLine_eq]; decide, fun a3 ha3 => ?_⟩
    have x8 : Ext M7 (Fg.up M7 a3 (.lst [.tup [.str sg, nf (ρ sg)], .ref a2])) := Ext.new ha3
    have m8 : Fg.up M7 a3 (.lst [.tup [.str sg, nf (ρ sg)], .ref a2]) a3 = some (.lst [.tup [.str sg, nf (ρ sg)], .ref a2]) := up_same
    have n3' : a3 ≠ p := (((f5.ext x6).ext x7).ne ha3).1
    generalize Fg.up M7 a3 (.lst [.tup [.str sg, nf (ρ sg)], .ref a2]) = M8 at x8 m8 ⊢
    have x58 := x6.trans (x7.trans x8)
    refine p_draw (f5.ext x58) hl (by decide +kernel) fun r9 M9 s0 s1 f9 y9 => ?_
    have m9 := y9.at n3' m8
    obtain ⟨row, hrow, hmem⟩ := at_mem (ds := [D.tup [.str sg, nf (ρ sg)], .ref a2]) (r := r9) s0 (by simp only [List.length_cons, List.length_nil]; omega)
    simp only [dIx, m9]
    refine ⟨r9, row, rfl, hrow, ?_⟩
    have e9 : ∀ x o, x ≠ p → x ≠ q → x ≠ r → M5 x = some o → M9 x = some o := fun x o h1 _ _ e => (y9 x h1).trans (x58 _ _ e)
    have n9 := y9.at hrp (x58 _ _ n5)
    have q9 := y9.at hqp (x58 _ _ m5)
    have rowR : RPr ρ (hid p q r M9) row sg := by
      simp only [List.mem_cons, List.not_mem_nil, or_false] at hmem
      rcases hmem with rfl | rfl
      · exact ⟨nf (ρ sg), rfl, rfl⟩
      · refine ⟨.ref a1, items_ref (hid_at ?_ n2.1 n2.2.1 n2.2.2), items_ref (hid_at ?_ n1.1 n1.2.1 n1.2.2)⟩
        · exact y9.at n2.1 (x8 _ _ m7)
        · exact y9.at n1.1 (x8 _ _ (x7 _ _ m6))
    simp only [mApp]
    have plen := paired_len pr
    refine ⟨r, rows, row, rfl, rfl, n9, by rw [sizeLine_eq]; omega, ?_⟩
    refine hK _ _ ⟨_, _, rest.eraseIdx r4.toNat, L ++ [sg], rows ++ [row], rfl, f9.upd (fq.ne hr), Ex.upd hrM ((x5.trans (.of x58)).trans (.fr y9)), ?_, up_same, ?_, ?_, ?_, fun s => ?_⟩
    · rw [up_ne (Ne.symm hrq), q9, eraseIdx_map_]
    · refine paired_snoc (Paired.mapP pr5 fun _ _ z => z.ext (hid_ext fun x o h1 h2 h3 e => by rw [up_ne h3]; exact e9 x o h1 h2 h3 e)) (rowR.ext (hid_ext fun x o h1 h2 h3 e => by rw [up_ne h3]; exact e))
    · rw [List.length_eraseIdx_of_lt hr4]
      omega
    · rw [List.length_append, lL]; rfl
    · rw [hm s, List.mem_append, List.mem_singleton]
      constructor
      · rintro (c | c)
        · by_cases e : s = sg
          · exact .inr (.inr e)
          · refine .inl ?_
            obtain ⟨j, hj, ej⟩ := List.mem_iff_getElem.mp c
            refine List.mem_eraseIdx_iff_getElem?.mpr ⟨j, fun z => e ?_, by rw [List.getElem?_eq_getElem hj, ej]⟩
            subst z
            rw [← ej, hsg]
        · exact .inr (.inl c)
      · rintro (c | c | c)
        · exact .inl (List.mem_of_mem_eraseIdx c)
        · exact .inr c
        · exact .inl (c ▸ hsr)
  · subst e1
    rw [upTo_len] at lr lL
    have : rest = [] := List.length_eq_zero_iff.mp (by omega)
    subst this
    exact last M3 rows L v5 v6 f3 x3 n3 pr (fun s => by rw [hm s]; simp) (by omega)
end FgL
/-! V8: pairs that lack. -/
namespace FgL
open PySem PySem.Spec L2 Fg
open PyProof.Rows hiding St
theorem p_same_h {s : Str} {M : MM} {Q : QD} {E : QX} (k : Q (.bl true) M) : sp_same_l_h [.str s, .str s] M Q E := by
  refine ⟨rfl, ?_⟩
  show w_same_l_h [some (.str s), some (.str s), none] M _ _
  simp only [w_same_l_h, w_same_l_h_1, w_same_l_h_2, w_same_l_h_3, wOrB, wAndV, wSeq, wAsg, wDrop, wRet, wRetN, wNext, wIfS, wBl, Fg.wTru, wOp, wUn, wCl, wCons, wNil, wVar, wCst, wTup, wLst, gNm, wCall, List.set_cons_zero, List.set_cons_succ, List.getElem?_cons_zero, List.getElem?_cons_succ, cIsi, tyOf, exists_eq_left', exists_and_left, Option.some.injEq, List.cons.injEq, and_true, true_and, D.int.injEq, D.ref.injEq, D.str.injEq, D.tup.injEq, D.bl.injEq, exists_eq', and_assoc, kt, it1, truD, Bool.false_eq_true, if_false, if_true, dIs, Fg.isNon, dEq, decide_true]
  exact k
theorem first_gone {t : Tab} {g1 g2 : Str} (h1 : g1 ∈ vars t) (h2 : g2 ∈ vars t) : ∃ pre post, vars t = pre ++ minS g1 [g2] :: post ∧ ∀ s ∈ pre, s ≠ g1 ∧ s ≠ g2 := by
  have up : (vars t).Pairwise fun a b => mltS a b = true := by
    unfold vars
    exact List.pairwise_map.mpr (rising_srtS (n0_nd (nd_names t)))
  have hg : minS g1 [g2] = if ltD (.str g2) (.str g1) = true then g2 else g1 := rfl
  have hm : minS g1 [g2] ∈ vars t := by
    rw [hg]
    split
    · exact h2
    · exact h1
  obtain ⟨pre, post, e⟩ := List.append_of_mem hm
  refine ⟨pre, post, e, fun s hs => ?_⟩
  rw [e] at up
  have lt := (List.pairwise_append.mp up).2.2 s hs _ List.mem_cons_self
  rw [hg] at lt
  split at lt
  · rename_i c
    refine ⟨fun z => ?_, fun z => ?_⟩
    · rw [z] at lt
      have a1 := mlt_asymS lt
      have c' : mltS g2 g1 = true := c
      rw [a1] at c'
      cases c'
    · rw [z] at lt
      exact mlt_neS lt rfl
  · rename_i c
    refine ⟨fun z => ?_, fun z => ?_⟩
    · rw [z] at lt
      exact mlt_neS lt rfl
    · rw [z] at lt
      exact c lt
theorem p_lacking {M : MM} {p qf nl sp : Addr} {ns : List Int} {o : Obj} {ρ : Str → Rat} {ks : List Str} {t : Tab} {Q : QD} {E : QX} (h : TS M p qf ns) (hl : ns.length ≤ 63) (hn : M nl = some (.lst ((vars t).map D.str))) (hs : M sp = some (.dct o (spD ρ ks))) (hsp : sp ≠ p) (hnp : nl ≠ p) (hk : ∀ s ∈ vars t, s ∈ ks) (l1 : ks.length ≤ 100) (l2 : (vars t).length ≤ 100) (ne : 0 < (vars t).length) (V : Vl t) (hf : ∀ s, FrOk (ρ s))
    (k : ∀ M', TS M' p qf ns → Ex p M M' → Q (.bl true) M') : sp_lacking_right_l [.ref p, eP t, .ref nl, .ref sp] M Q E := by
  refine ⟨rfl, ?_⟩
  show w_lacking_right_l [some (.ref p), some (eP t), some (.ref nl), some (.ref sp), none, none, none, none] M _ _
  have pick : ∀ {M1 : MM} {r : Int}, M1 nl = some (.lst ((vars t).map D.str)) → 0 ≤ r → (r < ((vars t).length : Int) ∨ r = 0) → ∃ g, g ∈ vars t ∧ atI ((vars t).map D.str) r = some (.str g) := fun {M1 r} m1 r0 r1 => by
    obtain ⟨d, ha, hd⟩ := at_mem (ds := (vars t).map D.str) r0 (by rw [List.length_map]; omega)
    obtain ⟨g, hg, rfl⟩ := List.mem_map.mp hd
    exact ⟨g, hg, ha⟩
  have lb : (((vars t).length : Nat) : Int).natAbs.log2 < 8000 := Nat.lt_of_le_of_lt (Nat.log2_le_self _) (by omega)
  (unfold w_lacking_right_l; obtain ⟨Tl, hTl⟩ : ∃ x, x = w_lacking_right_l_1 := ⟨_, rfl⟩; rw [← hTl]; simp only [wSeq, wAsg, wDrop, wRet, wRetN, wNext, wIfS, wBl, Fg.wTru, wOp, wUn, wCl, wCons, wNil, wVar, wCst, wTup, wLst, gNm, wCall, List.set_cons_zero, List.set_cons_succ, List.getElem?_cons_zero, List.getElem?_cons_succ, cLen]; subst hTl)
  refine ⟨_, _, rfl, lenD_lst hn, ?_⟩
  rw [List.length_map]
  refine p_draw h hl lb fun r1 M1 r0 r1' f1 y1 => ?_
  have n1 := y1.at hnp hn
  obtain ⟨g1, hg1, a1⟩ := pick n1 r0 r1'
  simp only [dIx, n1]
  refine ⟨r1, _, rfl, a1, ?_⟩
  refine ⟨_, _, rfl, lenD_lst n1, ?_⟩
  rw [List.length_map]
  refine p_draw f1 hl lb fun r2 M2 s0 s1 f2 y2 => ?_
  have n2 := y2.at hnp n1
  obtain ⟨g2, hg2, a2⟩ := pick n2 s0 s1
  simp only [n2]
  refine ⟨r2, _, rfl, a2, ?_⟩
  refine ⟨by simp only [List.length_cons, List.length_nil]; rw [sizeLine_eq]; decide, fun g hg => ?_⟩
  have x3 : Ext M2 (Fg.up M2 g (.lst [.str g1, .str g2])) := Ext.new hg
  have m3 : Fg.up M2 g (.lst [.str g1, .str g2]) g = some (.lst ([g1, g2].map D.str)) := up_same
  have f3 := f2.ext x3
  have hgp := (f2.ne hg).1
  have s3 := x3 _ _ (y2.at hsp (y1.at hsp hs))
  generalize Fg.up M2 g (.lst [.str g1, .str g2]) = M3 at x3 m3 f3 s3 ⊢
  have x03 : Ex p M M3 := (Ex.fr (y1.trans y2)).trans (.of x3)
  (unfold w_lacking_right_l_1; obtain ⟨Tl, hTl⟩ : ∃ x, x = w_lacking_right_l_2 := ⟨_, rfl⟩; rw [← hTl]; simp only [wSeq, wAsg, wDrop, wRet, wRetN, wNext, wIfS, wBl, Fg.wTru, wOp, wUn, wCl, wCons, wNil, wVar, wCst, wTup, wLst, gNm, wCall, List.set_cons_zero, List.set_cons_succ, List.getElem?_cons_zero, List.getElem?_cons_succ, wLc, wWk]; subst hTl)
  obtain ⟨st, hw, hst⟩ := walk_dct s3
  rw [keys_spD] at hw
  refine ⟨_, st, hw, fun a ha => ?_⟩
  refine lc_map (xs := ks) ha D.str D.str (fun s => !decide (s ∈ [g1, g2])) (fun M' z => hst M' (z _ _ s3)) (by rw [sizeLine_eq]; omega) (fun s hss M4 x4 K1 K0 k1 k0 => ?_) fun M4 x4 h4 => ?_
  · simp only [wSeq, wAsg, wDrop, wRet, wRetN, wNext, wIfS, wBl, Fg.wTru, wOp, wUn, wCl, wCons, wNil, wVar, wCst, wTup, wLst, gNm, wCall, List.set_cons_zero, List.set_cons_succ, List.getElem?_cons_zero, List.getElem?_cons_succ, wipeD]
    refine nin_lst (x4 _ _ m3) ?_
    cases q : decide (s ∈ [g1, g2]) with
    | true => simp only [Bool.not_true, Bool.false_eq_true, if_false]; exact k0 (by rw [q]; rfl) M4 (Ext.refl _)
    | false => simp only [Bool.not_false, if_true]; exact k1 (by rw [q]; rfl) M4 (Ext.refl _)
  · have f4 := f3.ext x4
    have s4 := x4 _ _ s3
    have hap : a ≠ p := (f3.ne ha).1
    refine p_pairs_l f4 hl h4 s4 hsp hap (fun s hs => (List.mem_filter.mp hs).1) (Nat.le_trans (List.length_filter_le _ _) l1) fun d L M5 f5 x5 hR hL lL => ?_
    have m5 := x5.at hgp (x4 _ _ m3)
    obtain ⟨pre, post, ev, hpre⟩ := first_gone hg1 hg2
    have hin : ∀ s, s ∈ L ↔ s ∈ ks ∧ s ≠ g1 ∧ s ≠ g2 := fun s => by
      rw [hL s, List.mem_filter]
      simp
    have hc : Str.ofString "NothingThere" ∈ xs := by decide +kernel
    have hb : xsb (Str.ofString "NothingThere") (Str.ofString "NothingThere") = true := by decide +kernel
    have hw : Str.ofString "word" ∈ xflds := by decide +kernel
    have hf1 : ([Fg.Cn.own (Str.ofString "FigureError")] : List Fg.Cn).any (Fg.Cn.b (Str.ofString "NothingThere")) = true := by decide +kernel
    have hf2 : ([Fg.Cn.own (Str.ofString "TooMany")] : List Fg.Cn).any (Fg.Cn.b (Str.ofString "NothingThere")) = false := by decide +kernel
    (unfold w_lacking_right_l_2; obtain ⟨Tl, hTl⟩ : ∃ x, x = w_lacking_right_l_3 := ⟨_, rfl⟩; rw [← hTl]; simp only [wSeq, wAsg, wDrop, wRet, wRetN, wNext, wIfS, wBl, Fg.wTru, wOp, wUn, wCl, wCons, wNil, wVar, wCst, wTup, wLst, gNm, wCall, List.set_cons_zero, List.set_cons_succ, List.getElem?_cons_zero, List.getElem?_cons_succ, wTry]; subst hTl)
    refine p_value_lack (rpo_eP _ _) hR (by omega) V ev (fun s hs => (hin s).mpr ⟨hk s (by rw [ev]; exact List.mem_append_left _ hs), hpre s hs⟩) (fun z => ?_) fun M6 x6 => ?_
    · have := (hin _).mp z
      have e : minS g1 [g2] = if ltD (.str g2) (.str g1) = true then g2 else g1 := rfl
      rw [e] at this
      split at this
      · exact this.2.2 rfl
      · exact this.2.1 rfl
    · refine ⟨hc, ?_⟩
      rw [if_pos hb]
      intro ea dd hea hdd hne
      have m6 := x6 _ _ m5
      have gdd : g ≠ dd := fun z => by rw [z, hdd] at m6; cases m6
      simp only [wSeq, wAsg, wDrop, wRet, wRetN, wNext, wIfS, wBl, Fg.wTru, wOp, wUn, wCl, wCons, wNil, wVar, wCst, wTup, wLst, gNm, wCall, List.set_cons_zero, List.set_cons_succ, List.getElem?_cons_zero, List.getElem?_cons_succ, wXAtt, wXIs, wOrB, wNotB, clrD, up_same, exists_eq_left', exists_and_left, Option.some.injEq, List.cons.injEq, and_true, true_and, D.int.injEq, D.ref.injEq, D.str.injEq, D.tup.injEq, D.bl.injEq, exists_eq', and_assoc, List.length_cons, List.length_nil, hc, hw, hf1, hf2, truD, Bool.not_true, Bool.false_eq_true, if_false, wCallH, cMinS]
      refine ⟨⟨_, _, rfl⟩, ⟨_, _, rfl⟩, _, rfl, g1, [g2], lstOf_ref (by rw [up_ne gdd]; exact m6), ?_⟩
      refine p_same_h ?_
      exact k _ ((f5.ext x6).ext (Ext.new hdd)) (x03.trans ((Ex.of x4).trans (x5.trans ((Ex.of x6).trans (.of (Ext.new hdd))))))
end FgL
/-! V9: drawn polynomials; of sums and products. -/
namespace FgL
open PySem PySem.Spec L2 Fg
open PyProof.Rows hiding St
theorem dgr_memV : ∀ {m : Mono} {p : Str × Int}, p ∈ m → p.2.toNat ≤ dgr m
  | q :: m, p, h => by
    unfold dgr
    rw [List.map_cons, List.sum_cons]
    rcases List.mem_cons.mp h with rfl | h
    · omega
    · have := dgr_memV h
      unfold dgr at this
      omega
theorem sum_bd {k : Nat} : ∀ {t : Tab}, (∀ x ∈ t, dgr x.1 ≤ k) → (t.map fun x => dgr x.1).sum ≤ t.length * k
  | [], _ => Nat.zero_le _
  | x :: t, h => by
    have ih := sum_bd fun y hy => h y (List.mem_cons_of_mem _ hy)
    have := h x List.mem_cons_self
    rw [List.map_cons, List.sum_cons, List.length_cons, Nat.add_mul, Nat.one_mul]
    omega
structure DrT (t : Tab) (signs : List Str) : Prop where
  vl : Vl t
  rk : ∃ Kn hm, Rk t Kn hm ∧ ∀ s ∈ Kn, s ∈ signs
theorem DrT.nm {t : Tab} {signs : List Str} (h : DrT t signs) : ∀ s ∈ names t, s ∈ signs := fun s hs => by
  obtain ⟨Kn, hm, R, hK⟩ := h.rk
  obtain ⟨x, hx, c, hc⟩ := mem_names.mp hs
  exact hK _ (R.ky x hx _ hc)
theorem Dh.drt {t : Tab} {n k : Nat} {g : Int} {signs : List Str} (h : Dh t n (k : Int) g signs) (hn : n * k ≤ 60) (n1 : n ≤ 100) (s6 : signs.length ≤ 6) (k6 : 6 * k ≤ 60) (hg : g.natAbs < 2 ^ 400) : DrT (canon t) signs := by
  have nz : ∀ x ∈ t, x.2 ≠ 0 := fun x hx => (h.al x hx).2.1
  have pm := canon_perm nz
  have al : ∀ x ∈ canon t, _ := fun x hx => h.al x (pm.mem_iff.mp hx)
  have co : ∀ x ∈ canon t, x.2.natAbs < 2 ^ 400 := fun x hx => by have := (al x hx).2.2.2.1; omega
  have dg : ∀ x ∈ canon t, dgr x.1 ≤ k := fun x hx => by have := (al x hx).2.2.2.2.1; omega
  have ln := pm.length_eq
  have sz := h.sz
  refine ⟨⟨fun x hx => (al x hx).1, ?_, co, by omega, fun x hx => by have := (al x hx).2.2.1; omega⟩, signs, k, ⟨fun x hx => (al x hx).1, fun x hx => (al x hx).2.2.2.2.2, fun x hx p hp => ?_, ?_, co, by omega⟩, fun s hs => hs⟩
  · have h1 := sum_bd dg
    have h2 : (canon t).length * k ≤ n * k := Nat.mul_le_mul_right _ (by omega)
    omega
  · have := dgr_memV hp
    have := dg x hx
    have := (al x hx).1.po p hp
    omega
  · have : signs.length * k ≤ 6 * k := Nat.mul_le_mul_right _ s6
    omega
theorem l1_byV {G : Nat} : ∀ {t : Tab}, (∀ x ∈ t, x.2.natAbs ≤ G) → l1 t ≤ t.length * G
  | [], _ => Nat.zero_le _
  | x :: t, h => by
    have ih := l1_byV (t := t) fun y hy => h y (List.mem_cons_of_mem _ hy)
    have := h x List.mem_cons_self
    rw [l1_cons, List.length_cons, Nat.add_mul, Nat.one_mul]
    omega
theorem Dh.pk {t : Tab} {n G : Nat} {k g : Int} {signs : List Str} (h : Dh t n k g signs) (hg : g = (G : Int)) : PK t (n * G) n 3 :=
  ⟨h.nd, fun x hx => (h.al x hx).1, fun x hx => (h.al x hx).2.1, fun x hx => (h.al x hx).2.2.1,
    Nat.le_trans (l1_byV (G := G) fun x hx => by have := (h.al x hx).2.2.2.1; omega) (Nat.mul_le_mul_right _ h.sz), h.sz⟩
theorem good_one {s : Str} {e : Int} (h : 1 ≤ e) : Good [(s, e)] := ⟨List.pairwise_singleton _ _, fun x hx => by rw [List.mem_singleton] at hx; subst hx; exact h⟩
/-- one great term -/
def spc (s : Str) (e c : Int) : Tab := [([(s, e)], c), ([], 1), ([(s, 1)], -2)]
theorem spc_nd {s : Str} {e c : Int} (h : 7 ≤ e) : ND (spc s e c) := by
  show ([[(s, e)], [], [(s, 1)]] : List Mono).Nodup
  have h1 : ¬ ((s, e) : Str × Int) = (s, 1) := fun z => by
    have := (Prod.mk.injEq _ _ _ _ ▸ z : s = s ∧ e = 1).2
    omega
  simp [h1]
theorem spc_drt {s : Str} {e c : Int} {signs : List Str} (h1 : 7 ≤ e) (h2 : e ≤ 40) (c0 : c ≠ 0) (hc : c.natAbs < 2 ^ 400) (hs : s ∈ signs) : DrT (canon (spc s e c)) signs := by
  have nz : ∀ x ∈ spc s e c, x.2 ≠ 0 := fun x hx => by
    simp only [spc, List.mem_cons, List.not_mem_nil, or_false] at hx
    rcases hx with rfl | rfl | rfl
    · exact c0
    · show (1 : Int) ≠ 0; decide
    · show (-2 : Int) ≠ 0; decide
  have pm := canon_perm nz
  have al : ∀ x ∈ canon (spc s e c), Good x.1 ∧ x.2.natAbs < 2 ^ 400 ∧ x.1.length ≤ 1 ∧ ∀ p ∈ x.1, p.1 = s ∧ p.2 ≤ 40 := fun x hx => by
    have hx := pm.mem_iff.mp hx
    simp only [spc, List.mem_cons, List.not_mem_nil, or_false] at hx
    rcases hx with rfl | rfl | rfl
    · exact ⟨good_one (by omega), hc, Nat.le_refl _, fun p hp => by rw [List.mem_singleton] at hp; subst hp; exact ⟨rfl, h2⟩⟩
    · exact ⟨good_nil, by show (1 : Int).natAbs < 2 ^ 400; decide +kernel, Nat.zero_le _, fun p hp => nomatch hp⟩
    · exact ⟨good_one (by decide), by show (-2 : Int).natAbs < 2 ^ 400; decide +kernel, Nat.le_refl _, fun p hp => by rw [List.mem_singleton] at hp; subst hp; exact ⟨rfl, show (1 : Int) ≤ 40 by decide⟩⟩
  have sm : ((canon (spc s e c)).map fun x => dgr x.1).sum = ((spc s e c).map fun x => dgr x.1).sum := (pm.map _).sum_nat
  have dg : ((spc s e c).map fun x => dgr x.1).sum = e.toNat + 1 := by
    simp [spc, dgr]
  have ln := pm.length_eq
  have l3 : (spc s e c).length = 3 := rfl
  refine ⟨⟨fun x hx => (al x hx).1, by omega, fun x hx => (al x hx).2.1, by omega, fun x hx => by have := (al x hx).2.2.1; omega⟩, [s], 40, ⟨fun x hx => (al x hx).1, fun x hx p hp => by rw [((al x hx).2.2.2 p hp).1]; exact List.mem_cons_self, fun x hx p hp => ((al x hx).2.2.2 p hp).2, show 1 * 40 ≤ 60 by decide, fun x hx => (al x hx).2.1, show 1 ≤ 100 by decide⟩, fun z hz => by rw [List.mem_singleton] at hz; rw [hz]; exact hs⟩
theorem bits40 : ((10 : Int) ^ 40).natAbs.log2 < 8000 ∧ (1000000 : Int) ≤ 10 ^ 40 ∧ ((10 : Int) ^ 40).natAbs < 2 ^ 400 := by decide +kernel
theorem cpow40 : CPow 10 40 := by unfold CPow; decide +kernel
theorem p_drawn {M : MM} {p qf nl : Addr} {ns : List Int} {signs : List Str} {Q : QD} {E : QX} (h : TS M p qf ns) (hl : ns.length ≤ 63) (hn : M nl = some (.lst (signs.map D.str))) (hnp : nl ≠ p) (s1 : 1 ≤ signs.length) (s6 : signs.length ≤ 6)
    (k : ∀ t M', DrT t signs → TS M' p qf ns → Ex p M M' → Q (eP t) M') : sp_drawn_l [.ref p, .ref nl] M Q E := by
  refine ⟨rfl, ?_⟩
  show w_drawn_l [some (.ref p), some (.ref nl), none, none] M _ _
  (unfold w_drawn_l; obtain ⟨Tl, hTl⟩ : ∃ x, x = w_drawn_l_1 := ⟨_, rfl⟩; rw [← hTl]; simp only [wSeq, wAsg, wDrop, wRet, wRetN, wNext, wIfS, wBl, Fg.wTru, wOp, wUn, wCl, wCons, wNil, wVar, wCst, wTup, wLst, gNm, wCall, List.set_cons_zero, List.set_cons_succ, List.getElem?_cons_zero, List.getElem?_cons_succ, dPow]; subst hTl)
  refine ⟨cpow40, ?_⟩
  refine p_table (n := 6) (hgt := 6) h hl hn hnp s1 s6 (by decide) bits40.2.1 (by decide) bits40.1 fun a oa t M1 hap _ e1 dt f1 x1 => ?_
  refine p_poly e1 dt.nd (Nat.le_trans dt.sz (by decide)) fun M2 x2 => ?_
  have f2 := f1.ext x2
  have n2 := x2 _ _ (x1.at hnp hn)
  have D1 : DrT (canon t) signs := Dh.drt (k := 6) dt (by decide) (by decide) s6 (by decide) bits40.2.2
  (unfold w_drawn_l_1; obtain ⟨Tl, hTl⟩ : ∃ x, x = w_drawn_l_2 := ⟨_, rfl⟩; rw [← hTl]; simp only [wSeq, wAsg, wDrop, wRet, wRetN, wNext, wIfS, wBl, Fg.wTru, wOp, wUn, wCl, wCons, wNil, wVar, wCst, wTup, wLst, gNm, wCall, List.set_cons_zero, List.set_cons_succ, List.getElem?_cons_zero, List.getElem?_cons_succ, cLen]; subst hTl)
  refine p_draw f2 hl (by decide +kernel) fun r M3 r0 r1 f3 y3 => ?_
  simp only [dEq]
  by_cases c : r = 0
  · simp only [c, decide_true, if_true]
    have n3 := y3.at hnp n2
    refine ⟨_, _, rfl, lenD_lst n3, ?_⟩
    rw [List.length_map]
    refine p_draw f3 hl (Nat.lt_of_le_of_lt (Nat.log2_le_self _) (by omega)) fun r4 M4 t0 t1 f4 y4 => ?_
    have n4 := y4.at hnp n3
    obtain ⟨d, ha, hd⟩ := at_mem (ds := signs.map D.str) t0 (by rw [List.length_map]; omega)
    obtain ⟨sg, hsg, rfl⟩ := List.mem_map.mp hd
    simp only [dIx, n4]
    refine ⟨r4, _, rfl, ha, ?_⟩
    simp only [wDisp, prsD, wSeq, wAsg, wDrop, wRet, wRetN, wNext, wIfS, wBl, Fg.wTru, wOp, wUn, wCl, wCons, wNil, wVar, wCst, wTup, wLst, gNm, wCall, List.set_cons_zero, List.set_cons_succ, List.getElem?_cons_zero, List.getElem?_cons_succ, dPow, dAdd, dNeg, List.length_cons, List.length_nil]
    intro b hb
    have x5 : Ext M4 (Fg.up M4 b (.dct dct0 [])) := Ext.new hb
    have m5 : Fg.up M4 b (.dct dct0 []) b = some (.dct dct0 []) := up_same
    have f5 := f4.ext x5
    have hbp := (f4.ne hb).1
    have hbn := f4.ne hb
    generalize Fg.up M4 b (.dct dct0 []) = M5 at x5 m5 f5 ⊢
    refine p_draw f5 hl (by decide +kernel) fun r6 M6 s0 s1' f6 y6 => ?_
    have z2 : 2 ≤ sizeLine := by rw [sizeLine_eq]; decide
    refine ⟨z2, by omega, ?_⟩
    refine ⟨by unfold CPow; decide, ?_⟩
    have e6 : (10 : Int) ^ (6 : Int).toNat = 1000000 := by decide
    rw [e6]
    refine p_factor f6 hl (by decide) (by decide +kernel) fun c M7 c0 c1 f7 x7 => ?_
    refine ⟨by omega, z2, by omega, ?_⟩
    refine ⟨⟨dct0, x7.at hbp (y6.at hbp m5)⟩, ?_⟩
    have kv : [(D.tup [.tup [.str sg, .int (7 + r6)]], D.int c), (D.tup [], D.int 1), (D.tup [.tup [.str sg, .int 1]], D.int (-2))] = kvs (spc sg (7 + r6) c) := rfl
    rw [kv]
    refine ⟨pairsOk_kvs _, by show 3 ≤ 15; decide, fun o8 => ?_⟩
    rw [putAll_nd (spc_nd (by omega))]
    refine p_poly up_same (spc_nd (by omega)) (by show 3 ≤ 1000000; decide) fun M9 x9 => ?_
    simp only [w_drawn_l_2, wSeq, wAsg, wDrop, wRet, wRetN, wNext, wIfS, wBl, Fg.wTru, wOp, wUn, wCl, wCons, wNil, wVar, wCst, wTup, wLst, gNm, wCall, List.set_cons_zero, List.set_cons_succ, List.getElem?_cons_zero, List.getElem?_cons_succ]
    have x04 := (x1.trans (Ex.of x2)).trans ((Ex.fr (y3.trans y4)).trans ((Ex.of x5).trans ((Ex.fr y6).trans x7)))
    have hbM : M b = none := by
      cases z : M b with
      | none => rfl
      | some o => 
        have := ((x1.trans (Ex.of x2)).trans (Ex.fr (y3.trans y4))).at hbp z
        rw [this] at hb; cases hb
    have m400 : (1000000 : Nat) < 2 ^ 400 := by decide +kernel
    exact k _ M9 (spc_drt (s := sg) (e := 7 + r6) (c := c) (by omega) (by omega) c0 (by omega) hsg) ((f7.upd hbn).ext x9) ((Ex.upd hbM x04).trans (.of x9))
  · simp only [c, decide_false, Bool.false_eq_true, if_false]
    simp only [w_drawn_l_2, wSeq, wAsg, wDrop, wRet, wRetN, wNext, wIfS, wBl, Fg.wTru, wOp, wUn, wCl, wCons, wNil, wVar, wCst, wTup, wLst, gNm, wCall, List.set_cons_zero, List.set_cons_succ, List.getElem?_cons_zero, List.getElem?_cons_succ]
    exact k _ M3 D1 f3 ((x1.trans (Ex.of x2)).trans (.fr y3))
/-! ### how great a value is -/
theorem FrB.mul2 {q r : Rat} {C D k m : Nat} (h : FrB q C k) (g : FrB r D m) : FrB (q * r) (C * D) (k + m) := by
  have d0 : 0 < (q.den : Int) * (r.den : Int) := Int.mul_pos (by have := q.den_pos; omega) (by have := r.den_pos; omega)
  rw [← fr_mul2]
  refine ⟨Nat.le_trans (num_le d0) ?_, Nat.le_trans (den_le d0) ?_⟩
  · rw [Int.natAbs_mul, Nat.pow_add]
    have := Nat.mul_le_mul h.num g.num
    rw [Nat.mul_assoc, Nat.mul_left_comm (topF ^ k), ← Nat.mul_assoc] at this
    exact this
  · rw [Int.natAbs_mul, Int.natAbs_natCast, Int.natAbs_natCast, Nat.pow_add]
    exact Nat.mul_le_mul h.den g.den
theorem frB_pow {r : Rat} (g : FrOk r) : ∀ n : Nat, FrB (r ^ n) 1 n
  | 0 => by rw [Rat.pow_zero]; exact frB_int 1
  | n + 1 => by rw [Rat.pow_succ]; exact (frB_pow g n).mul g
theorem frB_ev {ρ : Str → Rat} (hf : ∀ s, FrOk (ρ s)) : ∀ m : Mono, FrB (evR ρ m) 1 (dgr m)
  | [] => frB_int 1
  | p :: m => by
    have e : dgr (p :: m) = p.2.toNat + dgr m := by unfold dgr; rw [List.map_cons, List.sum_cons]
    rw [e]
    exact (frB_pow (hf p.1) p.2.toNat).mul2 (frB_ev hf m)
theorem frB_sm {ρ : Str → Rat} (hf : ∀ s, FrOk (ρ s)) : ∀ {t : Tab}, (∀ x ∈ t, x.2.natAbs ≤ 2 ^ 400) → FrB (smR t (evR ρ)) (t.length * 2 ^ 400) (t.map fun x => dgr x.1).sum
  | [], _ => ⟨Nat.zero_le _, Nat.le_refl _⟩
  | x :: t, h => by
    have h1 := (frB_int x.2).mul2 (frB_ev hf x.1)
    have h2 := h1.add (frB_sm hf fun y hy => h y (List.mem_cons_of_mem _ hy))
    have e : smR (x :: t) (evR ρ) = (x.2 : Rat) * evR ρ x.1 + smR t (evR ρ) := rfl
    rw [← e] at h2
    rw [List.map_cons, List.sum_cons, List.length_cons]
    rw [Nat.zero_add] at h2
    refine ⟨Nat.le_trans h2.num (Nat.mul_le_mul_right _ ?_), h2.den⟩
    have := h x List.mem_cons_self
    omega
/-! ### of the sum and the product -/
theorem mem_names_canon {w : Tab} (z : ∀ x ∈ w, x.2 ≠ 0) {s : Str} : s ∈ names (canon w) ↔ s ∈ names w := by
  rw [mem_names, mem_names]
  constructor
  · rintro ⟨x, hx, c, hc⟩
    exact ⟨x, (canon_perm z).mem_iff.mp hx, c, hc⟩
  · rintro ⟨x, hx, c, hc⟩
    exact ⟨x, (canon_perm z).mem_iff.mpr hx, c, hc⟩
theorem dgr_JV {a b : Mono} (ga : Good a) (gb : Good b) : dgr (J a b) = dgr a + dgr b := by
  have h1 := dgr_sm (J_good ga gb).po
  have h2 := dgr_sm ga.po
  have h3 := dgr_sm gb.po
  rw [J_sm ga] at h1
  omega
theorem names_J {a b : Mono} (ga : Good a) (gb : Good b) {p : Str × Int} (h : p ∈ J a b) : p.1 ∈ a.map (·.1) ∨ p.1 ∈ b.map (·.1) := by
  have g := J_good ga gb
  have v := val_JR ga gb p.1
  have e : valS (J a b) p.1 = p.2 := by
    unfold valS
    rw [look_memS g.nd (c := p.2) h]; rfl
  have := g.po p h
  by_cases c : 1 ≤ valS a p.1
  · exact .inl (key_of c)
  · exact .inr (key_of (by omega))
/-- what value asks of a sum or product -/
theorem vl_of {w t : Tab} {B N L k : Nat} {signs : List Str} (W : PK w B N L) (hB : B < 2 ^ 400) (hN : N ≤ 100) (hL : L ≤ 1000) (e : Eqv w t) (hd : ∀ x ∈ t, dgr x.1 ≤ k ∧ ∀ p ∈ x.1, p.1 ∈ signs) (hk : N * k ≤ 60) : Vl (canon w) ∧ ∀ s ∈ names (canon w), s ∈ signs := by
  have keys : ∀ x ∈ w, ∃ y ∈ t, y.1 = x.1 := fun x hx => List.mem_map.mp (eqv_mem W.nd e hx (W.nz x hx))
  have dk : ∀ x ∈ w, dgr x.1 ≤ k ∧ ∀ p ∈ x.1, p.1 ∈ signs := fun x hx => by
    obtain ⟨y, hy, ey⟩ := keys x hx
    rw [← ey]
    exact hd y hy
  have pm := canon_perm W.nz
  have C := W.canon
  refine ⟨⟨C.gk, ?_, fun x hx => by have := l1_mem hx; have := C.lb; omega, by have := C.sz; omega, fun x hx => by have := C.ml x hx; omega⟩, fun s hs => ?_⟩
  · have h1 := sum_bd (t := canon w) fun x hx => (dk x (pm.mem_iff.mp hx)).1
    have h2 : (canon w).length * k ≤ N * k := Nat.mul_le_mul_right _ C.sz
    omega
  · obtain ⟨x, hx, c, hc⟩ := mem_names.mp hs
    exact (dk x (pm.mem_iff.mp hx)).2 _ hc
section
variable {M : MM} {p qf nl sp : Addr} {ns : List Int} {o : Obj} {ρ : Str → Rat} {ks signs : List Str} {t u : Tab} {Q : QD} {E : QX}
theorem sv_nf (q : Rat) : sv (nf q) = true := rfl
theorem dep_nf (q : Rat) : dep (nf q) < 6 := by show 1 < 6; decide
/-- value of a told polynomial against what is due -/
theorem two_step {w : Tab} {q : Rat} {R : Bool → MM → Prop} (h : TS M p qf ns) (hl : ns.length ≤ 63) (hs : M sp = some (.dct o (spD ρ ks))) (hsp : sp ≠ p) (hf : ∀ s, FrOk (ρ s)) (V : Vl (canon w)) (hn : ∀ s ∈ names (canon w), s ∈ ks) (l1 : (names (canon w)).length ≤ 100) (eq : smR (canon w) (evR ρ) = q)
    (k : ∀ M', TS M' p qf ns → Ex p M M' → R true M') :
    sp_variables [eP (canon w)] M (fun d M1 => cLst [d] M1 fun d2 M2 => sp_pairs_l [.ref p, d2, .ref sp] M2 (fun d3 M3 => sp_value [eP (canon w), d3] M3 (fun d4 M4 => sp_same_l 6 [d4, nf q] M4 (fun x M5 => ∃ b, truD M5 x = some b ∧ R b M5) E) E) E) E := by
  refine p_variables (rpo_eP _ _) (by have := V.sz; omega) V.ml fun M1 x1 => ?_
  refine ⟨_, _, _, rfl, fun z e => (by cases e), rfl, fun a ha => ?_⟩
  have f1 := h.ext x1
  have x2 := x1.trans (Ext.new (o := .lst ((vars (canon w)).map D.str)) ha)
  have vl : (vars (canon w)).length = (names (canon w)).length := by
    unfold vars
    rw [List.length_map, (srt_permS _).length_eq]
    unfold n0
    rw [List.length_map]
  refine p_pairs_l (h.ext x2) hl up_same (x2 _ _ hs) hsp (f1.ne ha).1 (fun s hs => hn s (mem_vars.mp hs)) (by omega) fun d L M3 f3 x3 hR hL lL => ?_
  refine p_value (rpo_eP _ _) hR (by omega) V hf (fun s hs => (hL s).mpr (mem_vars.mpr hs)) fun M4 x4 => ?_
  rw [eq]
  refine p_same 6 (sv_nf q) (dep_nf q) ?_
  exact ⟨true, rfl, k M4 (f3.ext x4) ((Ex.of x2).trans (x3.trans (.of x4)))⟩
theorem bb : 3 * 10 ^ 10 < top200 ∧ 3 * 10 ^ 10 + 3 * 10 ^ 10 < top200 ∧ 3 * 10 ^ 10 * (3 * 10 ^ 10) < top200 ∧ 3 * 10 ^ 10 + 3 * 10 ^ 10 < 2 ^ 400 ∧ 3 * 10 ^ 10 * (3 * 10 ^ 10) < 2 ^ 400 := by decide +kernel
theorem p_two_right (h : TS M p qf ns) (hl : ns.length ≤ 63) (hs : M sp = some (.dct o (spD ρ ks))) (hsp : sp ≠ p) (hf : ∀ s, FrOk (ρ s)) (hks : ∀ s ∈ signs, s ∈ ks) (s6 : signs.length ≤ 6)
    (dt : Dh t 3 ((3 : Nat) : Int) ((10 ^ 10 : Nat) : Int) signs) (du : Dh u 3 ((3 : Nat) : Int) ((10 ^ 10 : Nat) : Int) signs) (k : ∀ M', TS M' p qf ns → Ex p M M' → Q (.bl true) M') : sp_two_right_l [.ref p, .ref nl, .ref sp, eP (canon t), eP (canon u)] M Q E := by
  refine ⟨rfl, ?_⟩
  show w_two_right_l [some (.ref p), some (.ref nl), some (.ref sp), some (eP (canon t)), some (eP (canon u)), none, none, none, none, none] M _ _
  obtain ⟨b1, b2, b3, b4, b5⟩ := bb
  have P := dt.pk rfl
  have R := du.pk rfl
  have g400 : (((10 ^ 10 : Nat) : Int)).natAbs < 2 ^ 400 := by decide +kernel
  have D1 := dt.drt (by decide) (by decide) s6 (by decide) g400
  have D2 := du.drt (by decide) (by decide) s6 (by decide) g400
  obtain ⟨Kn1, hm1, R1, hk1⟩ := D1.rk
  obtain ⟨Kn2, hm2, R2, hk2⟩ := D2.rk
  have dgt : ∀ x ∈ t, dgr x.1 ≤ 3 ∧ ∀ p ∈ x.1, p.1 ∈ signs := fun x hx => ⟨by have := (dt.al x hx).2.2.2.2.1; omega, (dt.al x hx).2.2.2.2.2⟩
  have dgu : ∀ x ∈ u, dgr x.1 ≤ 3 ∧ ∀ p ∈ x.1, p.1 ∈ signs := fun x hx => ⟨by have := (du.al x hx).2.2.2.2.1; omega, (du.al x hx).2.2.2.2.2⟩
  have z2 : 2 ≤ sizeLine := by rw [sizeLine_eq]; decide
  (unfold w_two_right_l; obtain ⟨Tl, hTl⟩ : ∃ x, x = w_two_right_l_1 := ⟨_, rfl⟩; rw [← hTl]; simp only [wSeq, wAsg, wDrop, wRet, wRetN, wNext, wIfS, wBl, Fg.wTru, wOp, wUn, wCl, wCons, wNil, wVar, wCst, wTup, wLst, gNm, wCall, List.set_cons_zero, List.set_cons_succ, List.getElem?_cons_zero, List.getElem?_cons_succ, wFor, wWk, List.length_cons, List.length_nil]; subst hTl)
  refine addd (rpo_eP _ _) (rpo_eP _ _) P R b2 (by decide) (by decide) fun w1 M1 x1 W1 e1 => ?_
  refine ⟨z2, ?_⟩
  refine muld (rpo_eP _ _) (rpo_eP _ _) P R b1 b1 b3 (by decide) (by decide) (by decide) (by decide) fun w2 M2 x2 W2 e2 => ?_
  refine ⟨z2, z2, fun a ha => ?_⟩
  have x03 : Ext M (Fg.up M2 a (.lst [.tup [.str (Str.ofString "sum"), eP (canon w1)], .tup [.str (Str.ofString "product"), eP (canon w2)]])) := x1.trans (x2.trans (Ext.new ha))
  have m3 : Fg.up M2 a (.lst [.tup [.str (Str.ofString "sum"), eP (canon w1)], .tup [.str (Str.ofString "product"), eP (canon w2)]]) a = some (.lst [.tup [.str (Str.ofString "sum"), eP (canon w1)], .tup [.str (Str.ofString "product"), eP (canon w2)]]) := up_same
  have hap := (((h.ext x1).ext x2).ne ha).1
  generalize Fg.up M2 a (.lst [.tup [.str (Str.ofString "sum"), eP (canon w1)], .tup [.str (Str.ofString "product"), eP (canon w2)]]) = M3 at x03 m3 ⊢
  obtain ⟨st, hw, hst⟩ := walk_lst m3
  refine ⟨_, st, hw, ?_⟩
  -- values
  have q1 := frB_sm hf (t := canon t) fun x hx => Nat.le_of_lt (D1.vl.co x hx)
  have q2 := frB_sm hf (t := canon u) fun x hx => Nat.le_of_lt (D2.vl.co x hx)
  have sd1 : ((canon t).map fun x => dgr x.1).sum ≤ 9 := by
    have := sum_bd (t := canon t) (k := 3) fun x hx => (dgt x ((canon_perm P.nz).mem_iff.mp hx)).1
    have := P.canon.sz
    omega
  have sd2 : ((canon u).map fun x => dgr x.1).sum ≤ 9 := by
    have := sum_bd (t := canon u) (k := 3) fun x hx => (dgu x ((canon_perm R.nz).mem_iff.mp hx)).1
    have := R.canon.sz
    omega
  have l1 := P.canon.sz
  have l2 := R.canon.sz
  obtain ⟨V1, n1⟩ := vl_of (k := 3) W1 b4 (by decide) (by decide) e1 (signs := signs) (fun x hx => (List.mem_append.mp hx).elim (dgt x) (dgu x)) (by decide)
  obtain ⟨V2, n2⟩ := vl_of (k := 6) W2 b5 (by decide) (by decide) e2 (signs := signs) (fun x hx => by
    obtain ⟨y, hy, z, hz, rfl⟩ := mem_mul hx
    have gy := P.gk y hy
    have gz := R.gk z hz
    refine ⟨?_, fun q hq => ?_⟩
    · show dgr (J y.1 z.1) ≤ 6
      rw [dgr_JV gy gz]
      have := (dgt y hy).1
      have := (dgu z hz).1
      omega
    · rcases names_J gy gz hq with c | c
      · obtain ⟨v, hv, ev⟩ := List.mem_map.mp c
        rw [← ev]; exact (dgt y hy).2 v hv
      · obtain ⟨v, hv, ev⟩ := List.mem_map.mp c
        rw [← ev]; exact (dgu z hz).2 v hv) (by decide)
  have ev1 : smR (canon w1) (evR ρ) = smR (canon t) (evR ρ) + smR (canon u) (evR ρ) := by
    rw [smR_eqv ((canon_eqv w1).trans e1), smR_app, smR_eqv (canon_eqv t), smR_eqv (canon_eqv u)]
  have ev2 : smR (canon w2) (evR ρ) = smR (canon t) (evR ρ) * smR (canon u) (evR ρ) := by
    rw [smR_eqv ((canon_eqv w2).trans e2), smR_mul P.gk R.gk, smR_eqv (canon_eqv t), smR_eqv (canon_eqv u)]
  have nl1 : (names (canon w1)).length ≤ 100 := by
    have := nodup_le (l := names (canon w1)) (m := signs) (nd_names _) n1
    omega
  have nl2 : (names (canon w2)).length ≤ 100 := by
    have := nodup_le (l := names (canon w2)) (m := signs) (nd_names _) n2
    omega
  generalize hq1 : smR (canon t) (evR ρ) = A at q1 ev1 ev2
  generalize hq2 : smR (canon u) (evR ρ) = B at q2 ev1 ev2
  have c400 := c400
  have b20 := b20
  have b9a := b9.1
  have An := Nat.lt_trans (num_bits (by omega) (by omega) q1.num) b20
  have Bn := Nat.lt_trans (num_bits (by omega) (by omega) q2.num) b20
  have Ad := Nat.lt_trans (pw_bits (z := (A.den : Int)) (by rw [Int.natAbs_natCast]; exact q1.den) (by omega)) b9a
  have Bd := Nat.lt_trans (pw_bits (z := (B.den : Int)) (by rw [Int.natAbs_natCast]; exact q2.den) (by omega)) b9a
  have d0 : 0 < (A.den : Int) * (B.den : Int) := Int.mul_pos (by have := A.den_pos; omega) (by have := B.den_pos; omega)
  have dl : ((A.den : Int) * (B.den : Int)).natAbs.log2 < 9000 := by
    have : ((A.den : Int) * (B.den : Int)).natAbs < 2 ^ 8999 := pw_bits (k := ((canon t).map fun x => dgr x.1).sum + ((canon u).map fun x => dgr x.1).sum) (by
      rw [Int.natAbs_mul, Int.natAbs_natCast, Int.natAbs_natCast, Nat.pow_add]
      exact Nat.mul_le_mul q1.den q2.den) (by omega)
    have := log2_by this (by decide)
    omega
  have body : ∀ (top : Str) (w : Tab) (q : Rat) (M4 : MM) (N : EndsD) (E' : QS) (v7 v8 v9 : Option D) , TS M4 p qf ns → Ex p M M4 → Vl (canon w) → (∀ s ∈ names (canon w), s ∈ signs) → (names (canon w)).length ≤ 100 → smR (canon w) (evR ρ) = q → q = (if top = Str.ofString "sum" then A + B else A * B) →
      (∀ M5 v7 v8 v9, TS M5 p qf ns → Ex p M4 M5 → N.nx [some (.ref p), some (.ref nl), some (.ref sp), some (eP (canon t)), some (eP (canon u)), some (.str top), some (eP (canon w)), v7, v8, v9] M5) →
      (wSeq (wAsg (wCall sp_reckoned_l (wCons (wVar 3) (wCons (wVar 2) wNil))) (gNm 7))
  (wSeq (wAsg (wCall sp_reckoned_l (wCons (wVar 4) (wCons (wVar 2) wNil))) (gNm 8))
  (wSeq (wAsg (wCall sp_lowest_l (wCons (wOp dMul (wOp dIx (wVar 7) (wCst (.int 0))) (wOp dIx (wVar 8) (wCst (.int 0)))) (wCons (wOp dMul (wOp dIx (wVar 7) (wCst (.int 1))) (wOp dIx (wVar 8) (wCst (.int 1)))) wNil))) (gNm 9))
  (wSeq (wIfS (wBl (wOp dEq (wVar 5) (wCst (.str "sum")))) (wSeq (wAsg (wCall sp_lowest_l (wCons (wOp dAdd (wOp dMul (wOp dIx (wVar 7) (wCst (.int 0))) (wOp dIx (wVar 8) (wCst (.int 1)))) (wOp dMul (wOp dIx (wVar 8) (wCst (.int 0))) (wOp dIx (wVar 7) (wCst (.int 1))))) (wCons (wOp dMul (wOp dIx (wVar 7) (wCst (.int 1))) (wOp dIx (wVar 8) (wCst (.int 1)))) wNil))) (gNm 9))
  wNext) wNext)
  (wSeq (wIfS (wNotB (wTru (wCall (sp_same_l 6) (wCons (wCall sp_value (wCons (wVar 6) (wCons (wCall sp_pairs_l (wCons (wVar 0) (wCons (wCl cLst (wCons (wCall sp_variables (wCons (wVar 6) wNil)) wNil)) (wCons (wVar 2) wNil)))) wNil))) (wCons (wVar 9) wNil))))) (wSeq (wRet (wCst (.bl false)))
  wNext) wNext)
  wNext))))) [some (.ref p), some (.ref nl), some (.ref sp), some (eP (canon t)), some (eP (canon u)), some (.str top), some (eP (canon w)), v7, v8, v9] M4 N E' := fun top w q M4 N E' v7 v8 v9 f4 x4 V nw lw eqv eqq kk => by
    have s4 := x4.at hsp hs
    simp only [wSeq, wAsg, wDrop, wRet, wRetN, wNext, wIfS, wBl, Fg.wTru, wOp, wUn, wCl, wCons, wNil, wVar, wCst, wTup, wLst, gNm, wCall, List.set_cons_zero, List.set_cons_succ, List.getElem?_cons_zero, List.getElem?_cons_succ]
    refine p_reckoned_l s4 hf R1 (fun s hs => hks s (hk1 s hs)) fun M5 x5 => ?_
    refine p_reckoned_l (x5 _ _ s4) hf R2 (fun s hs => hks s (hk2 s hs)) fun M6 x6 => ?_
    rw [hq1, hq2]
    have x46 := x5.trans x6
    refine ixN0 (ixN0 ⟨mul_ok An Bn, ?_⟩)
    refine ixN1 (ixN1 ⟨mul_ok Ad Bd, ?_⟩)
    refine p_lowest_l d0 dl ?_
    rw [fr_mul2]
    simp only [dEq]
    have fin : ∀ v9, v9 = nf q → sp_variables [eP (canon w)] M6 (fun d M1 => cLst [d] M1 fun d2 M2 => sp_pairs_l [.ref p, d2, .ref sp] M2 (fun d3 M3 => sp_value [eP (canon w), d3] M3 (fun d4 M4 => sp_same_l 6 [d4, v9] M4 (fun x M5 => ∃ b, truD M5 x = some b ∧ (fun (b : Bool) M5 => if b = true then N.nx [some (.ref p), some (.ref nl), some (.ref sp), some (eP (canon t)), some (eP (canon u)), some (.str top), some (eP (canon w)), some (nf A), some (nf B), some v9] M5 else False) b M5) (fun x M1 => E' x [] M1)) (fun x M1 => E' x [] M1)) (fun x M1 => E' x [] M1)) (fun x M1 => E' x [] M1) := fun v9 ev9 => by
      subst ev9
      exact two_step (R := fun (b : Bool) M5 => if b = true then _ else False) (f4.ext x46) hl (x46 _ _ s4) hsp hf V (fun s hs => hks s (nw s hs)) lw eqv fun M7 f7 x7 => by
        rw [if_pos rfl]
        exact kk M7 _ _ _ f7 ((Ex.of x46).trans x7)
    by_cases c : top = Str.ofString "sum"
    · simp only [c, decide_true, if_true]
      refine ixN0 (ixN1 ⟨mul_ok An Bd, ?_⟩)
      refine ixN0 (ixN1 ⟨mul_ok Bn Ad, ?_⟩)
      simp only [dAdd]
      refine ixN1 (ixN1 ⟨mul_ok Ad Bd, ?_⟩)
      refine p_lowest_l d0 dl ?_
      rw [fr_add]
      rw [if_pos c] at eqq
      simp only [wNotB, wSeq, wAsg, wDrop, wRet, wRetN, wNext, wIfS, wBl, Fg.wTru, wOp, wUn, wCl, wCons, wNil, wVar, wCst, wTup, wLst, gNm, wCall, List.set_cons_zero, List.set_cons_succ, List.getElem?_cons_zero, List.getElem?_cons_succ]
      subst c
      rw [← eqq]
      refine two_step (R := fun (b : Bool) M5 => _) (f4.ext x46) hl (x46 _ _ s4) hsp hf V (fun s hs => hks s (nw s hs)) lw eqv fun M7 f7 x7 => ?_
      simp only [Bool.not_true, Bool.false_eq_true, if_false]
      exact kk M7 _ _ _ f7 ((Ex.of x46).trans x7)
    · simp only [c, decide_false, Bool.false_eq_true, if_false, wNotB, wSeq, wAsg, wDrop, wRet, wRetN, wNext, wIfS, wBl, Fg.wTru, wOp, wUn, wCl, wCons, wNil, wVar, wCst, wTup, wLst, gNm, wCall, List.set_cons_zero, List.set_cons_succ, List.getElem?_cons_zero, List.getElem?_cons_succ]
      rw [if_neg c] at eqq
      rw [← eqq]
      refine two_step (R := fun (b : Bool) M5 => _) (f4.ext x46) hl (x46 _ _ s4) hsp hf V (fun s hs => hks s (nw s hs)) lw eqv fun M7 f7 x7 => ?_
      simp only [Bool.not_true, Bool.false_eq_true, if_false]
      exact kk M7 _ _ _ f7 ((Ex.of x46).trans x7)
  have f3 := h.ext x03
  refine ⟨hst _ m3, ?_⟩
  refine ⟨[.str (Str.ofString "sum"), eP (canon w1)], rfl, rfl, ?_⟩
  simp only [gMany, gNm, List.set_cons_zero, List.set_cons_succ]
  refine body (Str.ofString "sum") w1 _ M3 _ _ _ _ _ f3 (.of x03) V1 n1 nl1 ev1 (by rw [if_pos rfl]) fun M5 v7 v8 v9 f5 x5 => ?_
  have m5 := x5.at hap m3
  refine ⟨hst _ m5, ?_⟩
  refine ⟨[.str (Str.ofString "product"), eP (canon w2)], rfl, rfl, ?_⟩
  simp only [gMany, gNm, List.set_cons_zero, List.set_cons_succ]
  have nsp : ¬ Str.ofString "product" = Str.ofString "sum" := by decide +kernel
  refine body (Str.ofString "product") w2 _ M5 _ _ _ _ _ f5 ((Ex.of x03).trans x5) V2 n2 nl2 ev2 (by rw [if_neg nsp]) fun M6 v7 v8 v9 f6 x6 => ?_
  refine ⟨hst _ (x6.at hap m5), ?_⟩
  simp only [w_two_right_l_1, wSeq, wAsg, wDrop, wRet, wRetN, wNext, wIfS, wBl, Fg.wTru, wOp, wUn, wCl, wCons, wNil, wVar, wCst, wTup, wLst, gNm, wCall, List.set_cons_zero, List.set_cons_succ, List.getElem?_cons_zero, List.getElem?_cons_succ]
  exact k M6 f6 ((Ex.of x03).trans (x5.trans x6))
end
end FgL
/-! V99: the law. -/
namespace FgL
open PySem PySem.Spec L2 Fg
open PyProof.Rows hiding St
theorem setR_all {P : Rat → Prop} {ρ : Str → Rat} {s : Str} {q : Rat} (h : ∀ x, P (ρ x)) (hq : P q) : ∀ x, P (setR ρ s q x) := fun x => by
  unfold setR
  split
  · exact hq
  · exact h x
theorem items_rm {M : MM} {p : Addr} {o : Obj} {kv : List (D × D)} (hp : M p = some (.dct o kv)) {x : D} {ds : List D} (z : itemsOf M x = some ds) : itemsOf (rm M p) x = some ds := by
  cases x with
  | ref b =>
    unfold itemsOf at z
    cases q : M b with
    | none => simp only [q] at z; cases z
    | some u =>
      cases u with
      | lst es =>
        simp only [q] at z
        cases z
        exact items_ref (rm_at q fun e => by rw [e, hp] at q; cases q)
      | _ => simp only [q] at z; cases z
  | _ => exact z
theorem g10 : (10 : Int) ^ (10 : Int).toNat = ((10 ^ 10 : Nat) : Int) ∧ (1000000 : Int) ≤ ((10 ^ 10 : Nat) : Int) ∧ (((10 ^ 10 : Nat) : Int)).natAbs.log2 < 8000 := by decide +kernel
theorem cpow10 : CPow 10 10 := by unfold CPow; decide +kernel
def tb_11 : WS :=
  (wSeq (wIfS (wNotB (wTru (wCall sp_two_right_l (wCons (wVar 1) (wCons (wVar 2) (wCons (wVar 6) (wCons (wVar 11) (wCons (wVar 12) wNil)))))))) (wSeq (wRet (wCst (.bl false)))
  wNext) wNext)
  wNext)
def tb_10 : WS :=
  (wSeq (wAsg (wCall sp_poly_l (wCons (wCall sp_table_l (wCons (wVar 1) (wCons (wVar 2) (wCons (wCst (.int 3)) (wCons (wCst (.int 3)) (wCons (wOp dPow (wCst (.int 10)) (wCst (.int 10))) wNil)))))) wNil)) (gNm 12))
  tb_11)
def tb_9 : WS :=
  (wSeq (wAsg (wCall sp_poly_l (wCons (wCall sp_table_l (wCons (wVar 1) (wCons (wVar 2) (wCons (wCst (.int 3)) (wCons (wCst (.int 3)) (wCons (wOp dPow (wCst (.int 10)) (wCst (.int 10))) wNil)))))) wNil)) (gNm 11))
  tb_10)
def tb_8 : WS :=
  (wSeq (wIfS (wAndB (wBl (wOp dGt (wCl cLen (wCons (wVar 8) wNil)) (wCst (.int 0)))) (wNotB (wTru (wCall sp_lacking_right_l (wCons (wVar 1) (wCons (wVar 5) (wCons (wVar 8) (wCons (wVar 6) wNil)))))))) (wSeq (wRet (wCst (.bl false)))
  wNext) wNext)
  tb_9)
def tb_7 : WS :=
  (wSeq (wIfS (wNotB (wTru (wCall (sp_same_l 6) (wCons (wCallK sp_value 0 2 [1, 0] wNil (wCons (wCall sp_pairs_l (wCons (wVar 1) (wCons (wVar 10) (wCons (wVar 6) wNil)))) (wCons (wVar 5) wNil))) (wCons (wVar 9) wNil))))) (wSeq (wRet (wCst (.bl false)))
  wNext) wNext)
  tb_8)
def tb_6 : WS :=
  (wSeq (wAsg (wOp dAdd (wVar 8) (wLc (wWk (wVar 2)) [7] (gNm 7) (wBl (wOp dNotIn (wVar 7) (wVar 8))) (wVar 7))) (gNm 10))
  tb_7)
def tb_5 : WS :=
  (wSeq (wIfS (wNotB (wTru (wCall (sp_same_l 6) (wCons (wCall sp_value (wCons (wCall sp_handed_l (wCons (wVar 1) (wCons (wVar 5) wNil))) (wCons (wCall sp_pairs_l (wCons (wVar 1) (wCons (wVar 8) (wCons (wVar 6) wNil)))) wNil))) (wCons (wVar 9) wNil))))) (wSeq (wRet (wCst (.bl false)))
  wNext) wNext)
  tb_6)
def tb_4 : WS :=
  (wSeq (wAsg (wCall sp_reckoned_l (wCons (wVar 5) (wCons (wVar 6) wNil))) (gNm 9))
  tb_5)
def tb_3 : WS :=
  (wSeq (wAsg (wCall sp_names_l (wCons (wVar 5) wNil)) (gNm 8))
  tb_4)
def tb_2 : WS :=
  (wSeq (wFor (wWk (wVar 2)) (gNm 7) (wSeq (wAsg (wCall sp_fraction_l (wCons (wVar 1) wNil)) (gSubD (wVar 6) (wVar 7)))
  wNext))
  tb_3)
def tb_1 : WS :=
  (wSeq (wAsg wDct0 (gNm 6))
  tb_2)
def tb : WS :=
  (wSeq (wAsg (wCall sp_drawn_l (wCons (wVar 1) (wCons (wVar 2) wNil))) (gNm 5))
  tb_1)
/-- one turn of the law -/
theorem p_turn {M : MM} {p qf nl : Addr} {ns : List Int} {signs : List Str} {N : EndsD} {E : QS} {v0 : Option D} (h : TS M p qf ns) (hl : ns.length ≤ 63) (hn : M nl = some (.lst (signs.map D.str))) (hnp : nl ≠ p) (s1 : 1 ≤ signs.length) (s6 : signs.length ≤ 6) (v3 v4 v5 v6 v7 v8 v9 v10 v11 v12 : Option D)
    (k : ∀ M' v5 v6 v7 v8 v9 v10 v11 v12, TS M' p qf ns → M' nl = some (.lst (signs.map D.str)) → N.nx [v0, some (.ref p), some (.ref nl), v3, v4, v5, v6, v7, v8, v9, v10, v11, v12] M') :
    tb [v0, some (.ref p), some (.ref nl), v3, v4, v5, v6, v7, v8, v9, v10, v11, v12] M N E := by
  (unfold tb; obtain ⟨Tl, hTl⟩ : ∃ x, x = tb_1 := ⟨_, rfl⟩; rw [← hTl]; simp only [wSeq, wAsg, wDrop, wRet, wRetN, wNext, wIfS, wBl, Fg.wTru, wOp, wUn, wCl, wCons, wNil, wVar, wCst, wTup, wLst, gNm, wCall, List.set_cons_zero, List.set_cons_succ, List.getElem?_cons_zero, List.getElem?_cons_succ]; subst hTl)
  refine p_drawn h hl hn hnp s1 s6 fun t M1 D1 f1 x1 => ?_
  have n1 := x1.at hnp hn
  (unfold tb_1; obtain ⟨Tl, hTl⟩ : ∃ x, x = tb_2 := ⟨_, rfl⟩; rw [← hTl]; simp only [wSeq, wAsg, wDrop, wRet, wRetN, wNext, wIfS, wBl, Fg.wTru, wOp, wUn, wCl, wCons, wNil, wVar, wCst, wTup, wLst, gNm, wCall, List.set_cons_zero, List.set_cons_succ, List.getElem?_cons_zero, List.getElem?_cons_succ, wDct0]; subst hTl)
  intro sp hsp
  have x2 : Ext M1 (Fg.up M1 sp (.dct dct0 [])) := Ext.new hsp
  have m2 : Fg.up M1 sp (.dct dct0 []) sp = some (.dct dct0 (spD (fun _ => (0 : Rat)) [])) := up_same
  have f2 := f1.ext x2
  have spp := (f1.ne hsp).1
  have spn : sp ≠ nl := fun e => by rw [e, n1] at hsp; cases hsp
  have n2 := x2 _ _ n1
  generalize Fg.up M1 sp (.dct dct0 []) = M2 at x2 m2 f2 n2 ⊢
  obtain ⟨st, hw, hst⟩ := walk_lst n2
  (unfold tb_2; obtain ⟨Tl, hTl⟩ : ∃ x, x = tb_3 := ⟨_, rfl⟩; rw [← hTl]; simp only [wSeq, wAsg, wDrop, wRet, wRetN, wNext, wIfS, wBl, Fg.wTru, wOp, wUn, wCl, wCons, wNil, wVar, wCst, wTup, wLst, gNm, wCall, List.set_cons_zero, List.set_cons_succ, List.getElem?_cons_zero, List.getElem?_cons_succ, wFor, wWk]; subst hTl)
  refine ⟨_, st, hw, ?_⟩
  refine for_rule (I := fun i ρ' M' => ∃ v7, ∃ (ρ : Str → Rat) (o : Obj), ρ' = [v0, some (.ref p), some (.ref nl), v3, v4, some (eP t), some (.ref sp), v7, v8, v9, v10, v11, v12] ∧ TS M' p qf ns ∧ M' nl = some (.lst (signs.map D.str)) ∧ M' sp = some (.dct o (spD ρ ((signs.take i).foldl addN []))) ∧ ∀ s, FrOk (ρ s))
    ⟨v7, fun _ => 0, dct0, rfl, f2, n2, by rw [List.take_zero]; exact m2, fun _ => frOk_int (z := 0) (by decide)⟩ (fun i d hx ρ' M3 ⟨v7, ρ, o, e1, f3, n3, m3, hf⟩ K hK => ⟨hst _ n3, ?_⟩) fun ρ' M3 ⟨v7, ρ, o, e1, f3, n3, m3, hf⟩ => ⟨hst _ n3, ?_⟩
  · subst e1
    rw [List.getElem?_map] at hx
    obtain ⟨s, hs2, rfl⟩ := Option.map_eq_some_iff.mp hx
    simp only [wSeq, wAsg, wDrop, wRet, wRetN, wNext, wIfS, wBl, Fg.wTru, wOp, wUn, wCl, wCons, wNil, wVar, wCst, wTup, wLst, gNm, wCall, List.set_cons_zero, List.set_cons_succ, List.getElem?_cons_zero, List.getElem?_cons_succ, gSubD]
    refine p_fraction_l f3 hl fun q M4 hq f4 x4 => ?_
    have m4 := x4.at spp m3
    have ln := foldl_addN_len (signs.take i) []
    rw [List.length_take, List.length_nil] at ln
    refine setF (s := s) (q := q) m4 (by rw [sizeLine_eq]; omega) fun o2 => ?_
    refine hK _ _ ⟨_, setR ρ s q, o2, rfl, f4.upd (f1.ne hsp), by rw [up_ne (Ne.symm spn)]; exact x4.at hnp n3, ?_, setR_all hf hq⟩
    rw [up_same, List.take_add_one, hs2]
    show _ = some (MO.dct o2 (spD (setR ρ s q) ((signs.take i ++ [s]).foldl addN [])))
    rw [List.foldl_append]
    rfl
  · subst e1
    rw [List.length_map, List.take_length] at m3
    have hks : ∀ s, s ∈ signs.foldl addN [] ↔ s ∈ signs := fun s => by rw [mem_fold]; simp
    have lks := foldl_addN_len signs []
    rw [List.length_nil] at lks
    generalize signs.foldl addN [] = ks at m3 hks lks
    have V := D1.vl
    obtain ⟨Kn, hm, R, hK⟩ := D1.rk
    have vin : ∀ s ∈ vars t, s ∈ signs := fun s hs => D1.nm s (mem_vars.mp hs)
    have vlen : (vars t).length ≤ 6 := by
      have := nodup_le (l := vars t) (m := signs) (nd_vars t) vin
      omega
    (unfold tb_3; obtain ⟨Tl, hTl⟩ : ∃ x, x = tb_4 := ⟨_, rfl⟩; rw [← hTl]; simp only [wSeq, wAsg, wDrop, wRet, wRetN, wNext, wIfS, wBl, Fg.wTru, wOp, wUn, wCl, wCons, wNil, wVar, wCst, wTup, wLst, gNm, wCall, List.set_cons_zero, List.set_cons_succ, List.getElem?_cons_zero, List.getElem?_cons_succ]; subst hTl)
    refine p_names_l V.gk V.sz V.ml fun a8 M4 x4 ha8 m4 => ?_
    have f4 := f3.ext x4
    have a8p := (f3.ne ha8).1
    (unfold tb_4; obtain ⟨Tl, hTl⟩ : ∃ x, x = tb_5 := ⟨_, rfl⟩; rw [← hTl]; simp only [wSeq, wAsg, wDrop, wRet, wRetN, wNext, wIfS, wBl, Fg.wTru, wOp, wUn, wCl, wCons, wNil, wVar, wCst, wTup, wLst, gNm, wCall, List.set_cons_zero, List.set_cons_succ, List.getElem?_cons_zero, List.getElem?_cons_succ]; subst hTl)
    refine p_reckoned_l (x4 _ _ m3) hf R (fun s hs => (hks s).mpr (hK s hs)) fun M5 x5 => ?_
    have f5 := f4.ext x5
    (unfold tb_5; obtain ⟨Tl, hTl⟩ : ∃ x, x = tb_6 := ⟨_, rfl⟩; rw [← hTl]; simp only [wSeq, wAsg, wDrop, wRet, wRetN, wNext, wIfS, wBl, Fg.wTru, wOp, wUn, wCl, wCons, wNil, wVar, wCst, wTup, wLst, gNm, wCall, List.set_cons_zero, List.set_cons_succ, List.getElem?_cons_zero, List.getElem?_cons_succ, wNotB]; subst hTl)
    refine p_handed f5 hl (by have := V.sz; omega) V.ml fun d M6 hd f6 x6 => ?_
    have x36 : Ex p M3 M6 := (Ex.of (x4.trans x5)).trans x6
    have m6 := x36.at spp m3
    have a6 := x6.at a8p (x5 _ _ m4)
    have hdE : ∀ {M7 : MM}, Ex p M6 M7 → TS M7 p qf ns → RPo M7 d t := fun {M7} x7 f7 => by
      obtain ⟨o, a, v, dd, mm, ss, hp, _⟩ := f6
      have e : Ext (rm M6 p) M7 := fun b ob hb => by
        unfold rm at hb
        by_cases c : b = p
        · rw [if_pos c] at hb; cases hb
        · rw [if_neg c] at hb
          exact x7 b ob c hb
      have hi : ∀ {x : D} {ds : List D}, itemsOf M6 x = some ds → itemsOf (rm M6 p) x = some ds := fun z => items_rm hp z
      have q : RPo (rm M6 p) d t := by
        obtain ⟨ds, h1, h2⟩ := hd
        refine ⟨ds, hi h1, Paired.mapP h2 fun _ _ z => ?_⟩
        obtain ⟨dm, z1, es, z2, z3⟩ := z
        exact ⟨dm, hi z1, es, hi z2, Paired.mapP z3 fun _ _ w => hi w⟩
      exact q.ext e
    refine p_pairs_l f6 hl a6 m6 spp a8p (fun s hs => (hks s).mpr (vin s hs)) (by omega) fun d2 L M7 f7 x7 hR hL lL => ?_
    refine p_value (hdE x7 f7) hR (by omega) V hf (fun s hs => (hL s).mpr (mem_vars.mpr hs)) fun M8 x8 => ?_
    refine p_same 6 (sv_nf _) (dep_nf _) ?_
    refine ⟨true, rfl, ?_⟩
    simp only [Bool.not_true, Bool.false_eq_true, if_false]
    (unfold tb_6; obtain ⟨Tl, hTl⟩ : ∃ x, x = tb_7 := ⟨_, rfl⟩; rw [← hTl]; simp only [wSeq, wAsg, wDrop, wRet, wRetN, wNext, wIfS, wBl, Fg.wTru, wOp, wUn, wCl, wCons, wNil, wVar, wCst, wTup, wLst, gNm, wCall, List.set_cons_zero, List.set_cons_succ, List.getElem?_cons_zero, List.getElem?_cons_succ, wLc, wWk]; subst hTl)
    have f8 := f7.ext x8
    have x38 : Ex p M3 M8 := x36.trans (x7.trans (.of x8))
    have n8 := x38.at hnp n3
    have m8 := x38.at spp m3
    have a8' := x8 _ _ (x7.at a8p a6)
    obtain ⟨st8, hw8, hst8⟩ := walk_lst n8
    refine ⟨_, st8, hw8, fun b hb => ?_⟩
    refine lc_map (xs := signs) hb D.str D.str (fun s => !decide (s ∈ vars t)) (fun M' z => hst8 M' (z _ _ n8)) (by rw [sizeLine_eq]; omega) (fun s hs M9 x9 K1 K0 k1 k0 => ?_) fun M9 x9 h9 => ?_
    · simp only [wSeq, wAsg, wDrop, wRet, wRetN, wNext, wIfS, wBl, Fg.wTru, wOp, wUn, wCl, wCons, wNil, wVar, wCst, wTup, wLst, gNm, wCall, List.set_cons_zero, List.set_cons_succ, List.getElem?_cons_zero, List.getElem?_cons_succ, wipeD]
      refine nin_lst (x9 _ _ a8') ?_
      cases q : decide (s ∈ vars t) with
      | true => simp only [Bool.not_true, Bool.false_eq_true, if_false]; exact k0 (by rw [q]; rfl) M9 (Ext.refl _)
      | false => simp only [Bool.not_false, if_true]; exact k1 (by rw [q]; rfl) M9 (Ext.refl _)
    · have flen := List.length_filter_le (fun s => !decide (s ∈ vars t)) signs
      simp only [dAdd]
      refine ⟨_, _, x9 _ _ a8', h9, by rw [List.length_map, List.length_map, sizeLine_eq]; omega, fun c hc => ?_⟩
      rw [← List.map_append]
      have x10 : Ext M8 (Fg.up M9 c (.lst ((vars t ++ signs.filter fun s => !decide (s ∈ vars t)).map D.str))) := x9.trans (Ext.new hc)
      have c10 : Fg.up M9 c (.lst ((vars t ++ signs.filter fun s => !decide (s ∈ vars t)).map D.str)) c = some (.lst ((vars t ++ signs.filter fun s => !decide (s ∈ vars t)).map D.str)) := up_same
      have cp := ((f8.ext x9).ne hc).1
      generalize Fg.up M9 c (.lst ((vars t ++ signs.filter fun s => !decide (s ∈ vars t)).map D.str)) = M10 at x10 c10 ⊢
      have f10 := f8.ext x10
      (unfold tb_7; obtain ⟨Tl, hTl⟩ : ∃ x, x = tb_8 := ⟨_, rfl⟩; rw [← hTl]; simp only [wSeq, wAsg, wDrop, wRet, wRetN, wNext, wIfS, wBl, Fg.wTru, wOp, wUn, wCl, wCons, wNil, wVar, wCst, wTup, wLst, gNm, wCall, List.set_cons_zero, List.set_cons_succ, List.getElem?_cons_zero, List.getElem?_cons_succ, wNotB, wCallK]; subst hTl)
      refine p_pairs_l f10 hl c10 (x10 _ _ m8) spp cp (fun s hs => (hks s).mpr ((List.mem_append.mp hs).elim (vin s) fun z => (List.mem_filter.mp z).1)) (by rw [List.length_append]; omega) fun d3 L3 M11 f11 x11 hR3 hL3 lL3 => ?_
      refine ⟨rfl, rfl, ?_⟩
      refine p_value (rpo_eP _ _) hR3 (by omega) V hf (fun s hs => (hL3 s).mpr (List.mem_append_left _ (mem_vars.mpr hs))) fun M12 x12 => ?_
      refine p_same 6 (sv_nf _) (dep_nf _) ?_
      refine ⟨true, rfl, ?_⟩
      simp only [Bool.not_true, Bool.false_eq_true, if_false]
      (unfold tb_8; obtain ⟨Tl, hTl⟩ : ∃ x, x = tb_9 := ⟨_, rfl⟩; rw [← hTl]; simp only [wSeq, wAsg, wDrop, wRet, wRetN, wNext, wIfS, wBl, Fg.wTru, wOp, wUn, wCl, wCons, wNil, wVar, wCst, wTup, wLst, gNm, wCall, List.set_cons_zero, List.set_cons_succ, List.getElem?_cons_zero, List.getElem?_cons_succ, wAndB, wNotB, cLen]; subst hTl)
      have f12 := f11.ext x12
      have x312 : Ex p M3 M12 := x38.trans ((Ex.of x10).trans (x11.trans (.of x12)))
      have n12 := x312.at hnp n3
      have m12 := x312.at spp m3
      have a12 := x12 _ _ (x11.at a8p (x10 _ _ a8'))
      refine ⟨_, _, rfl, lenD_lst a12, ?_⟩
      rw [List.length_map]
      -- behind what lacks
      have rest : ∀ M13, TS M13 p qf ns → M13 nl = some (.lst (signs.map D.str)) → M13 sp = some (.dct o (spD ρ ks)) →
          tb_9 [v0, some (.ref p), some (.ref nl), v3, v4, some (eP t), some (.ref sp), v7, some (.ref a8), some (nf (smR t (evR ρ))), some (.ref c), v11, v12] M13 N E := fun M13 f13 n13 m13 => by
        obtain ⟨e10, g0, g1⟩ := g10
        (unfold tb_9; obtain ⟨Tl, hTl⟩ : ∃ x, x = tb_10 := ⟨_, rfl⟩; rw [← hTl]; simp only [wSeq, wAsg, wDrop, wRet, wRetN, wNext, wIfS, wBl, Fg.wTru, wOp, wUn, wCl, wCons, wNil, wVar, wCst, wTup, wLst, gNm, wCall, List.set_cons_zero, List.set_cons_succ, List.getElem?_cons_zero, List.getElem?_cons_succ, dPow, e10]; subst hTl)
        refine ⟨cpow10, ?_⟩
        refine p_table (n := 3) (hgt := ((3 : Nat) : Int)) f13 hl n13 hnp s1 s6 (by decide) g0 (by decide) g1 fun b1 ob1 t1 M14 _ _ e14 dt f14 x14 => ?_
        refine p_poly e14 dt.nd (Nat.le_trans dt.sz (by decide)) fun M15 x15 => ?_
        (unfold tb_10; obtain ⟨Tl, hTl⟩ : ∃ x, x = tb_11 := ⟨_, rfl⟩; rw [← hTl]; simp only [wSeq, wAsg, wDrop, wRet, wRetN, wNext, wIfS, wBl, Fg.wTru, wOp, wUn, wCl, wCons, wNil, wVar, wCst, wTup, wLst, gNm, wCall, List.set_cons_zero, List.set_cons_succ, List.getElem?_cons_zero, List.getElem?_cons_succ, dPow, e10]; subst hTl)
        refine ⟨cpow10, ?_⟩
        have n15 := x15 _ _ (x14.at hnp n13)
        refine p_table (n := 3) (hgt := ((3 : Nat) : Int)) (f14.ext x15) hl n15 hnp s1 s6 (by decide) g0 (by decide) g1 fun b2 ob2 t2 M16 _ _ e16 du f16 x16 => ?_
        refine p_poly e16 du.nd (Nat.le_trans du.sz (by decide)) fun M17 x17 => ?_
        have m17 := x17 _ _ (x16.at spp (x15 _ _ (x14.at spp m13)))
        have n17 := x17 _ _ (x16.at hnp n15)
        simp only [tb_11, wNotB, wSeq, wAsg, wDrop, wRet, wRetN, wNext, wIfS, wBl, Fg.wTru, wOp, wUn, wCl, wCons, wNil, wVar, wCst, wTup, wLst, gNm, wCall, List.set_cons_zero, List.set_cons_succ, List.getElem?_cons_zero, List.getElem?_cons_succ]
        refine p_two_right (f16.ext x17) hl m17 spp hf (fun s hs => (hks s).mpr hs) s6 dt du fun M18 f18 x18 => ?_
        refine ⟨true, rfl, ?_⟩
        simp only [Bool.not_true, Bool.false_eq_true, if_false]
        exact k M18 _ _ _ _ _ _ _ _ f18 (x18.at hnp n17)
      simp only [dGt, dOrd]
      by_cases c0 : (0 : Int) < ((vars t).length : Int)
      · simp only [c0, decide_true, if_true]
        refine p_lacking f12 hl a12 m12 spp a8p (fun s hs => (hks s).mpr (vin s hs)) (by omega) (by omega) (by omega) V hf fun M13 f13 x13 => ?_
        refine ⟨true, rfl, ?_⟩
        simp only [Bool.not_true, Bool.false_eq_true, if_false]
        exact rest M13 f13 (x13.at hnp n12) (x13.at spp m12)
      · simp only [c0, decide_false, Bool.false_eq_true, if_false]
        exact rest M12 f12 n12 m12
theorem one_vl {c : Int} (h : c.natAbs < 2 ^ 400) : Vl [([], c)] := ⟨fun x hx => by rw [List.mem_singleton] at hx; subst hx; exact good_nil, by show 0 ≤ 60; decide, fun x hx => by rw [List.mem_singleton] at hx; subst hx; exact h, by show 1 ≤ 100; decide, fun x hx => by rw [List.mem_singleton] at hx; subst hx; exact Nat.zero_le _⟩
theorem nil_vl : Vl [] := ⟨fun _ h => (nomatch h), by show 0 ≤ 60; decide, fun _ h => (nomatch h), Nat.zero_le _, fun _ h => (nomatch h)⟩
theorem p_law {M : MM} {ns : List Int} {Q : QD} {E : QX} (hl : ns.length ≤ 63) (k : ∀ M', Q (.bl true) M') : sp_law [script ns] M Q E := by
  refine ⟨rfl, ?_⟩
  show w_law [some (script ns), none, none, none, none, none, none, none, none, none, none, none, none] M _ _
  (unfold w_law; obtain ⟨Tl, hTl⟩ : ∃ x, x = w_law_1 := ⟨_, rfl⟩; rw [← hTl]; simp only [wSeq, wAsg, wDrop, wRet, wRetN, wNext, wIfS, wBl, Fg.wTru, wOp, wUn, wCl, wCons, wNil, wVar, wCst, wTup, wLst, gNm, wCall, List.set_cons_zero, List.set_cons_succ, List.getElem?_cons_zero, List.getElem?_cons_succ]; subst hTl)
  refine p_tape hl fun p qf M1 hp f1 x1 => ?_
  (unfold w_law_1; obtain ⟨Tl, hTl⟩ : ∃ x, x = w_law_2 := ⟨_, rfl⟩; rw [← hTl]; simp only [wSeq, wAsg, wDrop, wRet, wRetN, wNext, wIfS, wBl, Fg.wTru, wOp, wUn, wCl, wCons, wNil, wVar, wCst, wTup, wLst, gNm, wCall, List.set_cons_zero, List.set_cons_succ, List.getElem?_cons_zero, List.getElem?_cons_succ]; subst hTl)
  refine p_signs f1 hl fun nl signs M2 hne hnl e2 l1 l6 f2 x2 => ?_
  (unfold w_law_2; obtain ⟨Tl, hTl⟩ : ∃ x, x = w_law_3 := ⟨_, rfl⟩; rw [← hTl]; simp only [wSeq, wAsg, wDrop, wRet, wRetN, wNext, wIfS, wBl, Fg.wTru, wOp, wUn, wCl, wCons, wNil, wVar, wCst, wTup, wLst, gNm, wCall, List.set_cons_zero, List.set_cons_succ, List.getElem?_cons_zero, List.getElem?_cons_succ, wFor, wRng1]; subst hTl)
  refine ⟨_, rfl, by decide, by decide, ?_⟩
  refine for_rule (I := fun i ρ' M' => ∃ v3 v5 v6 v7 v8 v9 v10 v11 v12, ρ' = [some (script ns), some (.ref p), some (.ref nl), v3, none, v5, v6, v7, v8, v9, v10, v11, v12] ∧ TS M' p qf ns ∧ M' nl = some (.lst (signs.map D.str)))
    ⟨none, none, none, none, none, none, none, none, none, rfl, f2, e2⟩ (fun i d hx ρ' M3 ⟨v3, v5, v6, v7, v8, v9, v10, v11, v12, e1, f3, n3⟩ K hK => ⟨trivial, ?_⟩) fun ρ' M3 ⟨v3, v5, v6, v7, v8, v9, v10, v11, v12, e1, f3, n3⟩ => ⟨trivial, ?_⟩
  · subst e1
    simp only [gNm, List.set_cons_zero, List.set_cons_succ]
    refine p_turn f3 hl n3 hne l1 l6 _ _ _ _ _ _ _ _ _ _ fun M4 v5 v6 v7 v8 v9 v10 v11 v12 f4 n4 => ?_
    exact hK _ _ ⟨_, v5, v6, v7, v8, v9, v10, v11, v12, rfl, f4, n4⟩
  · subst e1
    (unfold w_law_3; obtain ⟨Tl, hTl⟩ : ∃ x, x = w_law_4 := ⟨_, rfl⟩; rw [← hTl]; simp only [wSeq, wAsg, wDrop, wRet, wRetN, wNext, wIfS, wBl, Fg.wTru, wOp, wUn, wCl, wCons, wNil, wVar, wCst, wTup, wLst, gNm, wCall, List.set_cons_zero, List.set_cons_succ, List.getElem?_cons_zero, List.getElem?_cons_succ, dPow]; subst hTl)
    refine ⟨cpow40, ?_⟩
    refine p_factor f3 hl bits40.2.1 bits40.1 fun c M4 c0 c1 f4 x4 => ?_
    have z1 : 1 ≤ sizeLine ∧ 2 ≤ sizeLine := by rw [sizeLine_eq]; decide
    simp only [w_law_4, wSeq, wAsg, wDrop, wRet, wRetN, wNext, wIfS, wBl, Fg.wTru, wOp, wUn, wCl, wCons, wNil, wVar, wCst, wTup, wLst, gNm, wCall, List.set_cons_zero, List.set_cons_succ, List.getElem?_cons_zero, List.getElem?_cons_succ, wAndV, List.length_cons, List.length_nil, Nat.zero_add, Nat.reduceAdd, z1, Nat.zero_le, true_and]
    have pv : (D.tup [.tup [.tup [], .int c]]) = eP [([], c)] := rfl
    have c1 : (c.natAbs : Int) ≤ 10 ^ 40 := c1
    have hc : c.natAbs < 2 ^ 400 := by have := bits40.2.2; omega
    have zf : ∀ s : Str, FrOk ((fun _ => (0 : Rat)) s) := fun _ => frOk_int (z := 0) (by decide)
    rw [pv]
    refine p_value (L := []) (ρ := fun _ => 0) (rpo_eP _ _) ⟨[], rfl, .nil⟩ (by decide) (one_vl hc) zf (fun s hs => ?_) fun M5 x5 => ?_
    · obtain ⟨x, hx, y, hy⟩ := mem_names.mp hs
      rw [List.mem_singleton] at hx
      subst hx
      cases hy
    · have e : smR [(([] : Mono), c)] (evR fun _ => 0) = (c : Rat) := by
        show (c : Rat) * 1 + 0 = _
        grind
      rw [e, nf_int]
      refine p_same 6 rfl (by rw [dep]; show 0 + 1 < 6; decide) ?_
      refine ⟨true, rfl, ?_⟩
      simp only [if_true]
      intro a ha
      refine p_value (L := []) (ρ := fun _ => 0) (t := []) ⟨[], rfl, .nil⟩ ⟨[], items_ref up_same, .nil⟩ (by decide) nil_vl zf (fun s hs => ?_) fun M6 x6 => ?_
      · obtain ⟨x, hx, _⟩ := mem_names.mp hs
        cases hx
      · have e : smR [] (evR fun _ => 0) = ((0 : Int) : Rat) := rfl
        rw [e, nf_int]
        exact p_same 6 rfl (by rw [dep]; show 0 + 1 < 6; decide) (k M6)
end FgL
namespace FgL
open PySem PySem.Spec L2 Fg
open PyProof.Rows hiding St
theorem law_ok (ns : List Int) (hn : ns.length ≤ 63) : spW ["_law_script", "_law_tape_here", "_law_signs_here", "_law_turn", "_law_number", "_law_poly_here", "_law_spot", "_law_sign", "_law_names_here", "_law_due", "_law_more", "_law_small", "_law_other"] 1 w_law [script ns] (fun _ => none) (fun d _ => d = .bl true) noX := p_law hn fun _ => rfl
def loose0 : List Str := ["FigureError", "TooMany", "NothingThere", "MOST_TERMS", "MOST_FIGURES", "PLAIN", "frozen", "least_with", "is_great", "checked", "counts_of", "monomial_product", "add_times", "counts_product", "added", "multiplied", "variables", "divisor_of", "fraction", "value", "_law_tape", "_law_load", "_law_draw", "_law_same", "_law_signs", "_law_factor", "_law_table", "_law_poly", "_law_handed", "_law_divisor"]
def loose1 : List Str := ["_law_lowest", "_law_fraction", "_law_own_raised", "_law_reckoned", "_law_pairs", "_law_names", "_law_lacking_right", "_law_drawn", "_law_two_right"]
def loose : List Str := loose0 ++ loose1
abbrev R : PySem.W.OpenRow := PySem.W.OpenLaw.row PySem.Challenge.rw_figurehold_k05_numbers_by_fractions
def ob (s : PySem.W.SharedT) : AlF := hd.obs (HandSHeadRun.getT s)
theorem run (w : World) : HandSHeadRun.RunEq R (PySem.W.view R.prog [42]) hd.hook ob 20000 loose w := by
  intro os
  kernel_rfl
end FgL
open PySem PySem.W PySem.Calls PyProof.Rows in
theorem PySem.Challenge.cw_figurehold_k05_numbers_by_fractions_holds : PySem.Challenge.rw_figurehold_k05_numbers_by_fractions.Holds := by
  w_on; o_law
  refine HandSHeadRun.head_any (r := FgL.R) (q := view FgL.R.prog [42]) (H := FgL.hd.hook) (ob := FgL.ob) (M := 20000) (loose := FgL.loose) (d := HandSHeadRun.topDef FgL.R.prog 42) (kwd := []) FgL.hd.obs_eq
    (by kernel_rfl) (fun s => by kernel_rfl) FgL.run (by kernel_rfl) (by kernel_rfl) (by kernel_rfl) (by rfl) (by first | assumption | decide +kernel) (by decide +kernel) ⟨rfl, rfl, rfl, rfl, rfl, by decide +kernel⟩ ?hw ?hc
  case hw => w_witness2
  case hc =>
    exact Fg.walk_law (l := PySem.Challenge.rw_figurehold_k05_numbers_by_fractions) (hd := FgL.hd) (k := 7) (i := 33) (j := 56) (x := "_law_script") (N := ["_law_script", "_law_tape_here", "_law_signs_here", "_law_turn", "_law_number", "_law_poly_here", "_law_spot", "_law_sign", "_law_names_here", "_law_due", "_law_more", "_law_small", "_law_other"]) (wl := FgL.w_law) (d := FgL.d_law) rfl rfl ⟨rfl, by decide, by decide⟩ (by kernel_rfl) rfl rfl ⟨rfl, rfl⟩ rfl ⟨rfl, rfl, rfl, by decide +kernel, rfl, by decide +kernel, by decide +kernel⟩
      (fun _ _ _ _ _ _ us hl => match us, hl with | [_], _ => rfl) rfl (by decide +kernel) (fun U F => FgL.k_law F) FgL.law_ok
