import PyProof.Rows.All
import Wide.All
import OpenK.AllK
import Wide.FinOn
import HandS.ForMost
import HandS.ForExc
import HandS.CallSlots
import HandS.TryMany
import HandS.ExcSuper
import HandS.Hot
import HandS.HeadHook2
import HandS.HeadEnd
import HandS.TupAny
import HandS.Flow
import HandS.WideMore
import KE.KDictKeyed
import KE.LtData
import KE.DataEq
import KE.DataCmp
import HandS.IsInst
import HandS.Text
import HandS.RaiseMore
import HandS.More
import HandS.TupLen
import HandS.Comp
import HandS.Defaults
import HandS.Iter
import HandS.TryOnly
import HandS.ExcCtx
import HandS.HotCalls
import HandS.ExcInit
import KE.KExcSuper
import HandS.ExcField
import HandS.ExcIs
import HandS.Head2
import PySem.Challenge.RW_figurehold_k00_errors
set_option Elab.async false
set_option linter.all false
set_option maxRecDepth 100000
set_option maxHeartbeats 0
/-! Fg1: values by content, a heap of what changes, and how they stand for the layer's values and heaps. -/
namespace Fg
open PySem PySem.Spec L2
open PyProof.Rows hiding St

/-- a value by its content; ref: an object that may change (or a class, a def) -/
inductive D where
  | non | bl (b : Bool) | int (i : Int) | str (x : Str) | ty (n : String)
  | tup (ds : List D) | rol (ds : List D) | ref (a : Addr)

/-- an object that may change -/
inductive MO where
  | lst (ds : List D)
  | dct (kvs : List (D × D))
  | ins (c : Str) (fs : List (Str × D))
  /-- what a caught exception holds -/
  | xd (f : Str) (d : D)

abbrev MM := Addr → Option MO
def up (M : MM) (a : Addr) (o : MO) : MM := fun b => if b = a then some o else M b
theorem up_same {M : MM} {a : Addr} {o : MO} : up M a o a = some o := by unfold up; rw [if_pos rfl]
theorem up_ne {M : MM} {a b : Addr} {o : MO} (h : b ≠ a) : up M a o b = M b := by unfold up; rw [if_neg h]
theorem up_up {M : MM} {a : Addr} {o u : MO} : up (up M a o) a u = up M a u := by
  funext b; unfold up; split <;> rfl
abbrev En := List (Option D)
/-- an exception of a class of the text, with its one attribute -/
structure Xn where
  c : Str
  f : Str
  v : D

/-! ### keys -/
mutual
/-- the key that a value is -/
def dkey : D → Option NestedKey
  | .non => some .none
  | .int i => some (.num i)
  | .str x => some (.text x)
  | .tup ds => (dkeys ds).map .tup
  | .bl _ => none
  | .ty _ => none
  | .rol _ => none
  | .ref _ => none
def dkeys : List D → Option (List NestedKey)
  | [] => some []
  | d :: ds => match dkey d, dkeys ds with
    | some k, some ks => some (k :: ks)
    | _, _ => none
end

def isAt : D → Bool
  | .int _ => true
  | .str _ => true
  | _ => false
def isTu : D → Bool
  | .tup _ => true
  | _ => false
/-- the keys are of one kind: numbers and texts, or tuples -/
def uni (kvs : List (D × D)) : Prop := (∀ p ∈ kvs, isAt p.1 = true) ∨ ∀ p ∈ kvs, isTu p.1 = true
/-! ### how data stand in the layer's heap -/
section
variable (K : PySem.W.Frag) (H : Hp)
/-- a list that stands as it is -/
def Fz (a : Addr) (vs : List V) : Prop := (∃ o, H a = some (.frz o (.lst vs))) ∨
  ∃ (o : Obj) (its : Array Value) (n : Nat), K.lookup a = some o ∧ o.cls = .type "list" ∧ o.dict = none ∧ o.data = .seq its n ∧ its.size ≤ sizeLine ∧ Vals vs its.toList
mutual
inductive RD : D → V → Prop
  | non : RD .non .non
  | bl (b : Bool) : RD (.bl b) (.bl b)
  | int (i : Int) : RD (.int i) (.int i)
  | str (x : Str) : RD (.str x) (.str x)
  | ty (n : String) : RD (.ty n) (.ty n)
  | tup {a : Addr} {vs : List V} {ds : List D} : SqT K H a vs → RDs ds vs → RD (.tup ds) (.ref a)
  | rol {a : Addr} {vs : List V} {ds : List D} : Fz K H a vs → RDs ds vs → RD (.rol ds) (.ref a)
  | ref (a : Addr) : RD (.ref a) (.ref a)
inductive RDs : List D → List V → Prop
  | nil : RDs [] []
  | cons {d : D} {v : V} {ds : List D} {vs : List V} : RD d v → RDs ds vs → RDs (d :: ds) (v :: vs)
end
end
/-- what never goes: tuples, what stands as it is -/
structure Stb (H H' : Hp) : Prop where
  tup : ∀ a xs, H a = some (.tup xs) → H' a = some (.tup xs)
  frz : ∀ a o u, H a = some (.frz o u) → H' a = some (.frz o u)
theorem Stb.refl (H : Hp) : Stb H H := ⟨fun _ _ h => h, fun _ _ _ h => h⟩
theorem Stb.trans {H H1 H2 : Hp} (a : Stb H H1) (b : Stb H1 H2) : Stb H H2 := ⟨fun c xs h => b.tup c xs (a.tup c xs h), fun c o u h => b.frz c o u (a.frz c o u h)⟩
theorem Stb.new {H : Hp} {p : Addr} {o : HO} (h : H p = none) : Stb H (upd H p o) :=
  ⟨fun c xs e => by rw [upd_ne (ne_of_none e h)]; exact e, fun c ob u e => by rw [upd_ne (ne_of_none e h)]; exact e⟩
theorem Stb.mut {H : Hp} {p : Addr} {o : HO} (h : Mut (H p)) : Stb H (upd H p o) :=
  ⟨fun c xs e => by
    rw [upd_ne (fun z => by subst z; rw [e] at h; exact h)]
    exact e, fun c ob u e => by
    rw [upd_ne (fun z => by subst z; rw [e] at h; exact h)]
    exact e⟩
section
variable {K : PySem.W.Frag} {H H' : Hp}
theorem _root_.L2.Rd.stbT {a : Addr} {xs : List V} (s : Stb H H') (h : Rd H a (.tup xs)) : Rd H' a (.tup xs) := by
  rcases h with h | ⟨o, h⟩
  · exact .inl (s.tup _ _ h)
  · exact .inr ⟨o, s.frz _ _ _ h⟩
theorem _root_.L2.SqT.stb {a : Addr} {xs : List V} (s : Stb H H') (h : SqT K H a xs) : SqT K H' a xs := by
  rcases h with h | h
  · exact .inl (Rd.stbT s h)
  · exact .inr h
theorem Fz.stb {a : Addr} {xs : List V} (s : Stb H H') (h : Fz K H a xs) : Fz K H' a xs := by
  rcases h with ⟨o, h⟩ | h
  · exact .inl ⟨o, s.frz _ _ _ h⟩
  · exact .inr h
theorem Fz.sq {a : Addr} {xs : List V} (h : Fz K H a xs) : SqL K H a xs := by
  rcases h with ⟨o, h⟩ | h
  · exact .inl (.inr ⟨o, h⟩)
  · exact .inr h
mutual
theorem RD.stb (s : Stb H H') : ∀ {d : D} {v : V}, RD K H d v → RD K H' d v
  | _, _, .non => .non
  | _, _, .bl b => .bl b
  | _, _, .int i => .int i
  | _, _, .str x => .str x
  | _, _, .ty n => .ty n
  | _, _, .tup h r => .tup (SqT.stb s h) (RDs.stb s r)
  | _, _, .rol h r => .rol (Fz.stb s h) (RDs.stb s r)
  | _, _, .ref a => .ref a
theorem RDs.stb (s : Stb H H') : ∀ {ds : List D} {vs : List V}, RDs K H ds vs → RDs K H' ds vs
  | _, _, .nil => .nil
  | _, _, .cons h r => .cons (RD.stb s h) (RDs.stb s r)
end
theorem RDs.length : ∀ {ds : List D} {vs : List V}, RDs K H ds vs → ds.length = vs.length
  | _, _, .nil => rfl
  | _, _, .cons _ r => by rw [List.length_cons, List.length_cons, RDs.length r]
theorem RDs.get : ∀ {ds : List D} {vs : List V} {i : Nat} {d : D}, RDs K H ds vs → ds[i]? = some d → ∃ v, vs[i]? = some v ∧ RD K H d v
  | _, _, _, _, .nil, e => by simp at e
  | _, _, 0, _, .cons h _, e => by simp at e; subst e; exact ⟨_, rfl, h⟩
  | _, _, i + 1, _, .cons _ r, e => by
    obtain ⟨v, h1, h2⟩ := RDs.get (i := i) r (by simpa using e)
    exact ⟨v, by simpa using h1, h2⟩
theorem RDs.getV : ∀ {ds : List D} {vs : List V} {i : Nat} {v : V}, RDs K H ds vs → vs[i]? = some v → ∃ d, ds[i]? = some d ∧ RD K H d v
  | _, _, _, _, .nil, e => by simp at e
  | _, _, 0, _, .cons h _, e => by simp at e; subst e; exact ⟨_, rfl, h⟩
  | _, _, i + 1, _, .cons _ r, e => by
    obtain ⟨v, h1, h2⟩ := RDs.getV (i := i) r (by simpa using e)
    exact ⟨v, by simpa using h1, h2⟩
theorem RDs.append : ∀ {ds es : List D} {vs us : List V}, RDs K H ds vs → RDs K H es us → RDs K H (ds ++ es) (vs ++ us)
  | _, _, _, _, .nil, s => s
  | _, _, _, _, .cons h r, s => .cons h (RDs.append r s)
theorem RDs.set {d : D} {v : V} (h : RD K H d v) : ∀ {ds : List D} {vs : List V} (i : Nat), RDs K H ds vs → RDs K H (ds.set i d) (vs.set i v)
  | _, _, _, .nil => .nil
  | _, _, 0, .cons _ r => .cons h r
  | _, _, i + 1, .cons q r => .cons q (RDs.set h i r)
theorem RDs.take : ∀ {ds : List D} {vs : List V} (n : Nat), RDs K H ds vs → RDs K H (ds.take n) (vs.take n)
  | _, _, 0, _ => .nil
  | _, _, _ + 1, .nil => .nil
  | _, _, n + 1, .cons h r => .cons h (RDs.take n r)
theorem RDs.drop : ∀ {ds : List D} {vs : List V} (n : Nat), RDs K H ds vs → RDs K H (ds.drop n) (vs.drop n)
  | _, _, 0, r => r
  | _, _, _ + 1, .nil => .nil
  | _, _, n + 1, .cons _ r => RDs.drop n r
theorem RDs.ints : ∀ {ns : List Int}, RDs K H (ns.map D.int) (ns.map V.int)
  | [] => .nil
  | n :: _ => .cons (.int n) RDs.ints
theorem RDs.bls : ∀ {bs : List Bool} {vs : List V}, RDs K H (bs.map D.bl) vs → vs = bs.map V.bl
  | [], _, h => by cases h; rfl
  | b :: bs, _, h => by
    cases h with
    | cons h r =>
      cases h
      rw [RDs.bls r]; rfl
theorem RDs.strs : ∀ {xs : List Str} {vs : List V}, RDs K H (xs.map D.str) vs → vs = xs.map V.str
  | [], _, h => by cases h; rfl
  | b :: bs, _, h => by
    cases h with
    | cons h r =>
      cases h
      rw [RDs.strs r]; rfl
theorem RDs.intsV : ∀ {xs : List Int} {vs : List V}, RDs K H (xs.map D.int) vs → vs = xs.map V.int
  | [], _, h => by cases h; rfl
  | b :: bs, _, h => by
    cases h with
    | cons h r =>
      cases h
      rw [RDs.intsV r]; rfl
end

/-! ### the heap of what changes -/
/-- the object at a is a dict of just these entries -/
def rawD (a : Addr) (es : List DictEntry) : HO := .ext fun h => ∃ o ep, h.get? a = some o ∧ o.ExactDict ∧ o.data = .dict es.toArray ep
section
variable (K : PySem.W.Frag) (w : World) (H : Hp)
/-- an entry of a dict -/
def REn (p : D × D) (e : DictEntry) : Prop := (∃ k y, dkey p.1 = some k ∧ k.depth ≤ 8 ∧ e.hash = k.hash w ∧ RelV y e.key ∧ RD K H p.1 y) ∧ ∃ y, RelV y e.val ∧ RD K H p.2 y
def RFl : List (Str × D) → List (Str × V) → Prop := Paired fun (p : Str × D) (q : Str × V) => p.1 = q.1 ∧ RD K H p.2 q.2
def RO (a : Addr) : MO → Prop
  | .lst ds => ∃ vs, H a = some (.lst vs) ∧ RDs K H ds vs
  | .dct kvs => ∃ es, H a = some (rawD a es) ∧ (a == sysModules) = false ∧ kvs.length ≤ sizeLine ∧ uni kvs ∧ (kvs.map fun p => dkey p.1).Nodup ∧ Paired (REn K w H) kvs es
  | .ins c fs => ∃ dx vs, H a = some (.ins (He.ga K c) dx vs) ∧ RFl K H fs vs
  | .xd f d => ∃ y, H a = some (.xd [(f, y)]) ∧ RD K H d y
def RM (M : MM) : Prop := ∀ a o, M a = some o → RO K w H a o
/-- an exception as it lies -/
def RX (M : MM) (x : Xn) (cls : Value) (d : Option Addr) : Prop := cls = .ref (He.ga K x.c) ∧ ∃ dd y, d = some dd ∧ M dd = none ∧ H dd = some (.xd [(x.f, y)]) ∧ RD K H x.v y
/-- the slots -/
def RE (ρ : En) (σ : St) : Prop := ρ.length = σ.length ∧ ∀ (i : Nat) (d : D), ρ[i]? = some (some d) → ∃ y, σ[i]? = some (some y) ∧ RD K H d y
end
section
variable {K : PySem.W.Frag} {w : World} {H H' : Hp} {M M' : MM} {ρ : En} {σ : St}
theorem RE.stb (s : Stb H H') (h : RE K H ρ σ) : RE K H' ρ σ := ⟨h.1, fun i d e => let ⟨y, h1, h2⟩ := h.2 i d e; ⟨y, h1, h2.stb s⟩⟩
theorem RE.set {i : Nat} {d : D} {y : V} (h : RE K H ρ σ) (r : RD K H d y) : RE K H (ρ.set i (some d)) (σ.set i (some y)) := by
  refine ⟨by rw [List.length_set, List.length_set]; exact h.1, fun j e q => ?_⟩
  by_cases hj : i = j
  · subst hj
    by_cases hl : i < ρ.length
    · rw [List.getElem?_set_self hl] at q
      have e1 : d = e := Option.some.inj (Option.some.inj q)
      subst e1
      exact ⟨y, by rw [List.getElem?_set_self (by rw [← h.1]; exact hl)], r⟩
    · rw [List.set_eq_of_length_le (by omega)] at q
      rw [List.getElem?_eq_none (by omega)] at q
      cases q
  · rw [List.getElem?_set_ne hj] at q
    obtain ⟨z, h1, h2⟩ := h.2 j e q
    exact ⟨z, by rw [List.getElem?_set_ne hj]; exact h1, h2⟩
theorem REn.stb (s : Stb H H') {p : D × D} {e : DictEntry} (h : REn K w H p e) : REn K w H' p e :=
  let ⟨⟨k, y, a, f, b, c, d⟩, z, c2, d2⟩ := h; ⟨⟨k, y, a, f, b, c, d.stb s⟩, z, c2, d2.stb s⟩
theorem RFl.stb (s : Stb H H') {fs : List (Str × D)} {vs : List (Str × V)} (h : RFl K H fs vs) : RFl K H' fs vs := Paired.mapP h fun _ _ q => ⟨q.1, q.2.stb s⟩
/-- an object stands while its own place does -/
theorem RO.stb (s : Stb H H') {a : Addr} {o : MO} (e : H' a = H a) (h : RO K w H a o) : RO K w H' a o := by
  cases o with
  | lst ds => obtain ⟨vs, h1, h2⟩ := h; exact ⟨vs, e.trans h1, h2.stb s⟩
  | dct kvs => obtain ⟨es, h1, h2, h3, hu, h4, h5⟩ := h; exact ⟨es, e.trans h1, h2, h3, hu, h4, Paired.mapP h5 fun _ _ q => q.stb s⟩
  | ins c fs => obtain ⟨dx, vs, h1, h2⟩ := h; exact ⟨dx, vs, e.trans h1, h2.stb s⟩
  | xd f d => obtain ⟨y, h1, h2⟩ := h; exact ⟨y, e.trans h1, h2.stb s⟩
theorem RO.there {a : Addr} {o : MO} (h : RO K w H a o) : ∃ u, H a = some u := by
  cases o with
  | lst ds => obtain ⟨vs, h1, h2⟩ := h; exact ⟨_, h1⟩
  | dct kvs => obtain ⟨es, h1, _⟩ := h; exact ⟨_, h1⟩
  | ins c fs => obtain ⟨dx, vs, h1, h2⟩ := h; exact ⟨_, h1⟩
  | xd f d => obtain ⟨y, h1, h2⟩ := h; exact ⟨_, h1⟩
theorem RM.fresh (h : RM K w H M) {p : Addr} (hp : H p = none) : M p = none := by
  cases e : M p with
  | none => rfl
  | some o =>
    obtain ⟨u, h1⟩ := (h p o e).there
    rw [hp] at h1; cases h1
/-- a thing that is not of the heap of what changes is laid -/
theorem RM.laid (h : RM K w H M) {p : Addr} {u : HO} (hp : H p = none) : RM K w (upd H p u) M := fun a o e => by
  have hn : a ≠ p := fun z => by
    subst z
    rw [h.fresh hp] at e; cases e
  exact (h a o e).stb (Stb.new hp) (upd_ne hn)
theorem RM.new (h : RM K w H M) {p : Addr} {u : HO} {o : MO} (hp : H p = none) (ho : RO K w (upd H p u) p o) : RM K w (upd H p u) (up M p o) := fun a q e => by
  by_cases hn : a = p
  · subst hn
    rw [up_same] at e; cases e; exact ho
  · rw [up_ne hn] at e
    exact (h a q e).stb (Stb.new hp) (upd_ne hn)
theorem RM.mut (h : RM K w H M) {p : Addr} {u : HO} {o : MO} (hp : Mut (H p)) (ho : RO K w (upd H p u) p o) : RM K w (upd H p u) (up M p o) := fun a q e => by
  by_cases hn : a = p
  · subst hn
    rw [up_same] at e; cases e; exact ho
  · rw [up_ne hn] at e
    exact (h a q e).stb (Stb.mut hp) (upd_ne hn)
end

/-! ### readings from wishes -/
/-- what is wanted: of a value and the heap; of an exception and the heap -/
abbrev QD := D → MM → Prop
abbrev QX := Xn → MM → Prop
abbrev WE := En → MM → QD → QX → Prop
abbrev WB := En → MM → (Bool → MM → Prop) → QX → Prop
abbrev WA := En → MM → (List D → MM → Prop) → QX → Prop
abbrev RMx (X : Cx) (H : Hp) (M : MM) : Prop := RM X.K X.w H M
/-- exceptions go on -/
def XGo (X : Cx) (W : WX) (σ : St) (H : Hp) (E0 : QX) : Prop := ∀ x M', E0 x M' → ∀ cls d H', Stb H H' → RX X.K H' M' x cls d → RMx X H' M' → W cls d σ H'
def upE (X : Cx) (W : WX) (t : WE) : TE := fun σ H Q => ∃ ρ M Q0 E0, RE X.K H ρ σ ∧ RMx X H M ∧ t ρ M Q0 E0 ∧
  (∀ d M', Q0 d M' → ∀ y H', Stb H H' → RD X.K H' d y → RMx X H' M' → Q y H') ∧ XGo X W σ H E0
def upB (X : Cx) (W : WX) (t : WB) : TT := fun σ H Q => ∃ ρ M Q0 E0, RE X.K H ρ σ ∧ RMx X H M ∧ t ρ M Q0 E0 ∧
  (∀ b M', Q0 b M' → ∀ H', Stb H H' → RMx X H' M' → Q b H') ∧ XGo X W σ H E0
def upA (X : Cx) (W : WX) (t : WA) : TA := fun σ H Q => ∃ ρ M Q0 E0, RE X.K H ρ σ ∧ RMx X H M ∧ t ρ M Q0 E0 ∧
  (∀ ds M', Q0 ds M' → ∀ ys H', Stb H H' → RDs X.K H' ds ys → RMx X H' M' → Q ys H') ∧ XGo X W σ H E0
theorem XGo.stb {X : Cx} {W : WX} {σ : St} {H H1 : Hp} {E0 : QX} (h : XGo X W σ H E0) (s : Stb H H1) : XGo X W σ H1 E0 :=
  fun x M' q cls d H' s' r m => h x M' q cls d H' (s.trans s') r m
section
variable {X : Cx} {e a b : Expr} {W : WX}
theorem _root_.L2.PE.imp {t t' : TE} (h : PE X e t) (q : ∀ σ H Q, t' σ H Q → t σ H Q) : PE X e t' := ⟨fun pins s σ H Q I z => h.run pins s σ H Q I (q σ H Q z)⟩
theorem _root_.L2.PT.imp {t t' : TT} (h : PT X e t) (q : ∀ σ H Q, t' σ H Q → t σ H Q) : PT X e t' := ⟨fun pins s σ H Q I z => h.run pins s σ H Q I (q σ H Q z)⟩
theorem _root_.L2.PW.imp {t t' : TT} (h : PW X e t) (q : ∀ σ H Q, t' σ H Q → t σ H Q) : PW X e t' := ⟨fun wh pins s σ H Q I z => h.run wh pins s σ H Q I (q σ H Q z)⟩
theorem _root_.L2.PA.imp {es : List Expr} {t t' : TA} (h : PA X es t) (q : ∀ σ H Q, t' σ H Q → t σ H Q) : PA X es t' := ⟨fun pos pins s σ H Q I z => h.run pos pins s σ H Q I (q σ H Q z)⟩
theorem _root_.L2.PS.imp {st : Stmt} {t t' : TS} (h : PS X st t) (q : ∀ D σ H, t' D σ H → t D σ H) : PS X st t' := ⟨fun pins s σ H D I z => h.run pins s σ H D I (q D σ H z)⟩
theorem _root_.L2.PSs.imp {st : List Stmt} {t t' : TS} (h : PSs X st t) (q : ∀ D σ H, t' D σ H → t D σ H) : PSs X st t' := ⟨fun pins s σ H D I z => h.run pins s σ H D I (q D σ H z)⟩

/-! ### the smallest readings -/
def wVar (i : Nat) : WE := fun ρ M Q _ => match ρ[i]? with
  | some (some d) => Q d M
  | _ => False
def wCst (d : D) : WE := fun _ M Q _ => Q d M
theorem ue_var {i : Nat} (h : PE X e (tVar i)) : PE X e (upE X W (wVar i)) := h.imp fun σ H Q ⟨ρ, M, Q0, E0, r, m, t, q, _⟩ => by
  unfold wVar at t
  cases z : ρ[i]? with
  | none => rw [z] at t; exact t.elim
  | some od =>
    cases od with
    | none => rw [z] at t; exact t.elim
    | some d =>
      rw [z] at t
      obtain ⟨y, h1, h2⟩ := r.2 i d z
      exact ⟨y, h1, q d M t y H (Stb.refl H) h2 m⟩
theorem ue_cst {d : D} {v : V} (h : PE X e (tC v)) (hd : ∀ H, RD X.K H d v) : PE X e (upE X W (wCst d)) := h.imp fun σ H Q ⟨ρ, M, Q0, E0, r, m, t, q, _⟩ =>
  q d M t v H (Stb.refl H) (hd H) m
/-- two expressions, an operation -/
abbrev OD := D → D → MM → QD → Prop
def wOp (o : OD) (wa wb : WE) : WE := fun ρ M Q E => wa ρ M (fun x M1 => wb ρ M1 (fun y M2 => o x y M2 Q) E) E
/-- an operation on values, from one on data -/
def upO (X : Cx) (o : OD) : R2 := fun x y H Q => ∃ d f M Q0, RD X.K H d x ∧ RD X.K H f y ∧ RMx X H M ∧ o d f M Q0 ∧ ∀ z M', Q0 z M' → ∀ v H', Stb H H' → RD X.K H' z v → RMx X H' M' → Q v H'
theorem ue_op {o : OD} {wa wb : WE} {r : R2} (hr : ∀ x y H Q, upO X o x y H Q → r x y H Q) (h : PE X e (tOp r (upE X W wa) (upE X W wb))) : PE X e (upE X W (wOp o wa wb)) := h.imp fun σ H Q ⟨ρ, M, Q0, E0, r1, m, t, q, xg⟩ =>
  ⟨ρ, M, _, E0, r1, m, t, fun d M1 t1 y H1 s1 rd m1 => ⟨ρ, M1, _, E0, r1.stb s1, m1, t1, fun d2 M2 t2 y2 H2 s2 rd2 m2 =>
    hr _ _ _ _ ⟨d, d2, M2, Q0, rd.stb s2, rd2, m2, t2, fun z M' qz v H' s3 rz mz => q z M' qz v H' ((s1.trans s2).trans s3) rz mz⟩, xg.stb s1⟩, xg⟩
def wUn (o : D → MM → QD → Prop) (wa : WE) : WE := fun ρ M Q E => wa ρ M (fun x M1 => o x M1 Q) E
def upU (X : Cx) (o : D → MM → QD → Prop) : V → Hp → VK → Prop := fun x H Q => ∃ d M Q0, RD X.K H d x ∧ RMx X H M ∧ o d M Q0 ∧ ∀ z M', Q0 z M' → ∀ v H', Stb H H' → RD X.K H' z v → RMx X H' M' → Q v H'
theorem ue_un {o : D → MM → QD → Prop} {wa : WE} (h : PE X e (tUn (upU X o) (upE X W wa))) : PE X e (upE X W (wUn o wa)) := h.imp fun σ H Q ⟨ρ, M, Q0, E0, r1, m, t, q, xg⟩ =>
  ⟨ρ, M, _, E0, r1, m, t, fun d M1 t1 y H1 s1 rd m1 => ⟨d, M1, Q0, rd, m1, t1, fun z M' qz v H' s3 rz mz => q z M' qz v H' (s1.trans s3) rz mz⟩, xg⟩
/-! ### argument lists -/
def wNil : WA := fun _ M Q _ => Q [] M
def wCons (wa : WE) (wr : WA) : WA := fun ρ M Q E => wa ρ M (fun x M1 => wr ρ M1 (fun xs M2 => Q (x :: xs) M2) E) E
theorem ua_nil : PA X [] (upA X W wNil) := pa_nil.imp fun σ H Q ⟨ρ, M, Q0, E0, r1, m, t, q, xg⟩ => q [] M t [] H (Stb.refl H) .nil m
theorem ua_cons {wa : WE} {wr : WA} {es : List Expr} (ha : PE X e (upE X W wa)) (hr : PA X es (upA X W wr)) (hs : starEach (e :: es) X.env = (false, eval e X.env) :: starEach es X.env) : PA X (e :: es) (upA X W (wCons wa wr)) :=
  (pa_cons ha hr hs).imp fun σ H Q ⟨ρ, M, Q0, E0, r1, m, t, q, xg⟩ =>
  ⟨ρ, M, _, E0, r1, m, t, fun d M1 t1 y H1 s1 rd m1 => ⟨ρ, M1, _, E0, r1.stb s1, m1, t1, fun ds M2 t2 ys H2 s2 rds m2 => q (d :: ds) M2 t2 (y :: ys) H2 (s1.trans s2) (.cons (rd.stb s2) rds) m2, xg.stb s1⟩, xg⟩
/-- a call by values -/
abbrev CD := List D → MM → QD → Prop
def wCl (o : CD) (wa : WA) : WE := fun ρ M Q E => wa ρ M (fun xs M1 => o xs M1 Q) E
def upC (X : Cx) (o : CD) : List V → Hp → VK → Prop := fun xs H Q => ∃ ds M Q0, RDs X.K H ds xs ∧ RMx X H M ∧ o ds M Q0 ∧ ∀ z M', Q0 z M' → ∀ v H', Stb H H' → RD X.K H' z v → RMx X H' M' → Q v H'
theorem ue_cl {o : CD} {wa : WA} {r : List V → Hp → VK → Prop} (hr : ∀ xs H Q, upC X o xs H Q → r xs H Q) (h : PE X e (tCB r (upA X W wa))) : PE X e (upE X W (wCl o wa)) := h.imp fun σ H Q ⟨ρ, M, Q0, E0, r1, m, t, q, xg⟩ =>
  ⟨ρ, M, _, E0, r1, m, t, fun ds M1 t1 ys H1 s1 rd m1 => hr _ _ _ ⟨ds, M1, Q0, rd, m1, t1, fun z M' qz v H' s3 rz mz => q z M' qz v H' (s1.trans s3) rz mz⟩, xg⟩
end
end Fg
/-! Fg2: what operators do with data. -/
namespace Fg
open PySem PySem.Spec L2
open PyProof.Rows hiding St
/-! ### data as the library reads it -/
mutual
def toP : D → PyData
  | .non => .none
  | .bl b => .bool b
  | .int i => .int i
  | .str x => .str x
  | .tup ds => .tuple (toPs ds)
  | .rol ds => .list (toPs ds)
  | .ty _ => .none
  | .ref _ => .none
def toPs : List D → List PyData
  | [] => []
  | d :: ds => toP d :: toPs ds
end
mutual
/-- numbers, texts, tuples of such -/
def dat : D → Bool
  | .non => true
  | .bl _ => true
  | .int _ => true
  | .str _ => true
  | .tup ds => dats ds
  | .rol ds => dats ds
  | .ty _ => false
  | .ref _ => false
def dats : List D → Bool
  | [] => true
  | d :: ds => dat d && dats ds
end
mutual
def dep : D → Nat
  | .tup ds => deps ds + 1
  | .rol ds => deps ds + 1
  | .non => 0
  | .bl _ => 0
  | .int _ => 0
  | .str _ => 0
  | .ty _ => 0
  | .ref _ => 0
def deps : List D → Nat
  | [] => 0
  | d :: ds => max (dep d) (deps ds)
end
theorem toPs_length : ∀ ds : List D, (toPs ds).length = ds.length
  | [] => rfl
  | d :: ds => by rw [toPs, List.length_cons, List.length_cons, toPs_length ds]
theorem toPs_map : ∀ ds : List D, toPs ds = ds.map toP
  | [] => rfl
  | d :: ds => by rw [toPs, List.map_cons, toPs_map ds]
mutual
theorem plain_toP : ∀ d : D, (toP d).plain = true
  | .non => rfl
  | .bl _ => rfl
  | .int _ => rfl
  | .str _ => rfl
  | .ty _ => rfl
  | .ref _ => rfl
  | .tup ds => by rw [toP, PyData.plain]; exact plain_toPs ds
  | .rol ds => by rw [toP, PyData.plain]; exact plain_toPs ds
theorem plain_toPs : ∀ ds : List D, PyData.plainAll (toPs ds) = true
  | [] => rfl
  | d :: ds => by rw [toPs, PyData.plainAll, plain_toP d, plain_toPs ds]; rfl
end
mutual
theorem dep_toP : ∀ d : D, (toP d).depth = dep d
  | .non => rfl
  | .bl _ => rfl
  | .int _ => rfl
  | .str _ => rfl
  | .ty _ => rfl
  | .ref _ => rfl
  | .tup ds => by rw [toP, PyData.depth, dep, dep_toPs ds]
  | .rol ds => by rw [toP, PyData.depth, dep, dep_toPs ds]
theorem dep_toPs : ∀ ds : List D, PyData.depthAll (toPs ds) = deps ds
  | [] => rfl
  | d :: ds => by rw [toPs, PyData.depthAll, deps, dep_toP d, dep_toPs ds]
end
section
variable {K : PySem.W.Frag} {H : Hp}
mutual
theorem RD.dp : ∀ {d : D} {v : V}, RD K H d v → dat d = true → Dp K H v (toP d)
  | _, _, .non, _ => .non
  | _, _, .bl b, _ => .bl b
  | _, _, .int i, _ => .int i
  | _, _, .str x, _ => .str x
  | _, _, .ty n, h => by cases h
  | _, _, .tup h r, e => .tup h (RDs.dp r e)
  | _, _, .rol h r, e => .lst h.sq (RDs.dp r e)
  | _, _, .ref a, h => by cases h
theorem RDs.dp : ∀ {ds : List D} {vs : List V}, RDs K H ds vs → dats ds = true → DpAll K H vs (toPs ds)
  | _, _, .nil, _ => .nil
  | _, _, .cons h r, e => by
    rw [dats, Bool.and_eq_true] at e
    exact .cons (RD.dp h e.1) (RDs.dp r e.2)
end
end
section
variable {X : Cx} {pins : List (Addr × Obj)} {σ : St} {H : Hp} {s : Shared} {M : MM}
theorem reads_of (I : Inv X pins σ H s) {d : D} {v : V} {u : Value} (r : RD X.K H d v) (e : dat d = true) (ru : RelV v u) : ∃ as, PySem.Reads s.heap u (toP d) as := Dp.reads I _ _ _ (r.dp e) ru
/-- a list's contents: one that may change, one that stands -/
def lstOf (M : MM) : D → Option (List D)
  | .ref a => match M a with
    | some (.lst ds) => some ds
    | _ => none
  | .rol ds => some ds
  | _ => none
theorem lstOf_ref {a : Addr} {ds : List D} (h : M a = some (.lst ds)) : lstOf M (.ref a) = some ds := by simp only [lstOf, h]
theorem lstOf_sq (m : RMx X H M) {d : D} {v : V} {ds : List D} (r : RD X.K H d v) (e : lstOf M d = some ds) : ∃ a vs, v = .ref a ∧ SqL X.K H a vs ∧ RDs X.K H ds vs := by
  cases r with
  | @ref a =>
    cases q : M a with
    | none => simp [lstOf, q] at e
    | some o =>
      simp only [lstOf, q] at e
      cases o with
      | lst es =>
        cases e
        obtain ⟨vs, h1, h2⟩ := m a _ q
        exact ⟨a, vs, rfl, SqL.of h1, h2⟩
      | dct _ => cases e
      | ins _ _ => cases e
      | xd _ _ => cases e
  | @rol a vs es h q =>
    cases e
    exact ⟨a, vs, rfl, h.sq, q⟩
  | _ => cases e
/-- a value as data, a list with its contents -/
def asD (M : MM) (d : D) : Option D := match lstOf M d with
  | some ds => if dats ds = true then some (.rol ds) else none
  | none => if dat d = true then some d else none
theorem asD_reads (I : Inv X pins σ H s) (m : RMx X H M) {d e : D} {v : V} {u : Value} (r : RD X.K H d v) (h : asD M d = some e) (ru : RelV v u) : ∃ as, PySem.Reads s.heap u (toP e) as := by
  unfold asD at h
  cases q : lstOf M d with
  | none =>
    simp only [q] at h
    by_cases hd : dat d = true
    · rw [if_pos hd] at h
      cases h
      exact reads_of I r hd ru
    · rw [if_neg hd] at h; cases h
  | some ds =>
    simp only [q] at h
    by_cases hd : dats ds = true
    · rw [if_pos hd] at h
      cases h
      obtain ⟨a, vs, rfl, hs, hr⟩ := lstOf_sq m r q
      exact Dp.reads I _ _ _ (Dp.lst hs (hr.dp hd)) ru
    · rw [if_neg hd] at h; cases h
end

/-! ### equality and order -/
/-- x == y -/
def eqD (x y : D) : Bool := PyData.eqv (toP x) (toP y)
def dEq : OD := fun x y M Q => match x, y with
  | .int i, .int j => Q (.bl (decide (i = j))) M
  | .str i, .str j => Q (.bl (decide (i = j))) M
  | .bl i, .bl j => Q (.bl (i == j)) M
  | x, y => ∃ x' y', asD M x = some x' ∧ asD M y = some y' ∧ min (dep x') (dep y') ≤ 60 ∧ Q (.bl (eqD x' y')) M
def dNe : OD := fun x y M Q => dEq x y M fun z M' => match z with
  | .bl b => Q (.bl (!b)) M'
  | _ => False
theorem dEq_out {x y : D} {M : MM} {Q : QD} (h : dEq x y M Q) : ∃ x' y', asD M x = some x' ∧ asD M y = some y' ∧ min (dep x') (dep y') ≤ 60 ∧ Q (.bl (eqD x' y')) M := by
  unfold dEq at h
  split at h
  · rename_i i j
    exact ⟨.int i, .int j, rfl, rfl, by simp [dep], by rw [show eqD (.int i) (.int j) = decide (i = j) from by rw [eqD, toP, toP, PyData.eqv, Bool.beq_eq_decide_eq]]; exact h⟩
  · rename_i i j
    exact ⟨.str i, .str j, rfl, rfl, by simp [dep], by rw [show eqD (.str i) (.str j) = decide (i = j) from by rw [eqD, toP, toP, PyData.eqv, Bool.beq_eq_decide_eq]]; exact h⟩
  · rename_i i j
    exact ⟨.bl i, .bl j, rfl, rfl, by simp [dep], by rw [show eqD (.bl i) (.bl j) = (i == j) from by rw [eqD, toP, toP, PyData.eqv]]; exact h⟩
  · exact h
section
variable {X : Cx}
theorem room_min {A : Around} {x y : D} (hu : A.units + 64 < cLine) (h : min (dep x) (dep y) ≤ 60) : A.units + min (toP x).depth (toP y).depth < cLine := by
  rw [dep_toP, dep_toP]; omega
theorem op_dEq (hu : X.A.units + 64 < cLine) : OpR X (compareOp .Eq) (upO X dEq) := by
  intro pins s σ H x y v u Q I rx ry h
  obtain ⟨d, f, M, Q0, r1, r2, m, t, q⟩ := h
  obtain ⟨x', y', h1, h2, h3, h4⟩ := dEq_out t
  obtain ⟨as, q1⟩ := asD_reads I m r1 h1 rx
  obtain ⟨bs, q2⟩ := asD_reads I m r2 h2 ry
  exact PySem.SeqAt.eq_plain q1 q2 (plain_toP _) (plain_toP _) (room_min hu h3) ⟨.bl _, H, I, rfl, q _ M h4 _ H (Stb.refl H) (.bl _) m⟩
theorem op_dNe (hu : X.A.units + 64 < cLine) : OpR X (compareOp .NotEq) (upO X dNe) := by
  intro pins s σ H x y v u Q I rx ry h
  obtain ⟨d, f, M, Q0, r1, r2, m, t, q⟩ := h
  obtain ⟨x', y', h1, h2, h3, h4⟩ := dEq_out t
  obtain ⟨as, q1⟩ := asD_reads I m r1 h1 rx
  obtain ⟨bs, q2⟩ := asD_reads I m r2 h2 ry
  exact PySem.SeqAt.ne_plain q1 q2 (plain_toP _) (plain_toP _) (room_min hu h3) ⟨.bl _, H, I, rfl, q _ M h4 _ H (Stb.refl H) (.bl _) m⟩
end
/-- x < y -/
def ltD (x y : D) : Bool := PySem.W.dataLt (toP x) (toP y)
/-- they can be ordered -/
def okLt (x y : D) : Prop := PySem.W.alike (toP x) (toP y) = true ∧ toP x ≠ .none ∧ min (dep x) (dep y) ≤ 60
/-- an order's answer, by p on ints; by r from «less», «less, turned about» -/
def dOrd (p : Int → Int → Bool) (r : D → D → Bool) : OD := fun x y M Q => match x, y with
  | .int i, .int j => Q (.bl (p i j)) M
  | x, y => dat x = true ∧ dat y = true ∧ okLt x y ∧ Q (.bl (r x y)) M
def dLt : OD := dOrd (fun i j => decide (i < j)) ltD
def dGt : OD := dOrd (fun i j => decide (j < i)) fun x y => ltD y x
def dLe : OD := dOrd (fun i j => decide (i ≤ j)) fun x y => !ltD y x
def dGe : OD := dOrd (fun i j => decide (j ≤ i)) fun x y => !ltD x y
section
variable {X : Cx}
theorem op_dOrd {op : CmpOp} {p : Int → Int → Bool} {r : D → D → Bool} (hi : ∀ (i j : Int) (t u : Tok) (Q : Value → Shared → Prop) (s : Shared), Q (.bool (p i j)) s → wpAny (model X.prog X.w) X.A (compareOp op (.int i t) (.int j u)) Q X.xe s)
    (hd : ∀ (x y : D) (v u : Value) (as bs : List Addr) (Q : Value → Shared → Prop) (s : Shared), PySem.Reads s.heap v (toP x) as → PySem.Reads s.heap u (toP y) bs → okLt x y → Q (.bool (r x y)) s → wpAny (model X.prog X.w) X.A (compareOp op v u) Q X.xe s) :
    OpR X (compareOp op) (upO X (dOrd p r)) := by
  intro pins s σ H x y v u Q I rx ry h
  obtain ⟨d, f, M, Q0, r1, r2, m, t, q⟩ := h
  unfold dOrd at t
  split at t
  · cases r1
    cases r2
    obtain ⟨t1, rfl⟩ := rx
    obtain ⟨t2, rfl⟩ := ry
    exact hi _ _ _ _ _ _ ⟨.bl _, H, I, rfl, q _ M t _ H (Stb.refl H) (.bl _) m⟩
  · obtain ⟨e1, e2, e3, e4⟩ := t
    obtain ⟨as, q1⟩ := reads_of I r1 e1 rx
    obtain ⟨bs, q2⟩ := reads_of I r2 e2 ry
    exact hd _ _ _ _ _ _ _ _ q1 q2 e3 ⟨.bl _, H, I, rfl, q _ M e4 _ H (Stb.refl H) (.bl _) m⟩
theorem op_dLt (hu : X.A.units + 64 < cLine) : OpR X (compareOp .Lt) (upO X dLt) := op_dOrd (fun _ _ _ _ _ _ h => lt_int h) fun _ _ _ _ _ _ _ _ a b c h => PySem.W.lt_data a b c.1 c.2.1 (room_min hu c.2.2) h
theorem op_dLe (hu : X.A.units + 64 < cLine) : OpR X (compareOp .LtE) (upO X dLe) := op_dOrd (fun _ _ _ _ _ _ h => le_int h) fun _ _ _ _ _ _ _ _ a b c h => PySem.W.le_data a b c.1 c.2.1 (room_min hu c.2.2) h
theorem op_dGt (hu : X.A.units + 64 < cLine) : OpR X (compareOp .Gt) (upO X dGt) := op_dOrd (fun _ _ _ _ _ _ h => gt_int h) fun _ _ _ _ _ _ _ _ a b c h => PySem.W.gt_data a b c.1 c.2.1 (room_min hu c.2.2) h
theorem op_dGe (hu : X.A.units + 64 < cLine) : OpR X (compareOp .GtE) (upO X dGe) := op_dOrd (fun _ _ _ _ _ _ h => ge_int h) fun _ _ _ _ _ _ _ _ a b c h => PySem.W.ge_data a b c.1 c.2.1 (room_min hu c.2.2) h
end
/-! ### is -/
def isNon : D → Bool
  | .non => true
  | _ => false
theorem isNon_rel {K : PySem.W.Frag} {H : Hp} {d : D} {v : V} (r : RD K H d v) : decide (v = .non) = isNon d := by cases r <;> rfl
def dIs : OD := fun x y M Q => match y with
  | .non => Q (.bl (isNon x)) M
  | _ => False
def dIsNot : OD := fun x y M Q => match y with
  | .non => Q (.bl (!isNon x)) M
  | _ => False
section
variable {X : Cx}
theorem op_dIs : OpR X (compareOp .Is) (upO X dIs) := by
  intro pins s σ H x y v u Q I rx ry h
  obtain ⟨d, f, M, Q0, r1, r2, m, t, q⟩ := h
  cases r2 with
  | non =>
    have t' : Q0 (.bl (isNon d)) M := t
    refine op_isN pins s σ H x .non v u Q I rx ry ⟨rfl, ?_⟩
    rw [isNon_rel r1]
    exact q _ M t' _ H (Stb.refl H) (.bl _) m
  | _ => exact t.elim
theorem op_dIsNot : OpR X (compareOp .IsNot) (upO X dIsNot) := by
  intro pins s σ H x y v u Q I rx ry h
  obtain ⟨d, f, M, Q0, r1, r2, m, t, q⟩ := h
  cases r2 with
  | non =>
    have t' : Q0 (.bl (!isNon d)) M := t
    refine op_notN pins s σ H x .non v u Q I rx ry ⟨rfl, ?_⟩
    rw [isNon_rel r1]
    exact q _ M t' _ H (Stb.refl H) (.bl _) m
  | _ => exact t.elim
end
/-! ### arithmetic -/
def dAdd : OD := fun x y M Q => match x, y with
  | .int i, .int j => Q (.int (i + j)) M
  | .str a, .str b => a.length + b.length ≤ sizeLine ∧ Q (.str (a ++ b)) M
  | .tup a, .tup b => a.length + b.length ≤ sizeLine ∧ Q (.tup (a ++ b)) M
  | .ref a, .ref b => ∃ xs ys, M a = some (.lst xs) ∧ M b = some (.lst ys) ∧ xs.length + ys.length ≤ sizeLine ∧ ∀ p, M p = none → Q (.ref p) (up M p (.lst (xs ++ ys)))
  | _, _ => False
def dSub : OD := fun x y M Q => match x, y with
  | .int i, .int j => Q (.int (i - j)) M
  | _, _ => False
def dMul : OD := fun x y M Q => match x, y with
  | .int i, .int j => CMulW i j ∧ Q (.int (i * j)) M
  | .ref a, .int k => ∃ xs, M a = some (.lst xs) ∧ -(2 ^ 63) ≤ k ∧ k < 2 ^ 63 ∧ xs.length * k.toNat ≤ sizeLine ∧ ∀ p, M p = none → Q (.ref p) (up M p (.lst (List.replicate k.toNat xs).flatten))
  | _, _ => False
def dDiv : OD := fun x y M Q => match x, y with
  | .int i, .int j => CDivW i j ∧ Q (.int (i / j)) M
  | _, _ => False
def dMod : OD := fun x y M Q => match x, y with
  | .int i, .int j => 0 < j ∧ Q (.int (i % j)) M
  | _, _ => False
def dPow : OD := fun x y M Q => match x, y with
  | .int i, .int j => CPow i j ∧ Q (.int (i ^ j.toNat)) M
  | _, _ => False
def dAnd : OD := fun x y M Q => match x, y with
  | .int i, .int j => Q (.int (Builtin.bitAnd i j)) M
  | _, _ => False
theorem replicate_RDs {K : PySem.W.Frag} {H : Hp} {ds : List D} {vs : List V} (r : RDs K H ds vs) : ∀ n : Nat, RDs K H (List.replicate n ds).flatten (List.replicate n vs).flatten
  | 0 => .nil
  | n + 1 => by
    rw [List.replicate_succ, List.flatten_cons, List.replicate_succ, List.flatten_cons]
    exact r.append (replicate_RDs r n)
section
variable {X : Cx}
theorem op_int2 {f : Value → Value → Sem Value} {C : Int → Int → Prop} {g : Int → Int → Int} (h0 : OpR X f (rI C fun i j => .int (g i j))) {o : OD} (ho : ∀ x y M Q, o x y M Q → ∃ i j, x = .int i ∧ y = .int j ∧ C i j ∧ Q (.int (g i j)) M) : OpR X f (upO X o) := by
  intro pins s σ H x y v u Q I rx ry h
  obtain ⟨d, e, M, Q0, r1, r2, m, t, q⟩ := h
  obtain ⟨i, j, rfl, rfl, c, t⟩ := ho _ _ _ _ t
  cases r1
  cases r2
  exact h0 pins s σ H _ _ v u Q I rx ry ⟨i, j, rfl, rfl, c, q _ M t _ H (Stb.refl H) (.int _) m⟩
theorem op_dSub : OpR X (binaryOp .Sub) (upO X dSub) := op_int2 (C := fun _ _ => True) (g := fun i j => i - j) (fun pins s σ H x y v u Q I rx ry ⟨i, j, e1, e2, _, q⟩ => op_sub pins s σ H x y v u Q I rx ry ⟨i, j, e1, e2, q⟩) fun x y M Q h => by
  unfold dSub at h; split at h
  · exact ⟨_, _, rfl, rfl, trivial, h⟩
  · exact h.elim
theorem op_dDiv : OpR X (binaryOp .FloorDiv) (upO X dDiv) := op_int2 op_fdivW fun x y M Q h => by
  unfold dDiv at h; split at h
  · exact ⟨_, _, rfl, rfl, h.1, h.2⟩
  · exact h.elim
theorem op_dMod : OpR X (binaryOp .Mod) (upO X dMod) := op_int2 op_mod fun x y M Q h => by
  unfold dMod at h; split at h
  · exact ⟨_, _, rfl, rfl, h.1, h.2⟩
  · exact h.elim
theorem op_dPow : OpR X (binaryOp .Pow) (upO X dPow) := op_int2 op_pow fun x y M Q h => by
  unfold dPow at h; split at h
  · exact ⟨_, _, rfl, rfl, h.1, h.2⟩
  · exact h.elim
theorem op_dAnd : OpR X (binaryOp .BitAnd) (upO X dAnd) := op_int2 (C := fun _ _ => True) (g := fun i j => Builtin.bitAnd i j) (fun pins s σ H x y v u Q I rx ry ⟨i, j, e1, e2, _, q⟩ => op_and pins s σ H x y v u Q I rx ry ⟨i, j, e1, e2, q⟩) fun x y M Q h => by
  unfold dAnd at h; split at h
  · exact ⟨_, _, rfl, rfl, trivial, h⟩
  · exact h.elim
theorem op_dMul : OpR X (binaryOp .Mult) (upO X dMul) := by
  intro pins s σ H x y v u Q I rx ry h
  obtain ⟨d, e, M, Q0, r1, r2, m, t, q⟩ := h
  unfold dMul at t
  split at t
  · cases r1
    cases r2
    exact op_mulW pins s σ H _ _ v u Q I rx ry ⟨_, _, rfl, rfl, t.1, q _ M t.2 _ H (Stb.refl H) (.int _) m⟩
  · cases r1
    cases r2
    obtain ⟨xs, h1, h2, h3, h4, t⟩ := t
    obtain ⟨vs, hv, rv⟩ := m _ _ h1
    refine op_rep pins s σ H _ _ v u Q I rx ry ⟨_, _, vs, rfl, rfl, hv, h2, h3, by rw [← rv.length]; exact h4, fun p hp => ?_⟩
    refine q _ _ (t p (m.fresh hp)) _ _ (Stb.new hp) (.ref p) (m.new hp ⟨_, upd_same, ?_⟩)
    exact RDs.stb (Stb.new hp) (replicate_RDs rv _)
  · exact t.elim
theorem op_dAdd : OpR X (binaryOp .Add) (upO X dAdd) := by
  intro pins s σ H x y v u Q I rx ry h
  obtain ⟨d, e, M, Q0, r1, r2, m, t, q⟩ := h
  unfold dAdd at t
  split at t
  · cases r1
    cases r2
    exact op_add pins s σ H _ _ v u Q I rx ry ⟨_, _, rfl, rfl, q _ M t _ H (Stb.refl H) (.int _) m⟩
  · cases r1
    cases r2
    exact op_add_str pins s σ H _ _ v u Q I rx ry ⟨_, _, rfl, rfl, t.1, q _ M t.2 _ H (Stb.refl H) (.str _) m⟩
  · cases r1 with
    | @tup a vs _ h1 s1 =>
      cases r2 with
      | @tup b us _ h2 s2 =>
        have l1 := s1.length
        have l2 := s2.length
        refine op_catA pins s σ H _ _ v u Q I rx ry ⟨a, b, vs, us, rfl, rfl, h1, h2, by rw [← l1, ← l2]; exact t.1, fun e => ?_, fun _ e => ?_, fun _ _ p hp => ?_⟩
        · subst e
          cases s1
          exact q _ M t.2 _ H (Stb.refl H) (.tup h2 s2) m
        · subst e
          cases s2
          have t2 := t.2
          rw [List.append_nil] at t2
          exact q _ M t2 _ H (Stb.refl H) (.tup h1 s1) m
        · exact q _ M t.2 _ _ (Stb.new hp) (.tup (SqT.of upd_same) (RDs.stb (Stb.new hp) (s1.append s2))) (m.laid hp)
  · cases r1
    cases r2
    obtain ⟨xs, ys, h1, h2, h3, t⟩ := t
    obtain ⟨vs, hv, rv⟩ := m _ _ h1
    obtain ⟨us, hu, ru⟩ := m _ _ h2
    refine op_cat pins s σ H _ _ v u Q I rx ry ⟨_, _, vs, us, rfl, rfl, hv, hu, by rw [← rv.length, ← ru.length]; exact h3, fun p hp => ?_⟩
    exact q _ _ (t p (m.fresh hp)) _ _ (Stb.new hp) (.ref p) (m.new hp ⟨_, upd_same, RDs.stb (Stb.new hp) (rv.append ru)⟩)
  · exact t.elim
def dNeg : D → MM → QD → Prop := fun x M Q => match x with
  | .int i => Q (.int (-i)) M
  | _ => False
theorem un_dNeg : UnR X (unaryOp .USub) (upU X dNeg) := by
  intro pins s σ H x v Q I rx h
  obtain ⟨d, M, Q0, r, m, t, q⟩ := h
  unfold dNeg at t
  split at t
  · cases r
    exact un_neg pins s σ H _ v Q I rx ⟨_, rfl, q _ M t _ H (Stb.refl H) (.int _) m⟩
  · exact t.elim
end
end Fg
/-! Fg3: dicts of data. -/
namespace Fg
open PySem PySem.Spec L2
open PyProof.Rows hiding St
/-! ### tables -/
def lookK (kvs : List (D × D)) (k : NestedKey) : Option D := (kvs.find? fun p => decide (dkey p.1 = some k)).map (·.2)
def hasK (kvs : List (D × D)) (k : NestedKey) : Bool := kvs.any fun p => decide (dkey p.1 = some k)
def putKD (kvs : List (D × D)) (kd : D) (k : NestedKey) (v : D) : List (D × D) :=
  if hasK kvs k = true then kvs.map (fun p => if dkey p.1 = some k then (p.1, v) else p) else kvs ++ [(kd, v)]
structure KOk (kvs : List (D × D)) (kd : D) (k : NestedKey) : Prop where
  key : dkey kd = some k
  dp : k.depth ≤ 8
  kd : (isAt kd = true ∧ ∀ p ∈ kvs, isAt p.1 = true) ∨ (isTu kd = true ∧ ∀ p ∈ kvs, isTu p.1 = true)
theorem hasK_isSome (k : NestedKey) : ∀ kvs : List (D × D), hasK kvs k = (lookK kvs k).isSome
  | [] => rfl
  | p :: r => by
    have ih := hasK_isSome k r
    unfold hasK lookK at ih ⊢
    rw [List.any_cons, List.find?_cons]
    by_cases e : dkey p.1 = some k
    · simp [e]
    · simp only [e, decide_false, Bool.false_or]; exact ih
theorem putKD_length (kvs : List (D × D)) (kd : D) (k : NestedKey) (v : D) : (putKD kvs kd k v).length ≤ kvs.length + 1 := by
  unfold putKD
  split
  · rw [List.length_map]; omega
  · rw [List.length_append]; simp
/-! ### keys in the heap -/
section
variable {X : Cx} {pins : List (Addr × Obj)} {σ : St} {H : Hp} {s : Shared}
mutual
theorem nested_of (I : Inv X pins σ H s) : ∀ {d : D} {v : V} {u : Value} {k : NestedKey}, RD X.K H d v → dkey d = some k → RelV v u → NestedIs s.heap k u
  | _, _, _, _, .non, e, r => by cases e; cases r; exact .none
  | _, _, _, _, .bl b, e, r => by cases e
  | _, _, _, _, .int i, e, r => by cases e; obtain ⟨t, rfl⟩ := r; exact .int _ _
  | _, _, _, _, .str x, e, r => by cases e; obtain ⟨t, rfl⟩ := r; exact .text _ _
  | _, _, _, _, .ty n, e, r => by cases e
  | _, _, _, _, .rol h q, e, r => by cases e
  | _, _, _, _, .ref a, e, r => by cases e
  | _, _, _, _, .tup h q, e, r => by
    rename_i ds
    rw [dkey] at e
    obtain ⟨ks, e1, e2⟩ := Option.map_eq_some_iff.mp e
    subst e2
    cases r
    obtain ⟨its, rv, ⟨o, h1, h2, n, h3⟩, _⟩ := I.tuple h
    refine .tup h1 h2 h3 ?_
    exact nesteds_of I q e1 rv
theorem nesteds_of (I : Inv X pins σ H s) : ∀ {ds : List D} {vs : List V} {us : List Value} {ks : List NestedKey}, RDs X.K H ds vs → dkeys ds = some ks → Vals vs us → NestedAll s.heap ks us
  | _, _, _, _, .nil, e, r => by cases e; cases r; exact .nil
  | _, _, _, _, .cons h q, e, r => by
    rename_i d v ds vs
    cases r with
    | cons r1 r2 =>
      unfold dkeys at e
      cases e1 : dkey d with
      | none => simp [e1] at e
      | some k =>
        cases e2 : dkeys ds with
        | none => simp [e1, e2] at e
        | some ks =>
          simp only [e1, e2, Option.some.injEq] at e
          subst e
          exact .cons (nested_of I h e1 r1) (nesteds_of I q e2 r2)
end
/-! ### the two forms of the library -/
def akey : D → Option Key
  | .int i => some (.inl i)
  | .str x => some (.inr x)
  | _ => none
def nkey : Key → NestedKey
  | .inl i => .num i
  | .inr x => .text x
theorem nkey_inj {a b : Key} (h : nkey a = nkey b) : a = b := by
  cases a <;> cases b <;> simp [nkey] at h <;> rw [h]
theorem akey_of {d : D} (h : isAt d = true) : ∃ k, akey d = some k ∧ dkey d = some (nkey k) := by
  cases d <;> first | exact ⟨_, rfl, rfl⟩ | cases h
theorem akey_dkey {d : D} {k : Key} (h : akey d = some k) : dkey d = some (nkey k) := by
  cases d <;> first | (cases h; rfl) | cases h
theorem akey_rel {K : PySem.W.Frag} {d : D} {v : V} {u : Value} {k : Key} (r : RD K H d v) (h : akey d = some k) (ru : RelV v u) : keyIs k u = true := by
  cases r <;> first
    | (cases h; obtain ⟨t, rfl⟩ := ru; exact keyIs_int _ _)
    | (cases h; obtain ⟨t, rfl⟩ := ru; exact keyIs_str _ _)
    | cases h
theorem rel_akey {K : PySem.W.Frag} {d : D} {u : Value} {k : Key} (h : akey d = some k) (e : keyIs k u = true) : ∃ y, RelV y u ∧ RD K H d y := by
  rcases keyIs_shape e with ⟨i, t, rfl, rfl⟩ | ⟨x, t, rfl, rfl⟩
  · cases d <;> first | (cases h; exact ⟨.int _, ⟨_, rfl⟩, .int _⟩) | cases h
  · cases d <;> first | (cases h; exact ⟨.str _, ⟨_, rfl⟩, .str _⟩) | cases h
theorem nkey_hash (w : World) (k : Key) : (nkey k).hash w = keyH w k := by cases k <;> rfl
theorem nkey_dep (k : Key) : (nkey k).depth = 0 := by cases k <;> rfl
def RA (K : PySem.W.Frag) (H : Hp) (p : D × D) (q : Key × Value) : Prop := akey p.1 = some q.1 ∧ ∃ y, RelV y q.2 ∧ RD K H p.2 y
def RT (w : World) (K : PySem.W.Frag) (H : Hp) (p : D × D) (x : NestedKey × Addr × Value) : Prop := dkey p.1 = some x.1 ∧ x.1.depth ≤ 8 ∧ RD K H p.1 (.ref x.2.1) ∧ ∃ y, RelV y x.2.2 ∧ RD K H p.2 y
theorem toA {P : Program} {w : World} {K : PySem.W.Frag} : ∀ {kvs : List (D × D)} {es : List DictEntry}, Paired (REn K w H) kvs es → (∀ p ∈ kvs, isAt p.1 = true) →
    ∃ vs : List (Key × Value), Pairs (mixKind P w) es vs ∧ Paired (RA K H) kvs vs ∧ ∀ e ∈ es, ∃ k, (mixKind P w).is k e.key = true ∧ e.hash = (mixKind P w).hash k
  | _, _, .nil, _ => ⟨[], .nil, .nil, fun _ h => nomatch h⟩
  | _, _, .cons h t, a => by
    rename_i p e ps es
    obtain ⟨vs, q1, q2, q3⟩ := toA (P := P) t fun p hp => a p (List.mem_cons_of_mem _ hp)
    obtain ⟨⟨k, y, hk, _, hh, ry, rd⟩, z, rz, dz⟩ := h
    obtain ⟨k', e1, e2⟩ := akey_of (a p List.mem_cons_self)
    rw [hk] at e2
    cases e2
    have ki := akey_rel rd e1 ry
    refine ⟨(k', e.val) :: vs, .cons ki rfl q1, .cons ⟨e1, z, rz, dz⟩ q2, fun e' he => ?_⟩
    rcases List.mem_cons.mp he with rfl | he
    · exact ⟨k', ki, by rw [hh, nkey_hash]; rfl⟩
    · exact q3 e' he
theorem fromA {P : Program} {w : World} {K : PySem.W.Frag} : ∀ {kvs : List (D × D)} {es : List DictEntry} {vs : List (Key × Value)}, Pairs (mixKind P w) es vs → (∀ e ∈ es, ∃ k, (mixKind P w).is k e.key = true ∧ e.hash = (mixKind P w).hash k) →
    Paired (RA K H) kvs vs → Paired (REn K w H) kvs es
  | _, _, _, .nil, _, h => by cases h; exact .nil
  | _, _, _, .cons k1 k2 t, a, h => by
    rename_i e kv es vs
    cases h with
    | @cons p _ ps _ h1 h2 =>
      obtain ⟨e1, y, ry, dy⟩ := h1
      refine .cons ⟨?_, y, by rw [k2]; exact ry, dy⟩ (fromA t (fun e he => a e (List.mem_cons_of_mem _ he)) h2)
      obtain ⟨k', j1, j2⟩ := a e List.mem_cons_self
      have ee : k' = kv.1 := (mixKind P w).inj _ _ _ j1 k1
      subst ee
      obtain ⟨z, rz, dz⟩ := rel_akey (K := K) (H := H) e1 k1
      exact ⟨_, z, akey_dkey e1, by rw [nkey_dep]; omega, by rw [j2, nkey_hash]; rfl, rz, dz⟩
theorem toT (I : Inv X pins σ H s) : ∀ {kvs : List (D × D)} {es : List DictEntry}, Paired (REn X.K X.w H) kvs es → (∀ p ∈ kvs, isTu p.1 = true) →
    ∃ xs : List (NestedKey × Addr × Value), es = xs.map (entryOfKey (nestedKind X.prog X.w)) ∧ (∀ x ∈ xs, (nestedKind X.prog X.w).is s.heap x.1 x.2.1) ∧ Paired (RT X.w X.K H) kvs xs
  | _, _, .nil, _ => ⟨[], rfl, (fun _ h => nomatch h), .nil⟩
  | _, _, .cons h t, a => by
    rename_i p e ps es
    obtain ⟨xs, q1, q2, q3⟩ := toT I t fun p hp => a p (List.mem_cons_of_mem _ hp)
    obtain ⟨⟨k, y, hk, hd, hh, ry, rd⟩, z, rz, dz⟩ := h
    obtain ⟨p1, p2⟩ := p
    have ht := a _ List.mem_cons_self
    cases rd with
    | @tup b vs ds h1 h2 =>
      have hn := nested_of I (RD.tup h1 h2) hk ry
      cases ry' : e.key with
      | ref b' =>
        rw [ry'] at ry
        have eb : b' = b := by cases ry; rfl
        subst eb
        refine ⟨(k, b', e.val) :: xs, ?_, fun x hx => ?_, .cons ⟨hk, hd, .tup h1 h2, z, rz, dz⟩ q3⟩
        · rw [List.map_cons, ← q1]
          obtain ⟨e1, e2, e3⟩ := e
          dsimp only at ry' hh
          subst ry' hh
          rfl
        · rcases List.mem_cons.mp hx with rfl | hx
          · rw [ry'] at hn; exact ⟨hn, hd⟩
          · exact q2 x hx
      | _ => rw [ry'] at ry; cases ry
    | _ => cases ht
theorem fromT {P : Program} {w : World} {K : PySem.W.Frag} : ∀ {kvs : List (D × D)} {xs : List (NestedKey × Addr × Value)}, Paired (RT w K H) kvs xs → Paired (REn K w H) kvs (xs.map (entryOfKey (nestedKind P w)))
  | _, _, .nil => .nil
  | _, _, .cons (b := x) h t => by
    obtain ⟨a, b, c, y, ry, dy⟩ := h
    exact .cons ⟨⟨x.1, .ref x.2.1, a, b, rfl, (rfl : RelV (V.ref x.2.1) (Value.ref x.2.1)), c⟩, y, ry, dy⟩ (fromT t)
theorem nodup_A {K : PySem.W.Frag} : ∀ {kvs : List (D × D)} {vs : List (Key × Value)}, Paired (RA K H) kvs vs → (kvs.map fun p => dkey p.1) = vs.map fun q => some (nkey q.1)
  | _, _, .nil => rfl
  | _, _, .cons h t => by rw [List.map_cons, List.map_cons, nodup_A t, akey_dkey h.1]
theorem nodup_T {w : World} {K : PySem.W.Frag} : ∀ {kvs : List (D × D)} {xs : List (NestedKey × Addr × Value)}, Paired (RT w K H) kvs xs → (kvs.map fun p => dkey p.1) = xs.map fun q => some q.1
  | _, _, .nil => rfl
  | _, _, .cons h t => by rw [List.map_cons, List.map_cons, nodup_T t, h.1]
theorem nodup_inj {α β : Type} (f : α → β) (hf : ∀ a b, f a = f b → a = b) : ∀ {l : List α}, (l.map f).Nodup → l.Nodup
  | [], _ => List.nodup_nil
  | a :: l, h => by
    rw [List.map_cons, List.nodup_cons] at h
    refine List.nodup_cons.mpr ⟨fun m => h.1 (List.mem_map.mpr ⟨a, m, rfl⟩), nodup_inj f hf h.2⟩
theorem inj_nodup {α β : Type} (f : α → β) (hf : ∀ a b, f a = f b → a = b) : ∀ {l : List α}, l.Nodup → (l.map f).Nodup
  | [], _ => List.nodup_nil
  | a :: l, h => by
    rw [List.nodup_cons] at h
    rw [List.map_cons, List.nodup_cons]
    refine ⟨fun m => ?_, inj_nodup f hf h.2⟩
    obtain ⟨b, hb, e⟩ := List.mem_map.mp m
    rw [hf _ _ e] at hb
    exact h.1 hb
/-- the dict at a as the library has it -/
theorem dct_raw (I : Inv X pins σ H s) {a : Addr} {es : List DictEntry} (h : Rd H a (rawD a es)) : ∃ o ep, s.heap.get? a = some o ∧ o.ExactDict ∧ o.data = .dict es.toArray ep := by
  have q : ObjOk X.prog X.w H s.heap a (rawD a es) := Rd.ok h I.hok
  exact q.1
theorem dct_A (I : Inv X pins σ H s) {a : Addr} {es : List DictEntry} {kvs : List (D × D)} (h : Rd H a (rawD a es)) (p : Paired (REn X.K X.w H) kvs es) (nd : (kvs.map fun p => dkey p.1).Nodup) (at_ : ∀ p ∈ kvs, isAt p.1 = true) :
    ∃ vs, s.heap.DictOf (mixKind X.prog X.w) a vs ∧ Paired (RA X.K H) kvs vs := by
  obtain ⟨o, ep, h1, h2, h3⟩ := dct_raw I h
  obtain ⟨vs, q1, q2, q3⟩ := toA (P := X.prog) p at_
  refine ⟨vs, ⟨o, _, ep, h1, h2, h3, fun e he => q3 e (by simpa using he), by simpa using q1, ?_⟩, q2⟩
  rw [nodup_A q2] at nd
  have e : (vs.map fun q => some (nkey q.1)) = (vs.map (·.1)).map fun k => some (nkey k) := by rw [List.map_map]; rfl
  rw [e] at nd
  exact nodup_inj _ (fun a b q => nkey_inj (Option.some.inj q)) nd
theorem dct_T (I : Inv X pins σ H s) {a : Addr} {es : List DictEntry} {kvs : List (D × D)} (h : Rd H a (rawD a es)) (p : Paired (REn X.K X.w H) kvs es) (nd : (kvs.map fun p => dkey p.1).Nodup) (tu : ∀ p ∈ kvs, isTu p.1 = true) :
    ∃ xs, s.heap.DictOfH (nestedKind X.prog X.w) a xs ∧ Paired (RT X.w X.K H) kvs xs := by
  obtain ⟨o, ep, h1, h2, h3⟩ := dct_raw I h
  obtain ⟨xs, q1, q2, q3⟩ := toT I p tu
  refine ⟨xs, ⟨o, _, ep, h1, h2, h3, by rw [← q1], q2, ?_⟩, q3⟩
  rw [nodup_T q3] at nd
  have e : (xs.map fun q => some q.1) = (xs.map (·.1)).map fun k => some k := by rw [List.map_map]; rfl
  rw [e] at nd
  exact nodup_inj _ (fun a b q => Option.some.inj q) nd
/-! ### looking up -/
def ROp (K : PySem.W.Frag) (H : Hp) : Option D → Option Value → Prop
  | some d, some u => ∃ y, RelV y u ∧ RD K H d y
  | none, none => True
  | _, _ => False
theorem look_A {K : PySem.W.Frag} (k : Key) : ∀ {kvs : List (D × D)} {vs : List (Key × Value)}, Paired (RA K H) kvs vs → ROp K H (lookK kvs (nkey k)) (valueAt vs k)
  | _, _, .nil => trivial
  | _, _, .cons h t => by
    rename_i p q ps qs
    have ih := look_A k t
    obtain ⟨e1, y, ry, dy⟩ := h
    have e2 := akey_dkey e1
    unfold lookK valueAt at ih ⊢
    rw [List.find?_cons, List.find?_cons]
    by_cases e : q.1 = k
    · have e3 : decide (dkey p.1 = some (nkey k)) = true := decide_eq_true (by rw [e2, e])
      rw [e3, decide_eq_true e]
      exact ⟨y, ry, dy⟩
    · have e3 : decide (dkey p.1 = some (nkey k)) = false := decide_eq_false fun z => by
        rw [e2] at z; exact e (nkey_inj (Option.some.inj z))
      rw [e3, decide_eq_false e]
      exact ih
theorem look_T {w : World} {K : PySem.W.Frag} (k : NestedKey) : ∀ {kvs : List (D × D)} {xs : List (NestedKey × Addr × Value)}, Paired (RT w K H) kvs xs → ROp K H (lookK kvs k) ((atKey xs k).map (·.2))
  | _, _, .nil => trivial
  | _, _, .cons h t => by
    rename_i p q ps qs
    have ih := look_T k t
    obtain ⟨e1, _, _, y, ry, dy⟩ := h
    unfold lookK atKey at ih ⊢
    rw [List.find?_cons, List.find?_cons]
    by_cases e : q.1 = k
    · have e3 : decide (dkey p.1 = some k) = true := decide_eq_true (by rw [e1, e])
      rw [e3, decide_eq_true e]
      exact ⟨y, ry, dy⟩
    · have e3 : decide (dkey p.1 = some k) = false := decide_eq_false fun z => by
        rw [e1] at z; exact e (Option.some.inj z)
      rw [e3, decide_eq_false e]
      exact ih
theorem ROp.isSome {K : PySem.W.Frag} {o : Option D} {u : Option Value} (h : ROp K H o u) : o.isSome = u.isSome := by
  cases o <;> cases u <;> first | rfl | exact (show False from h).elim
theorem repl_A {K : PySem.W.Frag} {k : Key} {v : D} {y : V} {u : Value} (ry : RelV y u) (dy : RD K H v y) : ∀ {kvs : List (D × D)} {vs : List (Key × Value)}, Paired (RA K H) kvs vs →
    Paired (RA K H) (kvs.map fun p => if dkey p.1 = some (nkey k) then (p.1, v) else p) (vs.map fun kv => if kv.1 = k then (kv.1, u) else kv)
  | _, _, .nil => .nil
  | _, _, .cons h t => by
    rename_i p q ps qs
    rw [List.map_cons, List.map_cons]
    refine .cons ?_ (repl_A ry dy t)
    have e2 := akey_dkey h.1
    by_cases e : q.1 = k
    · rw [if_pos (by rw [e2, e]), if_pos e]; exact ⟨h.1, y, ry, dy⟩
    · rw [if_neg (fun z => by rw [e2] at z; exact e (nkey_inj (Option.some.inj z))), if_neg e]; exact h
theorem put_A {K : PySem.W.Frag} {kd : D} {k : Key} {v : D} {y : V} {u : Value} (hk : akey kd = some k) (ry : RelV y u) (dy : RD K H v y) {kvs : List (D × D)} {vs : List (Key × Value)} (h : Paired (RA K H) kvs vs) :
    Paired (RA K H) (putKD kvs kd (nkey k) v) (stored vs k u) := by
  have e : hasK kvs (nkey k) = vs.any fun kv => decide (kv.1 = k) := by
    rw [hasK_isSome, (look_A k h).isSome]
    unfold valueAt
    rw [Option.isSome_map, List.isSome_find?]
  unfold putKD stored
  rw [e]
  by_cases q : (vs.any fun kv => decide (kv.1 = k)) = true
  · rw [if_pos q, if_pos q]; exact repl_A ry dy h
  · rw [if_neg q, if_neg q]; exact Paired.snoc h ⟨hk, y, ry, dy⟩
theorem repl_T {w : World} {K : PySem.W.Frag} {k : NestedKey} {v : D} {y : V} {u : Value} (ry : RelV y u) (dy : RD K H v y) : ∀ {kvs : List (D × D)} {xs : List (NestedKey × Addr × Value)}, Paired (RT w K H) kvs xs →
    Paired (RT w K H) (kvs.map fun p => if dkey p.1 = some k then (p.1, v) else p) (xs.map (putAt k u))
  | _, _, .nil => .nil
  | _, _, .cons h t => by
    rename_i p q ps qs
    rw [List.map_cons, List.map_cons]
    refine .cons ?_ (repl_T ry dy t)
    unfold putAt
    obtain ⟨h1, h2, h3, h4⟩ := h
    by_cases e : q.1 = k
    · rw [if_pos (by rw [h1, e]), if_pos e]; exact ⟨h1, h2, h3, y, ry, dy⟩
    · rw [if_neg (fun z => by rw [h1] at z; exact e (Option.some.inj z)), if_neg e]; exact ⟨h1, h2, h3, h4⟩
theorem put_T {w : World} {K : PySem.W.Frag} {kd : D} {k : NestedKey} {b : Addr} {v : D} {y : V} {u : Value} (hk : dkey kd = some k) (hd : k.depth ≤ 8) (rk : RD K H kd (.ref b)) (ry : RelV y u) (dy : RD K H v y) {kvs : List (D × D)}
    {xs : List (NestedKey × Addr × Value)} (h : Paired (RT w K H) kvs xs) : Paired (RT w K H) (putKD kvs kd k v) (storedH xs k b u) := by
  have e : hasK kvs k = (atKey xs k).isSome := by rw [hasK_isSome, (look_T k h).isSome, Option.isSome_map]
  unfold putKD storedH
  rw [e]
  by_cases q : (atKey xs k).isSome = true
  · rw [if_pos q, if_pos q]; exact repl_T ry dy h
  · rw [if_neg q, if_neg q]; exact Paired.snoc h ⟨hk, hd, rk, y, ry, dy⟩
/-- a tuple's value is an address -/
theorem tu_ref {K : PySem.W.Frag} {d : D} {v : V} {u : Value} (r : RD K H d v) (h : isTu d = true) (ru : RelV v u) : ∃ b, v = .ref b ∧ u = .ref b := by
  cases r <;> first | (cases ru; exact ⟨_, rfl, rfl⟩) | cases h

/-! ### what is asked of a dict, by values; M a = .dct kvs gives h1 .. -/
structure DAt (X : Cx) (H : Hp) (a : Addr) (kvs : List (D × D)) (es : List DictEntry) : Prop where
  at_ : Rd H a (rawD a es)
  sys : (a == sysModules) = false
  sz : kvs.length ≤ sizeLine
  un : uni kvs
  nd : (kvs.map fun p => dkey p.1).Nodup
  en : Paired (REn X.K X.w H) kvs es
theorem dct_at {M : MM} (m : RMx X H M) {a : Addr} {kvs : List (D × D)} (h : M a = some (.dct kvs)) : ∃ es, DAt X H a kvs es ∧ H a = some (rawD a es) := by
  obtain ⟨es, h1, h2, h3, hu, h4, h5⟩ := m a _ h
  exact ⟨es, ⟨.inl h1, h2, h3, hu, h4, h5⟩, h1⟩
variable {A : Around} {E : Value → Shared → Prop} {a : Addr} {kvs : List (D × D)} {es : List DictEntry} {kd : D} {k : NestedKey} {y : V} {u : Value}
theorem g_item {v : D} {Q : Value → Shared → Prop} (hu : A.units + 64 < cLine) (I : Inv X pins σ H s) (d : DAt X H a kvs es) (ok : KOk kvs kd k) (r : RD X.K H kd y) (ru : RelV y u) (hv : lookK kvs k = some v)
    (h : ∀ z u' s', Inv X pins σ H s' → RelV z u' → RD X.K H v z → Q u' s') : wpAny (model X.prog X.w) A (getItem (.ref a) u) Q E s := by
  rcases ok.kd with ⟨h1, h2⟩ | ⟨h1, h2⟩
  · obtain ⟨vs, dd, rel⟩ := dct_A I d.at_ d.en d.nd h2
    obtain ⟨k', e1, e2⟩ := akey_of h1
    have ek : k = nkey k' := Option.some.inj (ok.key.symm.trans e2)
    subst ek
    have l := look_A k' rel
    rw [hv] at l
    cases q : valueAt vs k' with
    | none => rw [q] at l; exact l.elim
    | some w' =>
      rw [q] at l
      obtain ⟨z, rz, dz⟩ := l
      exact wpAny_getItem_of (akey_rel r e1 ru) dd.mapOf q (h z w' _ (I.tok _) rz dz)
  · obtain ⟨xs, dd, rel⟩ := dct_T I d.at_ d.en d.nd h2
    obtain ⟨b, rfl, rfl⟩ := tu_ref r h1 ru
    have l := look_T k rel
    rw [hv] at l
    cases q : atKey xs k with
    | none => rw [q] at l; exact l.elim
    | some w' =>
      rw [q] at l
      obtain ⟨z, rz, dz⟩ := l
      exact wpAny_getItem_heap (knd := nestedKind X.prog X.w) (by show A.in1.units + 8 < cLine; show A.units + 1 + 8 < cLine; omega) ⟨nested_of I r ok.key ru, ok.dp⟩ dd q (h z _ _ (I.tok _) rz dz)
theorem g_in {Q : Value → Shared → Prop} (hu : A.units + 64 < cLine) (I : Inv X pins σ H s) (d : DAt X H a kvs es) (ok : KOk kvs kd k) (r : RD X.K H kd y) (ru : RelV y u)
    (h : ∀ s', Inv X pins σ H s' → Q (.bool (lookK kvs k).isSome) s') : wpAny (model X.prog X.w) A (compareOp .In u (.ref a)) Q E s := by
  rcases ok.kd with ⟨h1, h2⟩ | ⟨h1, h2⟩
  · obtain ⟨vs, dd, rel⟩ := dct_A I d.at_ d.en d.nd h2
    obtain ⟨k', e1, e2⟩ := akey_of h1
    have ek : k = nkey k' := Option.some.inj (ok.key.symm.trans e2)
    subst ek
    rw [(look_A k' rel).isSome] at h
    exact wpAny_in_of (akey_rel r e1 ru) d.sys dd.mapOf (h _ (I.tok _))
  · obtain ⟨xs, dd, rel⟩ := dct_T I d.at_ d.en d.nd h2
    obtain ⟨b, rfl, rfl⟩ := tu_ref r h1 ru
    rw [(look_T k rel).isSome, Option.isSome_map] at h
    exact wpAny_in_heap (knd := nestedKind X.prog X.w) (by show A.units + 1 + 8 < cLine; omega) ⟨nested_of I r ok.key ru, ok.dp⟩ d.sys dd (h _ (I.tok _))
theorem g_notIn {Q : Value → Shared → Prop} (hu : A.units + 64 < cLine) (I : Inv X pins σ H s) (d : DAt X H a kvs es) (ok : KOk kvs kd k) (r : RD X.K H kd y) (ru : RelV y u)
    (h : ∀ s', Inv X pins σ H s' → Q (.bool (!(lookK kvs k).isSome)) s') : wpAny (model X.prog X.w) A (compareOp .NotIn u (.ref a)) Q E s := by
  rcases ok.kd with ⟨h1, h2⟩ | ⟨h1, h2⟩
  · obtain ⟨vs, dd, rel⟩ := dct_A I d.at_ d.en d.nd h2
    obtain ⟨k', e1, e2⟩ := akey_of h1
    have ek : k = nkey k' := Option.some.inj (ok.key.symm.trans e2)
    subst ek
    rw [(look_A k' rel).isSome] at h
    exact wpAny_notIn_of (akey_rel r e1 ru) d.sys dd.mapOf (h _ (I.tok _))
  · obtain ⟨xs, dd, rel⟩ := dct_T I d.at_ d.en d.nd h2
    obtain ⟨b, rfl, rfl⟩ := tu_ref r h1 ru
    rw [(look_T k rel).isSome, Option.isSome_map] at h
    exact wpAny_notIn_heap (knd := nestedKind X.prog X.w) (by show A.units + 1 + 8 < cLine; omega) ⟨nested_of I r ok.key ru, ok.dp⟩ d.sys dd (h _ (I.tok _))
theorem getD_rel {o : Option D} {ou : Option Value} {e : D} {ue : Value} (l : ROp X.K H o ou) (re : ∃ z, RelV z ue ∧ RD X.K H e z) : ∃ z, RelV z (ou.getD ue) ∧ RD X.K H (o.getD e) z := by
  cases o <;> cases ou <;> first | exact re | exact l | exact (show False from l).elim
theorem g_get {e : D} {z : V} {ue : Value} {Q : Value → Shared → Prop} (hu : A.units + 64 < cLine) (I : Inv X pins σ H s) (d : DAt X H a kvs es) (ok : KOk kvs kd k) (r : RD X.K H kd y) (ru : RelV y u) (re : RD X.K H e z) (rue : RelV z ue)
    (h : ∀ z' u' s', Inv X pins σ H s' → RelV z' u' → RD X.K H ((lookK kvs k).getD e) z' → Q u' s') : wpAny (model X.prog X.w) A (call (.builtin "dict.get") [.ref a, u, ue]) Q E s := by
  rcases ok.kd with ⟨h1, h2⟩ | ⟨h1, h2⟩
  · obtain ⟨vs, dd, rel⟩ := dct_A I d.at_ d.en d.nd h2
    obtain ⟨k', e1, e2⟩ := akey_of h1
    have ek : k = nkey k' := Option.some.inj (ok.key.symm.trans e2)
    subst ek
    obtain ⟨z', rz, dz⟩ := getD_rel (look_A k' rel) ⟨z, rue, re⟩
    exact call_meetsIn F.slot_dict_get dd.typeIs F.entry_dict_get (F.args_dict_get_3 _ _ _) (meets_dict_get_default (mixKind X.prog X.w) a (akey_rel r e1 ru) d.sys ue) ⟨_, dd.mapOf, h z' _ _ (I.tok _) rz dz⟩
  · obtain ⟨xs, dd, rel⟩ := dct_T I d.at_ d.en d.nd h2
    obtain ⟨b, rfl, rfl⟩ := tu_ref r h1 ru
    obtain ⟨z', rz, dz⟩ := getD_rel (look_T k rel) ⟨z, rue, re⟩
    exact call_meetsIn F.slot_dict_get dd.typeIs F.entry_dict_get (F.args_dict_get_3 _ _ _) (meetsH_dict_get_default (nestedKind X.prog X.w) a b d.sys ue)
      ⟨by show A.units + 1 + 8 < cLine; omega, k, xs, ⟨nested_of I r ok.key ru, ok.dp⟩, dd, h z' _ _ (I.tok _) rz dz⟩
theorem g_get1 {Q : Value → Shared → Prop} (hu : A.units + 64 < cLine) (I : Inv X pins σ H s) (d : DAt X H a kvs es) (ok : KOk kvs kd k) (r : RD X.K H kd y) (ru : RelV y u)
    (h : ∀ z' u' s', Inv X pins σ H s' → RelV z' u' → RD X.K H ((lookK kvs k).getD .non) z' → Q u' s') : wpAny (model X.prog X.w) A (call (.builtin "dict.get") [.ref a, u]) Q E s := by
  rcases ok.kd with ⟨h1, h2⟩ | ⟨h1, h2⟩
  · obtain ⟨vs, dd, rel⟩ := dct_A I d.at_ d.en d.nd h2
    obtain ⟨k', e1, e2⟩ := akey_of h1
    have ek : k = nkey k' := Option.some.inj (ok.key.symm.trans e2)
    subst ek
    obtain ⟨z', rz, dz⟩ := getD_rel (look_A k' rel) ⟨.non, (rfl : RelV V.non Value.none), RD.non⟩
    exact call_meetsIn F.slot_dict_get dd.typeIs F.entry_dict_get (F.args_dict_get_2 _ _) (meets_dict_get (mixKind X.prog X.w) a (akey_rel r e1 ru) d.sys) ⟨_, dd.mapOf, h z' _ _ (I.tok _) rz dz⟩
  · obtain ⟨xs, dd, rel⟩ := dct_T I d.at_ d.en d.nd h2
    obtain ⟨b, rfl, rfl⟩ := tu_ref r h1 ru
    obtain ⟨z', rz, dz⟩ := getD_rel (look_T k rel) ⟨.non, (rfl : RelV V.non Value.none), RD.non⟩
    exact call_meetsIn F.slot_dict_get dd.typeIs F.entry_dict_get (F.args_dict_get_2 _ _) (meetsH_dict_get (nestedKind X.prog X.w) a b d.sys)
      ⟨by show A.units + 1 + 8 < cLine; omega, k, xs, ⟨nested_of I r ok.key ru, ok.dp⟩, dd, h z' _ _ (I.tok _) rz dz⟩
/-- a dict's object, new -/
theorem raw_ok {P : Program} {w : World} {H' : Hp} {h' : Heap} {es' : List DictEntry} (h : ∃ o ep, h'.get? a = some o ∧ o.ExactDict ∧ o.data = .dict es'.toArray ep) : ObjOk P w H' h' a (rawD a es') := by
  obtain ⟨o, ep, h1, h2, h3⟩ := h
  exact ⟨⟨o, ep, h1, h2, h3⟩, ⟨o, h1⟩, fun g1 g2 ⟨o', ep', e1, e2, e3⟩ k => ⟨o', ep', k _ e1, e2, e3⟩⟩
theorem g_set {v : D} {z : V} {uv : Value} {Q : Unit → Shared → Prop} (hu : A.units + 64 < cLine) (I : Inv X pins σ H s) (d : DAt X H a kvs es) (hH : H a = some (rawD a es)) (ok : KOk kvs kd k) (hz : kvs.length < sizeLine) (r : RD X.K H kd y) (ru : RelV y u) (rv : RD X.K H v z) (rvu : RelV z uv)
    (h : ∀ es' s', Inv X pins σ (upd H a (rawD a es')) s' → Paired (REn X.K X.w H) (putKD kvs kd k v) es' → Q () s') : wpAny (model X.prog X.w) A (setItem (.ref a) u uv) Q E s := by
  rcases ok.kd with ⟨h1, h2⟩ | ⟨h1, h2⟩
  · obtain ⟨vs, dd, rel⟩ := dct_A I d.at_ d.en d.nd h2
    obtain ⟨k', e1, e2⟩ := akey_of h1
    have ek : k = nkey k' := Option.some.inj (ok.key.symm.trans e2)
    subst ek
    refine wpAny_setItem_pairs (hsz := by rw [← Paired.length rel]; omega) (akey_rel r e1 ru) dd fun h' dd' hs => ?_
    obtain ⟨o, es', ep, g1, g2, g3, g4, g5, g6⟩ := dd'
    exact h es'.toList _ (d_write (t' := _) I (by rw [hH]; trivial) hs ⟨o, g1⟩ (raw_ok ⟨o, ep, g1, g2, by rw [g3]⟩)) (fromA g5 (fun e he => g4 e (by simpa using he)) (put_A e1 rvu rv rel))
  · obtain ⟨xs, dd, rel⟩ := dct_T I d.at_ d.en d.nd h2
    obtain ⟨b, rfl, rfl⟩ := tu_ref r h1 ru
    refine wpAny_setItem_heap (knd := nestedKind X.prog X.w) (hsz := by rw [← Paired.length rel]; omega) (by show A.units + 1 + 8 < cLine; omega) ⟨nested_of I r ok.key ru, ok.dp⟩ dd fun h' dd' hs => ?_
    obtain ⟨o, es', ep, g1, g2, g3, g4, g5, g6⟩ := dd'
    refine h es'.toList _ (d_write (t' := _) I (by rw [hH]; trivial) hs ⟨o, g1⟩ (raw_ok ⟨o, ep, g1, g2, by rw [g3]⟩)) ?_
    rw [g4]
    exact fromT (put_T ok.key ok.dp r rvu rv rel)
end
/-- the keys stay unlike -/
theorem put_nodup {kvs : List (D × D)} {kd : D} {k : NestedKey} {v : D} (hk : dkey kd = some k) (nd : (kvs.map fun p => dkey p.1).Nodup) : ((putKD kvs kd k v).map fun p => dkey p.1).Nodup := by
  unfold putKD
  by_cases q : hasK kvs k = true
  · rw [if_pos q, List.map_map]
    have e : ((fun p : D × D => dkey p.1) ∘ fun p => if dkey p.1 = some k then (p.1, v) else p) = fun p => dkey p.1 := by
      funext p
      show dkey (if dkey p.1 = some k then (p.1, v) else p).1 = dkey p.1
      split <;> rfl
    rw [e]; exact nd
  · rw [if_neg q, List.map_append, List.map_cons, List.map_nil]
    refine List.nodup_append.mpr ⟨nd, by simp, fun a ha b hb => ?_⟩
    rw [List.mem_singleton] at hb
    subst hb
    intro e
    obtain ⟨p, hp, e2⟩ := List.mem_map.mp ha
    refine q (List.any_eq_true.mpr ⟨p, hp, decide_eq_true ?_⟩)
    rw [e2, e, hk]
theorem put_mem {kvs : List (D × D)} {kd : D} {k : NestedKey} {v : D} {p : D × D} (h : p ∈ putKD kvs kd k v) : p.1 = kd ∨ ∃ q ∈ kvs, q.1 = p.1 := by
  unfold putKD at h
  by_cases q : hasK kvs k = true
  · rw [if_pos q] at h
    obtain ⟨r, hr, e⟩ := List.mem_map.mp h
    refine .inr ⟨r, hr, ?_⟩
    subst e
    split <;> rfl
  · rw [if_neg q] at h
    rcases List.mem_append.mp h with h | h
    · exact .inr ⟨p, h, rfl⟩
    · rw [List.mem_singleton] at h
      subst h
      exact .inl rfl
theorem put_uni {kvs : List (D × D)} {kd : D} {k : NestedKey} {v : D} (ok : KOk kvs kd k) : uni (putKD kvs kd k v) := by
  rcases ok.kd with ⟨h1, h2⟩ | ⟨h1, h2⟩
  · refine .inl fun p hp => ?_
    rcases put_mem hp with e | ⟨q, hq, e⟩
    · rw [e]; exact h1
    · rw [← e]; exact h2 q hq
  · refine .inr fun p hp => ?_
    rcases put_mem hp with e | ⟨q, hq, e⟩
    · rw [e]; exact h1
    · rw [← e]; exact h2 q hq
end Fg
/-! Fg4: items, slices, membership, built-in calls and methods over data. -/
namespace Fg
open PySem PySem.Spec L2
open PyProof.Rows hiding St
/-! ### items -/
def dIx : OD := fun x y M Q => match x with
  | .tup ds => ∃ i v, y = .int i ∧ atI ds i = some v ∧ Q v M
  | .rol ds => ∃ i v, y = .int i ∧ atI ds i = some v ∧ Q v M
  | .str z => ∃ i c, y = .int i ∧ z.length ≤ sizeLine ∧ atI z.cps.toList i = some c ∧ Q (.str ⟨#[c]⟩) M
  | .ref a => match M a with
    | some (.lst ds) => ∃ i v, y = .int i ∧ atI ds i = some v ∧ Q v M
    | some (.dct kvs) => ∃ k v, KOk kvs y k ∧ lookK kvs k = some v ∧ Q v M
    | _ => False
  | _ => False
theorem RDs.at {K : PySem.W.Frag} {H : Hp} {ds : List D} {vs : List V} (r : RDs K H ds vs) {i : Int} {d : D} (h : atI ds i = some d) : ∃ v, atI vs i = some v ∧ RD K H d v := by
  unfold atI at h ⊢
  rw [← r.length]
  cases e : ixN ds.length i with
  | none => rw [e] at h; cases h
  | some j =>
    rw [e] at h
    exact r.get h
section
variable {X : Cx}
theorem ix_dIx (hu : X.A.units + 64 < cLine) : IxR X (upO X dIx) := by
  intro value slice pins s σ H x y v u Q I rx ry h hs
  obtain ⟨d, f, M, Q0, r1, r2, m, t, q⟩ := h
  unfold dIx at t
  cases r1 with
  | @tup a vs ds h1 h2 =>
    obtain ⟨i, w, rfl, e, t⟩ := t
    cases r2
    obtain ⟨z, ez, dz⟩ := h2.at e
    exact ix_tup value slice pins s σ H _ _ v u Q I rx ry ⟨a, vs, i, z, rfl, rfl, h1, ez, q _ M t z H (Stb.refl H) dz m⟩ hs
  | @rol a vs ds h1 h2 =>
    obtain ⟨i, w, rfl, e, t⟩ := t
    cases r2
    obtain ⟨z, ez, dz⟩ := h2.at e
    exact ix_list value slice pins s σ H _ _ v u Q I rx ry ⟨a, vs, i, z, rfl, rfl, h1.sq, ez, q _ M t z H (Stb.refl H) dz m⟩ hs
  | str z =>
    obtain ⟨i, c, rfl, e1, e, t⟩ := t
    cases r2
    exact ix_str value slice pins s σ H _ _ v u Q I rx ry ⟨z, i, c, rfl, rfl, e1, e, q _ M t _ H (Stb.refl H) (.str _) m⟩ hs
  | ref a =>
    cases em : M a with
    | none => simp only [em] at t
    | some o =>
      cases o with
      | lst ds =>
        simp only [em] at t
        obtain ⟨i, w, rfl, e, t⟩ := t
        cases r2
        obtain ⟨vs, h1, h2⟩ := m a _ em
        obtain ⟨z, ez, dz⟩ := h2.at e
        exact ix_list value slice pins s σ H _ _ v u Q I rx ry ⟨a, vs, i, z, rfl, rfl, SqL.of h1, ez, q _ M t z H (Stb.refl H) dz m⟩ hs
      | dct kvs =>
        simp only [em] at t
        obtain ⟨k, w, ok, e, t⟩ := t
        obtain ⟨es, da, hH⟩ := dct_at m em
        have hT : s.TypeIs (.ref a) "dict" := let ⟨o, ep, h1, h2, _⟩ := dct_raw I da.at_; ⟨o, h1, h2.1⟩
        obtain rfl : v = Value.ref a := rx
        refine tail_any hT slot_dict_getitem.lookup (g_item hu I da ok r2 ry e fun z u' s' I' rz dz => ?_) hs
        exact ⟨z, H, I', rz, q _ M t z H (Stb.refl H) dz m⟩
      | ins _ _ => simp only [em] at t
      | xd _ _ => simp only [em] at t
  | _ => exact t.elim
end
/-! ### slices -/
def cutL (ds : List D) (lo hi : Option Int) : List D := (ds.drop (HT.sIx ds.length 0 lo)).take (HT.sIx ds.length ds.length hi - HT.sIx ds.length 0 lo)
theorem RDs.cut {K : PySem.W.Frag} {H : Hp} {ds : List D} {vs : List V} (r : RDs K H ds vs) (lo hi : Option Int) : RDs K H (cutL ds lo hi) (cutV vs lo hi) := by
  unfold cutL cutV
  rw [← r.length]
  exact (r.drop _).take _
abbrev SD := D → Option Int → Option Int → MM → QD → Prop
def dSl : SD := fun x lo hi M Q => match x with
  | .tup ds => Q (.tup (cutL ds lo hi)) M
  | .str z => z.length ≤ sizeLine ∧ Q (.str (cutS z lo hi)) M
  | x => ∃ ds, lstOf M x = some ds ∧ ∀ p, M p = none → Q (.ref p) (up M p (.lst (cutL ds lo hi)))
def upSl (X : Cx) (o : SD) : V → Option Int → Option Int → Hp → VK → Prop := fun x lo hi H Q => ∃ d M Q0, RD X.K H d x ∧ RMx X H M ∧ o d lo hi M Q0 ∧ ∀ z M', Q0 z M' → ∀ v H', Stb H H' → RD X.K H' z v → RMx X H' M' → Q v H'
theorem cut_whole {ds : List D} {lo hi : Option Int} (h : HT.sIx ds.length 0 lo = 0 ∧ HT.sIx ds.length ds.length hi = ds.length) : cutL ds lo hi = ds := by
  unfold cutL
  rw [h.1, h.2, List.drop_zero, Nat.sub_zero, List.take_length]
section
variable {X : Cx}
theorem sl_dSl : SlR X (upSl X dSl) := by
  intro pins s σ H x v vl vu lo hi sl Q I rx hs pl pu h
  obtain ⟨d, M, Q0, r, m, t, q⟩ := h
  have lists : ∀ {ds : List D}, lstOf M d = some ds → (∀ p, M p = none → Q0 (.ref p) (up M p (.lst (cutL ds lo hi)))) → ∃ T id, typeLookup (.type T) "__getitem__" = pure (some (.builtin id)) ∧ s.TypeIs v T ∧ wpAny (model X.prog X.w) X.A (getItem v (.ref sl)) (EP X pins σ Q) X.xe s := by
    intro ds e t
    obtain ⟨a, vs, rfl, h1, h2⟩ := lstOf_sq m r e
    refine sl_list pins s σ H _ v vl vu lo hi sl Q I rx hs pl pu ⟨a, vs, rfl, h1, fun p hp => ?_⟩
    exact q _ _ (t p (m.fresh hp)) _ _ (Stb.new hp) (.ref p) (m.new hp ⟨_, upd_same, RDs.stb (Stb.new hp) (h2.cut lo hi)⟩)
  unfold dSl at t
  cases r with
  | @tup a vs ds h1 h2 =>
    have t' : Q0 (.tup (cutL ds lo hi)) M := t
    refine sl_tupA pins s σ H _ v vl vu lo hi sl Q I rx hs pl pu ⟨a, vs, rfl, h1, fun hw => ?_, fun _ p hp => ?_⟩
    · rw [cut_whole (by rw [h2.length]; exact hw)] at t'
      exact q _ M t' _ H (Stb.refl H) (.tup h1 h2) m
    · exact q _ M t' _ _ (Stb.new hp) (.tup (SqT.of upd_same) (RDs.stb (Stb.new hp) (h2.cut lo hi))) (m.laid hp)
  | str z =>
    exact sl_str pins s σ H _ v vl vu lo hi sl Q I rx hs pl pu ⟨z, rfl, t.1, q _ M t.2 _ H (Stb.refl H) (.str _) m⟩
  | ref a => obtain ⟨ds, e, t⟩ := t; exact lists e t
  | @rol a vs ds h1 h2 => obtain ⟨ds, e, t⟩ := t; exact lists e t
  | _ => obtain ⟨ds, e, t⟩ := t; cases e
end
/-! ### in -/
/-- one text in another -/
def inStr (i j : Str) : Bool := !(Builtin.Str.occurrences j i 0 j.length 1).isEmpty
theorem inStr_one (c : Nat) (z : Str) : inStr ⟨#[c]⟩ z = decide (c ∈ z.cps.toList) := (PySem.StrLaws.found_one z c)
def anyEq (ds : List D) (x : D) : Bool := ds.any fun y => eqD y x
def dIn : OD := fun x y M Q => match y with
  | .str j => ∃ i, x = .str i ∧ Q (.bl (inStr i j)) M
  | .tup ds => dat x = true ∧ dats ds = true ∧ min (deps ds) (dep x) ≤ 60 ∧ Q (.bl (anyEq ds x)) M
  | .rol ds => dat x = true ∧ dats ds = true ∧ min (deps ds) (dep x) ≤ 60 ∧ Q (.bl (anyEq ds x)) M
  | .ref a => match M a with
    | some (.lst ds) => dat x = true ∧ dats ds = true ∧ min (deps ds) (dep x) ≤ 60 ∧ Q (.bl (anyEq ds x)) M
    | some (.dct kvs) => ∃ k, KOk kvs x k ∧ Q (.bl (lookK kvs k).isSome) M
    | _ => False
  | _ => False
def dNotIn : OD := fun x y M Q => dIn x y M fun z M' => match z with
  | .bl b => Q (.bl (!b)) M'
  | _ => False
theorem any_toPs (ds : List D) (x : D) : ((toPs ds).any fun y => PyData.eqv y (toP x)) = anyEq ds x := by
  rw [toPs_map, List.any_map]; rfl
section
variable {X : Cx}
theorem in_run {op : CmpOp} {g : Bool → Bool} {o : OD} (ho : ∀ x y M Q, o x y M Q → dIn x y M fun z M' => match z with
      | .bl b => Q (.bl (g b)) M'
      | _ => False)
    (hS : ∀ (i j : Str) (t u : Tok) (Q : Value → Shared → Prop) (s : Shared), Q (.bool (g (inStr i j))) s → wpAny (model X.prog X.w) X.A (compareOp op (.str i t) (.str j u)) Q X.xe s)
    (hL : ∀ {c x : Value} {xs : List PyData} {d : PyData} {as bs : List Addr} {Q : Value → Shared → Prop} {s : Shared}, PySem.Reads s.heap c (.list xs) as → PySem.Reads s.heap x d bs → PyData.plainAll xs = true → d.plain = true →
      X.A.units + 1 + min (PyData.depthAll xs) d.depth < cLine → Q (.bool (g (xs.any fun y => PyData.eqv y d))) s → wpAny (model X.prog X.w) X.A (compareOp op x c) Q X.xe s)
    (hT : ∀ {c x : Value} {xs : List PyData} {d : PyData} {as bs : List Addr} {Q : Value → Shared → Prop} {s : Shared}, PySem.Reads s.heap c (.tuple xs) as → PySem.Reads s.heap x d bs → PyData.plainAll xs = true → d.plain = true →
      X.A.units + 1 + min (PyData.depthAll xs) d.depth < cLine → Q (.bool (g (xs.any fun y => PyData.eqv y d))) s → wpAny (model X.prog X.w) X.A (compareOp op x c) Q X.xe s)
    (hD : ∀ {pins : List (Addr × Obj)} {σ : St} {H : Hp} {s : Shared} {a : Addr} {kvs : List (D × D)} {es : List DictEntry} {kd : D} {k : NestedKey} {y : V} {u : Value} {Q : Value → Shared → Prop}, Inv X pins σ H s → DAt X H a kvs es → KOk kvs kd k → RD X.K H kd y → RelV y u →
      (∀ s', Inv X pins σ H s' → Q (.bool (g (lookK kvs k).isSome)) s') → wpAny (model X.prog X.w) X.A (compareOp op u (.ref a)) Q X.xe s)
    (hu : X.A.units + 64 < cLine) : OpR X (compareOp op) (upO X o) := by
  intro pins s σ H x y v u Q I rx ry h
  obtain ⟨d, f, M, Q0, r1, r2, m, t, q⟩ := h
  have t2 := ho _ _ _ _ t
  clear t
  have fin : ∀ (b : Bool) (s' : Shared), Inv X pins σ H s' → Q0 (.bl (g b)) M → EP X pins σ Q (.bool (g b)) s' := fun b s' I' z => ⟨.bl _, H, I', rfl, q _ M z _ H (Stb.refl H) (.bl _) m⟩
  have room : ∀ {ds : List D}, min (deps ds) (dep d) ≤ 60 → X.A.units + 1 + min (PyData.depthAll (toPs ds)) (toP d).depth < cLine := fun {ds} z => by
    rw [dep_toPs, dep_toP]; omega
  unfold dIn at t2
  cases r2 with
  | str j =>
    obtain ⟨i, rfl, t⟩ := t2
    cases r1
    obtain ⟨t1, rfl⟩ := rx
    obtain ⟨t2, rfl⟩ := ry
    exact hS i j _ _ _ _ (fin _ _ I t)
  | @tup a vs ds h1 h2 =>
    obtain ⟨e1, e2, e3, t⟩ := t2
    obtain ⟨as, q1⟩ := reads_of I r1 e1 rx
    obtain ⟨bs, q2⟩ := reads_of I (RD.tup h1 h2) (show dat (.tup ds) = true from e2) ry
    exact hT q2 q1 (plain_toPs ds) (plain_toP d) (room e3) (by rw [any_toPs]; exact fin _ _ I t)
  | @rol a vs ds h1 h2 =>
    obtain ⟨e1, e2, e3, t⟩ := t2
    obtain ⟨as, q1⟩ := reads_of I r1 e1 rx
    obtain ⟨bs, q2⟩ := reads_of I (RD.rol h1 h2) (show dat (.rol ds) = true from e2) ry
    exact hL q2 q1 (plain_toPs ds) (plain_toP d) (room e3) (by rw [any_toPs]; exact fin _ _ I t)
  | ref a =>
    cases em : M a with
    | none => simp only [em] at t2
    | some ob =>
      cases ob with
      | lst ds =>
        simp only [em] at t2
        obtain ⟨e1, e2, e3, t⟩ := t2
        obtain ⟨as, q1⟩ := reads_of I r1 e1 rx
        obtain ⟨bs, q2⟩ := asD_reads (e := .rol ds) I m (RD.ref a) (by unfold asD; rw [lstOf_ref em]; exact if_pos e2) ry
        exact hL q2 q1 (plain_toPs ds) (plain_toP d) (room e3) (by rw [any_toPs]; exact fin _ _ I t)
      | dct kvs =>
        simp only [em] at t2
        obtain ⟨k, ok, t⟩ := t2
        obtain ⟨es, da, hH⟩ := dct_at m em
        obtain rfl : u = Value.ref a := ry
        exact hD I da ok r1 rx fun s' I' => fin _ _ I' t
      | ins _ _ => simp only [em] at t2
      | xd _ _ => simp only [em] at t2
  | _ => exact t2.elim
theorem op_dIn (hu : X.A.units + 64 < cLine) : OpR X (compareOp .In) (upO X dIn) :=
  in_run (g := fun b => b) (fun x y M Q h => by
    have e : (fun z M' => match z with
      | .bl b => Q (.bl b) M'
      | _ => False) = fun (z : D) (M' : MM) => match z with
      | .bl b => Q (.bl b) M'
      | _ => False := rfl
    unfold dIn at h ⊢
    cases y with
    | ref a =>
      cases em : M a with
      | none => simp only [em] at h
      | some ob => cases ob <;> simp only [em] at h ⊢ <;> exact h
    | _ => exact h) (fun _ _ _ _ _ _ h => PyProof.Rows.in_str h) (fun a b c d e h => PySem.SeqAt.in_list_data a b c d e h) (fun a b c d e h => PySem.SeqAt.in_tuple_data a b c d e h) (fun I d ok r ru h => g_in hu I d ok r ru h) hu
theorem op_dNotIn (hu : X.A.units + 64 < cLine) : OpR X (compareOp .NotIn) (upO X dNotIn) :=
  in_run (g := fun b => !b) (fun x y M Q h => h) (fun _ _ _ _ _ _ h => PyProof.Rows.notIn_str h) (fun a b c d e h => PySem.SeqAt.notIn_list_data a b c d e h) (fun a b c d e h => PySem.SeqAt.notIn_tuple_data a b c d e h) (fun I d ok r ru h => g_notIn hu I d ok r ru h) hu
end
/-! ### o[i] = v -/
def dSetI (o i v : D) (M : MM) (Q : MM → Prop) : Prop := match o with
  | .ref a => match M a with
    | some (.lst ds) => ∃ k j, i = .int k ∧ ixN ds.length k = some j ∧ Q (up M a (.lst (ds.set j v)))
    | some (.dct kvs) => ∃ k, KOk kvs i k ∧ kvs.length < sizeLine ∧ Q (up M a (.dct (putKD kvs i k v)))
    | _ => False
  | _ => False
def upSet (X : Cx) : TSet := fun o i v H Q => ∃ od id vd M Q0, RD X.K H od o ∧ RD X.K H id i ∧ RD X.K H vd v ∧ RMx X H M ∧ dSetI od id vd M Q0 ∧ ∀ M', Q0 M' → ∀ H', Stb H H' → RMx X H' M' → Q H'
theorem set_dSetI {X : Cx} (hu : X.A.units + 64 < cLine) : PSet X (upSet X) := by
  intro pins s σ H o i v ov iv u Q I ro ri rv h
  obtain ⟨od, id, vd, M, Q0, r1, r2, r3, m, t, q⟩ := h
  unfold dSetI at t
  cases r1 with
  | ref a =>
    cases em : M a with
    | none => simp only [em] at t
    | some ob =>
      cases ob with
      | lst ds =>
        simp only [em] at t
        obtain ⟨k, j, rfl, e, t⟩ := t
        cases r2
        obtain ⟨vs, h1, h2⟩ := m a _ em
        refine set_list pins s σ H _ _ _ ov iv u Q I ro ri rv ⟨a, vs, k, j, rfl, rfl, h1, by rw [← h2.length]; exact e, ?_⟩
        have mu : Mut (H a) := by rw [h1]; trivial
        exact q _ t _ (Stb.mut mu) (m.mut mu ⟨_, upd_same, RDs.stb (Stb.mut mu) (h2.set r3 j)⟩)
      | dct kvs =>
        simp only [em] at t
        obtain ⟨k, ok, hz, t⟩ := t
        obtain ⟨es, da, hH⟩ := dct_at m em
        obtain rfl : ov = Value.ref a := ro
        refine g_set hu I da hH ok hz r2 ri r3 rv fun es' s' I' p => ⟨_, I', ?_⟩
        have mu : Mut (H a) := by rw [hH]; trivial
        refine q _ t _ (Stb.mut mu) (m.mut mu ⟨es', upd_same, da.sys, ?_, put_uni ok, put_nodup ok.key da.nd, Paired.mapP p fun _ _ z => z.stb (Stb.mut mu)⟩)
        exact Nat.le_trans (putKD_length kvs id k vd) hz
      | ins _ _ => simp only [em] at t
      | xd _ _ => simp only [em] at t
  | _ => exact t.elim
/-! ### built-in calls -/
def cAbs : CD := fun xs M Q => ∃ i, xs = [.int i] ∧ Q (.int (if i < 0 then -i else i)) M
def cMax : CD := fun xs M Q => ∃ i j, xs = [.int i, .int j] ∧ Q (.int (if j > i then j else i)) M
def cMin : CD := fun xs M Q => ∃ i j, xs = [.int i, .int j] ∧ Q (.int (if j < i then j else i)) M
def cInt : CD := fun xs M Q => match xs with
  | [.int i] => Q (.int i) M
  | [.bl k] => Q (.int (if k then 1 else 0)) M
  | [.str a] => ∃ n, PySem.intText? a = some n ∧ a.length ≤ 640 ∧ Q (.int n) M
  | _ => False
def cStr : CD := fun xs M Q => match xs with
  | [.int i] => i.natAbs.log2 < 1920 ∧ Q (.str (toString i)) M
  | [.str a] => Q (.str a) M
  | _ => False
/-- how many -/
def lenD (M : MM) : D → Option Nat
  | .tup ds => some ds.length
  | .rol ds => some ds.length
  | .str z => if z.length ≤ sizeLine then some z.length else none
  | .ref a => match M a with
    | some (.lst ds) => some ds.length
    | some (.dct kvs) => some kvs.length
    | _ => none
  | _ => none
def cLen : CD := fun xs M Q => ∃ x n, xs = [x] ∧ lenD M x = some n ∧ Q (.int n) M
/-- what is walked: the items -/
def itemsOf (M : MM) : D → Option (List D)
  | .tup ds => some ds
  | .rol ds => some ds
  | .ref a => match M a with
    | some (.lst ds) => some ds
    | _ => none
  | _ => none
def cList : CD := fun xs M Q => ∃ x ds, xs = [x] ∧ itemsOf M x = some ds ∧ ∀ p, M p = none → Q (.ref p) (up M p (.lst ds))
def cTuple : CD := fun xs M Q => ∃ x ds, xs = [x] ∧ itemsOf M x = some ds ∧ Q (.tup ds) M
def cAll : CD := fun xs M Q => ∃ (x : D) (bs : List Bool), xs = [x] ∧ lstOf M x = some (bs.map D.bl) ∧ Q (.bl (bs.all id)) M
def cAny : CD := fun xs M Q => ∃ (x : D) (bs : List Bool), xs = [x] ∧ lstOf M x = some (bs.map D.bl) ∧ Q (.bl (bs.any id)) M
def cSum : CD := fun xs M Q => ∃ (x : D) (ns : List Int), xs = [x] ∧ lstOf M x = some (ns.map D.int) ∧ Q (.int ns.sum) M
/-- the type of a value -/
def tyOf (M : MM) : D → Option String
  | .non => some "NoneType"
  | .bl _ => some "bool"
  | .int _ => some "int"
  | .str _ => some "str"
  | .tup _ => some "tuple"
  | .rol _ => some "list"
  | .ref a => match M a with
    | some (.lst _) => some "list"
    | _ => none
  | .ty _ => none
def isTy (t n : String) : Bool := decide (t = n) || (decide (t = "bool") && decide (n = "int"))
def knownTy (n : String) : Bool := decide (n = "int") || (decide (n = "bool") || (decide (n = "str") || (decide (n = "list") || decide (n = "tuple"))))
theorem kit_known {t n : String} {M : MM} {d : D} (h : tyOf M d = some t) (hn : knownTy n = true) : kitB t n = some (isTy t n) := by
  have ht : t = "NoneType" ∨ t = "bool" ∨ t = "int" ∨ t = "str" ∨ t = "tuple" ∨ t = "list" := by
    cases d with
    | ref a =>
      unfold tyOf at h
      cases em : M a with
      | none => simp only [em] at h; cases h
      | some o => cases o <;> simp only [em] at h <;> first | (injection h with h; subst h; simp) | cases h
    | ty n => cases h
    | _ => injection h with h; subst h; simp
  have hn' : n = "int" ∨ n = "bool" ∨ n = "str" ∨ n = "list" ∨ n = "tuple" := by simpa [knownTy] using hn
  rcases ht with rfl | rfl | rfl | rfl | rfl | rfl <;> rcases hn' with rfl | rfl | rfl | rfl | rfl <;> decide +kernel
def cIsi : CD := fun xs M Q => match xs with
  | [x, .ty n] => knownTy n = true ∧ ∃ t, tyOf M x = some t ∧ Q (.bl (isTy t n)) M
  | _ => False
section
variable {X : Cx}
theorem tyx_of {H : Hp} {M : MM} (m : RMx X H M) {d : D} {v : V} {t : String} (r : RD X.K H d v) (h : tyOf M d = some t) : TyX X.K H v (.type t) := by
  cases r with
  | non => cases h; exact .base .non
  | bl b => cases h; exact .base (.bl b)
  | int i => cases h; exact .base (.int i)
  | str x => cases h; exact .base (.str x)
  | ty n => cases h
  | @tup a vs ds h1 h2 =>
    cases h
    rcases h1 with (h1 | ⟨o, h1⟩) | ⟨o, its, n, h1, h2, _⟩
    · exact .base (.tup h1)
    · exact .fTuple h1
    · exact .kTuple h1 h2
  | @rol a vs ds h1 h2 =>
    cases h
    rcases h1 with ⟨o, h1⟩ | ⟨o, its, n, h1, h2, _⟩
    · exact .base (.frz h1)
    · exact .kList h1 h2
  | ref a =>
    unfold tyOf at h
    cases em : M a with
    | none => simp only [em] at h; cases h
    | some o =>
      cases o with
      | lst ds =>
        simp only [em] at h
        cases h
        obtain ⟨vs, h1, h2⟩ := m a _ em
        exact .base (.lst h1)
      | _ => simp only [em] at h; cases h
theorem call_up {f : Value} {o : CD} (h : ∀ (pins : List (Addr × Obj)) (s : Shared) (σ : St) (H : Hp) (M : MM) (ds : List D) (xs : List V) (us : List Value) (Q : VK) (Q0 : QD), Inv X pins σ H s → RMx X H M → RDs X.K H ds xs → Vals xs us → o ds M Q0 →
    (∀ z M', Q0 z M' → ∀ v H', Stb H H' → RD X.K H' z v → RMx X H' M' → Q v H') → wpAny (model X.prog X.w) X.A (call f us) (EP X pins σ Q) X.xe s) : CallR X f (upC X o) := by
  intro pins s σ H xs us Q I rv ⟨ds, M, Q0, rd, m, t, q⟩
  exact h pins s σ H M ds xs us Q Q0 I m rd rv t q
theorem rds1 {H : Hp} {x : D} {vs : List V} (r : RDs X.K H [x] vs) : ∃ v, vs = [v] ∧ RD X.K H x v := by
  cases r with
  | cons h t => cases t; exact ⟨_, rfl, h⟩
theorem rds2 {H : Hp} {x y : D} {vs : List V} (r : RDs X.K H [x, y] vs) : ∃ v w, vs = [v, w] ∧ RD X.K H x v ∧ RD X.K H y w := by
  cases r with
  | cons h t =>
    obtain ⟨w, rfl, h2⟩ := rds1 t
    exact ⟨_, _, rfl, h, h2⟩
theorem cr_cAbs : CallR X (.builtin "abs") (upC X cAbs) := call_up fun pins s σ H M ds xs us Q Q0 I m rd rv ⟨i, e, t⟩ q => by
  subst e
  obtain ⟨v, rfl, h⟩ := rds1 rd
  cases h
  exact call_abs pins s σ H _ us Q I rv ⟨i, rfl, q _ M t _ H (Stb.refl H) (.int _) m⟩
theorem cr_cMax (hc : X.calm = true) : CallR X (.builtin "max") (upC X cMax) := call_up fun pins s σ H M ds xs us Q Q0 I m rd rv ⟨i, j, e, t⟩ q => by
  subst e
  obtain ⟨v, w, rfl, h, h2⟩ := rds2 rd
  cases h
  cases h2
  exact call_max2 hc pins s σ H _ us Q I rv ⟨i, j, rfl, q _ M t _ H (Stb.refl H) (.int _) m⟩
theorem cr_cMin (hc : X.calm = true) : CallR X (.builtin "min") (upC X cMin) := call_up fun pins s σ H M ds xs us Q Q0 I m rd rv ⟨i, j, e, t⟩ q => by
  subst e
  obtain ⟨v, w, rfl, h, h2⟩ := rds2 rd
  cases h
  cases h2
  exact call_min2 hc pins s σ H _ us Q I rv ⟨i, j, rfl, q _ M t _ H (Stb.refl H) (.int _) m⟩
theorem cr_cInt : CallR X (.type "int") (upC X cInt) := call_up fun pins s σ H M ds xs us Q Q0 I m rd rv t q => by
  unfold cInt at t
  split at t
  · obtain ⟨v, rfl, h⟩ := rds1 rd
    cases h
    exact call_int1 pins s σ H _ us Q I rv (.inl ⟨_, rfl, q _ M t _ H (Stb.refl H) (.int _) m⟩)
  · obtain ⟨v, rfl, h⟩ := rds1 rd
    cases h
    exact call_int1 pins s σ H _ us Q I rv (.inr ⟨_, rfl, q _ M t _ H (Stb.refl H) (.int _) m⟩)
  · obtain ⟨v, rfl, h⟩ := rds1 rd
    cases h
    obtain ⟨n, e1, e2, t⟩ := t
    exact call_int_str pins s σ H _ us Q I rv ⟨_, n, rfl, e1, e2, q _ M t _ H (Stb.refl H) (.int _) m⟩
  · exact t.elim
theorem cr_cStr : CallR X (.type "str") (upC X cStr) := call_up fun pins s σ H M ds xs us Q Q0 I m rd rv t q => by
  unfold cStr at t
  split at t
  · obtain ⟨v, rfl, h⟩ := rds1 rd
    cases h
    exact call_str_int pins s σ H _ us Q I rv ⟨_, rfl, t.1, q _ M t.2 _ H (Stb.refl H) (.str _) m⟩
  · obtain ⟨v, rfl, h⟩ := rds1 rd
    cases h
    exact SkE.call_str_str pins s σ H _ us Q I rv ⟨_, rfl, q _ M t _ H (Stb.refl H) (.str _) m⟩
  · exact t.elim
theorem g_len {pins : List (Addr × Obj)} {σ : St} {H : Hp} {s : Shared} {a : Addr} {kvs : List (D × D)} {es : List DictEntry} {A : Around} {E : Value → Shared → Prop} {Q : Value → Shared → Prop} (I : Inv X pins σ H s) (d : DAt X H a kvs es) (h : ∀ t s', Inv X pins σ H s' → Q (.int kvs.length t) s') :
    wpAny (model X.prog X.w) A (call (.builtin "len") [.ref a]) Q E s := by
  have hz := d.sz
  rw [sizeLine_eq] at hz
  rcases d.un with hk | hk
  · obtain ⟨vs, dd, rel⟩ := dct_A I d.at_ d.en d.nd hk
    have hl := Paired.length rel
    refine PySem.call_len_dict d.sys dd (by omega) ?_
    rw [← hl]
    exact h _ _ (I.tok _)
  · obtain ⟨xs, dd, rel⟩ := dct_T I d.at_ d.en d.nd hk
    have hl := Paired.length rel
    refine PySem.call_len_dictH d.sys dd (by omega) ?_
    rw [← hl]
    exact h _ _ (I.tok _)
theorem cr_cLen : CallR X (.builtin "len") (upC X cLen) := call_up fun pins s σ H M ds xs us Q Q0 I m rd rv ⟨x, n, e, hn, t⟩ q => by
  subst e
  obtain ⟨v, rfl, h⟩ := rds1 rd
  have fin : ∀ k : Nat, LenV X.K v H k → k = n → wpAny (model X.prog X.w) X.A (call (.builtin "len") us) (EP X pins σ Q) X.xe s := fun k hk e => by
    subst e
    exact call_len pins s σ H _ us Q I rv ⟨v, k, rfl, hk, q _ M t _ H (Stb.refl H) (.int _) m⟩
  cases h with
  | @tup a vs ds h1 h2 => cases hn; exact fin vs.length (.inr ⟨_, h1, rfl⟩) h2.length.symm
  | @rol a vs ds h1 h2 => cases hn; exact fin vs.length (.inl ⟨_, h1.sq, rfl⟩) h2.length.symm
  | str z =>
    by_cases hz : z.length ≤ sizeLine
    · simp only [lenD, if_pos hz] at hn
      cases hn
      exact fin z.length ⟨hz, rfl⟩ rfl
    · simp only [lenD, if_neg hz] at hn; cases hn
  | ref a =>
    unfold lenD at hn
    cases em : M a with
    | none => simp only [em] at hn; cases hn
    | some o =>
      cases o with
      | lst ds =>
        simp only [em] at hn
        cases hn
        obtain ⟨vs, h1, h2⟩ := m a _ em
        exact fin vs.length (.inl ⟨_, SqL.of h1, rfl⟩) h2.length.symm
      | dct kvs =>
        simp only [em] at hn
        cases hn
        obtain ⟨es, da, hH⟩ := dct_at m em
        obtain ⟨u, rfl, ru⟩ := vals1 rv
        obtain rfl : u = Value.ref a := ru
        exact g_len I da fun t' s' I' => ⟨.int _, H, I', ⟨_, rfl⟩, q _ M t _ H (Stb.refl H) (.int _) m⟩
      | ins _ _ => simp only [em] at hn; cases hn
      | xd _ _ => simp only [em] at hn; cases hn
  | _ => cases hn
theorem items_sq {H : Hp} {M : MM} (m : RMx X H M) {x : D} {v : V} {ds : List D} (r : RD X.K H x v) (h : itemsOf M x = some ds) : ∃ a vs, v = .ref a ∧ (SqL X.K H a vs ∨ SqT X.K H a vs) ∧ RDs X.K H ds vs := by
  cases r with
  | @tup a vs ds h1 h2 => cases h; exact ⟨a, vs, rfl, .inr h1, h2⟩
  | @rol a vs ds h1 h2 => cases h; exact ⟨a, vs, rfl, .inl h1.sq, h2⟩
  | ref a =>
    unfold itemsOf at h
    cases em : M a with
    | none => simp only [em] at h; cases h
    | some o =>
      cases o with
      | lst es =>
        simp only [em] at h
        cases h
        obtain ⟨vs, h1, h2⟩ := m a _ em
        exact ⟨a, vs, rfl, .inl (SqL.of h1), h2⟩
      | _ => simp only [em] at h; cases h
  | _ => cases h
theorem cr_cList : CallR X (.type "list") (upC X cList) := call_up fun pins s σ H M ds xs us Q Q0 I m rd rv ⟨x, es, e, hn, t⟩ q => by
  subst e
  obtain ⟨v, rfl, h⟩ := rds1 rd
  obtain ⟨a, vs, rfl, h1, h2⟩ := items_sq m h hn
  refine call_list_of pins s σ H _ us Q I rv ⟨a, vs, rfl, h1, fun p hp => ?_⟩
  exact q _ _ (t p (m.fresh hp)) _ _ (Stb.new hp) (.ref p) (m.new hp ⟨vs, upd_same, RDs.stb (Stb.new hp) h2⟩)
theorem cr_cTuple : CallR X (.type "tuple") (upC X cTuple) := call_up fun pins s σ H M ds xs us Q Q0 I m rd rv ⟨x, es, e, hn, t⟩ q => by
  subst e
  obtain ⟨v, rfl, h⟩ := rds1 rd
  obtain ⟨a, vs, rfl, h1, h2⟩ := items_sq m h hn
  rcases h1 with h1 | h1
  · refine call_tuple_of pins s σ H _ us Q I rv ⟨a, vs, rfl, .inl ⟨h1, fun p hp => ?_⟩⟩
    exact q _ _ t _ _ (Stb.new hp) (.tup (SqT.of upd_same) (RDs.stb (Stb.new hp) h2)) (m.laid hp)
  · exact call_tuple_of pins s σ H _ us Q I rv ⟨a, vs, rfl, .inr ⟨h1, q _ _ t _ H (Stb.refl H) (.tup h1 h2) m⟩⟩
theorem cr_cAll (hc : X.calm = true) : CallR X (.builtin "all") (upC X cAll) := call_up fun pins s σ H M ds xs us Q Q0 I m rd rv ⟨x, bs, e, hn, t⟩ q => by
  subst e
  obtain ⟨v, rfl, h⟩ := rds1 rd
  obtain ⟨a, vs, rfl, h1, h2⟩ := lstOf_sq m h hn
  rw [h2.bls] at h1
  exact cr_all hc pins s σ H _ us Q I rv ⟨a, bs, rfl, h1, q _ _ t _ H (Stb.refl H) (.bl _) m⟩
theorem cr_cAny (hc : X.calm = true) : CallR X (.builtin "any") (upC X cAny) := call_up fun pins s σ H M ds xs us Q Q0 I m rd rv ⟨x, bs, e, hn, t⟩ q => by
  subst e
  obtain ⟨v, rfl, h⟩ := rds1 rd
  obtain ⟨a, vs, rfl, h1, h2⟩ := lstOf_sq m h hn
  rw [h2.bls] at h1
  exact cr_any hc pins s σ H _ us Q I rv ⟨a, bs, rfl, h1, q _ _ t _ H (Stb.refl H) (.bl _) m⟩
theorem cr_cSum (hc : X.calm = true) : CallR X (.builtin "sum") (upC X cSum) := call_up fun pins s σ H M ds xs us Q Q0 I m rd rv ⟨x, ns, e, hn, t⟩ q => by
  subst e
  obtain ⟨v, rfl, h⟩ := rds1 rd
  obtain ⟨a, vs, rfl, h1, h2⟩ := lstOf_sq m h hn
  rw [h2.intsV] at h1
  exact cr_sum hc pins s σ H _ us Q I rv ⟨a, ns, rfl, h1, q _ _ t _ H (Stb.refl H) (.int _) m⟩
theorem cr_cIsi : CallR X (.builtin "isinstance") (upC X cIsi) := call_up fun pins s σ H M ds xs us Q Q0 I m rd rv t q => by
  unfold cIsi at t
  split at t
  · obtain ⟨hk, ty, h1, t⟩ := t
    obtain ⟨v, w, rfl, r1, r2⟩ := rds2 rd
    cases r2
    exact call_isi pins s σ H _ us Q I rv ⟨v, _, _, _, _, rfl, .ty _, tyx_of m r1 h1, kit_ty (kit_known h1 hk), q _ _ t _ H (Stb.refl H) (.bl _) m⟩
  · exact t.elim
end
end Fg
/-! Fg5: tests, statements, loops, comprehensions, calls. -/
namespace Fg
open PySem PySem.Spec L2
open PyProof.Rows hiding St
/-! ### truth -/
def truD (M : MM) : D → Option Bool
  | .bl b => some b
  | .non => some false
  | .int i => some (i != 0)
  | .str x => if x.length ≤ sizeLine then some ((x.length : Int) != 0) else none
  | .tup ds => some !ds.isEmpty
  | .rol ds => some !ds.isEmpty
  | .ref a => match M a with
    | some (.lst ds) => some !ds.isEmpty
    | some (.dct kvs) => if kvs.all (fun p => isAt p.1) = true then some !kvs.isEmpty else none
    | _ => none
  | .ty _ => none
section
variable {X : Cx}
theorem isEmpty_rds {H : Hp} {ds : List D} {vs : List V} (r : RDs X.K H ds vs) : (!vs.isEmpty) = !ds.isEmpty := by cases r <;> rfl
theorem tru_truD : TruR X (fun x H Q => ∃ d M b, RD X.K H d x ∧ RMx X H M ∧ truD M d = some b ∧ Q b H) := by
  intro pins s σ H x v Q I rx h
  obtain ⟨d, M, b, r, m, e, q⟩ := h
  have fin : ∀ k, TruV X.K x H k → k = b → wpAny (model X.prog X.w) X.A (truthy v) (TP X pins σ Q) X.xe s := fun k hk ek => by
    subst ek
    exact tru_ok pins s σ H x v Q I rx ⟨k, hk, q⟩
  cases r with
  | non => cases e; exact fin false rfl rfl
  | bl k =>
    cases e
    cases rx
    exact wpAny_truthy_bool ⟨H, I, q⟩
  | int i => cases e; exact fin _ rfl rfl
  | str z =>
    by_cases hz : z.length ≤ sizeLine
    · simp only [truD, if_pos hz] at e
      cases e
      exact fin _ ⟨hz, rfl⟩ rfl
    · simp only [truD, if_neg hz] at e; cases e
  | ty n => cases e
  | @tup a vs ds h1 h2 => cases e; exact fin _ (.inr (.inl ⟨_, h1, rfl⟩)) (isEmpty_rds h2)
  | @rol a vs ds h1 h2 => cases e; exact fin _ (.inl ⟨_, h1.sq, rfl⟩) (isEmpty_rds h2)
  | ref a =>
    unfold truD at e
    cases em : M a with
    | none => simp only [em] at e; cases e
    | some o =>
      cases o with
      | lst ds =>
        simp only [em] at e
        cases e
        obtain ⟨vs, h1, h2⟩ := m a _ em
        exact fin _ (.inl ⟨_, SqL.of h1, rfl⟩) (isEmpty_rds h2)
      | dct kvs =>
        by_cases hk : kvs.all (fun p => isAt p.1) = true
        · simp only [em, if_pos hk] at e
          cases e
          obtain ⟨es, da, hH⟩ := dct_at m em
          obtain rfl : v = Value.ref a := rx
          have hz := da.sz
          rw [sizeLine_eq] at hz
          obtain ⟨vs, dd, rel⟩ := dct_A I da.at_ da.en da.nd fun p hp => List.all_eq_true.mp hk p hp
          have hl := Paired.length rel
          refine PySem.wpAny_truthy_dict da.sys dd (by omega) ?_
          have e2 : vs.isEmpty = kvs.isEmpty := by cases rel <;> rfl
          rw [e2]
          exact ⟨H, I.tok _, q⟩
        · simp only [em, if_neg hk] at e; cases e
      | ins _ _ => simp only [em] at e; cases e
      | xd _ _ => simp only [em] at e; cases e
end

/-! ### tests -/
def wTru (wa : WE) : WB := fun ρ M Q E => wa ρ M (fun d M1 => ∃ b, truD M1 d = some b ∧ Q b M1) E
def wBl (wa : WE) : WB := fun ρ M Q E => wa ρ M (fun d M1 => match d with
  | .bl b => Q b M1
  | _ => False) E
def wAndB (a b : WB) : WB := fun ρ M Q E => a ρ M (fun k M1 => if k = true then b ρ M1 Q E else Q false M1) E
def wOrB (a b : WB) : WB := fun ρ M Q E => a ρ M (fun k M1 => if k = true then Q true M1 else b ρ M1 Q E) E
def wNotB (a : WB) : WB := fun ρ M Q E => a ρ M (fun k M1 => Q (!k) M1) E
section
variable {X : Cx} {W : WX} {e : Expr} {wa wb : WE} {ba bb : WB}
/-- what an expression's reading hands on -/
theorem upE_bl {σ : St} {H : Hp} {Q : Bool → Hp → Prop} (h : upB X W (wBl wa) σ H Q) : upE X W wa σ H (fun x H1 => ∃ k, x = .bl k ∧ Q k H1) := by
  obtain ⟨ρ, M, Q0, E0, r, m, t, q, xg⟩ := h
  refine ⟨ρ, M, _, E0, r, m, t, fun d M1 t1 y H1 s1 rd m1 => ?_, xg⟩
  cases d with
  | bl b =>
    cases rd
    exact ⟨b, rfl, q b M1 t1 H1 s1 m1⟩
  | _ => exact (show False from t1).elim
theorem ub_bl (h : PT X e (tTest (upE X W wa))) : PT X e (upB X W (wBl wa)) := h.imp fun σ H Q z => upE_bl z
/-- an expression of any kind as a test -/
theorem ub_tru (ha : PE X e (upE X W wa)) (he : ∀ whole, isTrue e X.env whole = (do let v ← whole; standAt e.pos; holding [v] (truthy v))) : PT X e (upB X W (wTru wa)) := by
  refine ⟨fun pins s σ H Q I hw => ?_⟩
  obtain ⟨ρ, M, Q0, E0, r, m, t, q, xg⟩ := hw
  refine isTrue_plain (thn (ha.run pins s σ H (fun x H1 => ∃ d M1 b, RD X.K H1 d x ∧ RMx X H1 M1 ∧ truD M1 d = some b ∧ Q b H1) I ⟨ρ, M, _, E0, r, m, t, fun d M1 t1 y H1 s1 rd m1 => ?_, xg⟩) fun v s1 hh => ?_) (he _)
  · obtain ⟨b, e1, t1⟩ := t1
    exact ⟨d, M1, b, rd, m1, e1, q b M1 t1 H1 s1 m1⟩
  · obtain ⟨x, H1, I1, r1, q1⟩ := hh
    exact tru_truD pins s1 σ H1 x v Q I1 r1 q1
theorem upB_and {σ : St} {H : Hp} {Q : Bool → Hp → Prop} (h : upB X W (wAndB ba bb) σ H Q) : tAnd (upB X W ba) (upB X W bb) σ H Q := by
  obtain ⟨ρ, M, Q0, E0, r, m, t, q, xg⟩ := h
  refine ⟨ρ, M, _, E0, r, m, t, fun k M1 t1 H1 s1 m1 => ?_, xg⟩
  cases k with
  | true => exact ⟨ρ, M1, Q0, E0, r.stb s1, m1, t1, fun b M2 t2 H2 s2 m2 => q b M2 t2 H2 (s1.trans s2) m2, xg.stb s1⟩
  | false => exact q false M1 t1 H1 s1 m1
theorem upB_or {σ : St} {H : Hp} {Q : Bool → Hp → Prop} (h : upB X W (wOrB ba bb) σ H Q) : tOr (upB X W ba) (upB X W bb) σ H Q := by
  obtain ⟨ρ, M, Q0, E0, r, m, t, q, xg⟩ := h
  refine ⟨ρ, M, _, E0, r, m, t, fun k M1 t1 H1 s1 m1 => ?_, xg⟩
  cases k with
  | false => exact ⟨ρ, M1, Q0, E0, r.stb s1, m1, t1, fun b M2 t2 H2 s2 m2 => q b M2 t2 H2 (s1.trans s2) m2, xg.stb s1⟩
  | true => exact q true M1 t1 H1 s1 m1
theorem upB_not {σ : St} {H : Hp} {Q : Bool → Hp → Prop} (h : upB X W (wNotB ba) σ H Q) : tNot (upB X W ba) σ H Q := by
  obtain ⟨ρ, M, Q0, E0, r, m, t, q, xg⟩ := h
  exact ⟨ρ, M, _, E0, r, m, t, fun k M1 t1 H1 s1 m1 => q (!k) M1 t1 H1 s1 m1, xg⟩
/-- a test's answer as a value -/
def wVal (a : WB) : WE := fun ρ M Q E => a ρ M (fun k M1 => Q (.bl k) M1) E
/-- a and b, a or b as values, by truth -/
def wAndV (wa wb : WE) : WE := fun ρ M Q E => wa ρ M (fun d M1 => ∃ k, truD M1 d = some k ∧ if k = true then wb ρ M1 Q E else Q d M1) E
def wOrV (wa wb : WE) : WE := fun ρ M Q E => wa ρ M (fun d M1 => ∃ k, truD M1 d = some k ∧ if k = true then Q d M1 else wb ρ M1 Q E) E
theorem ue_and {a b : Expr} {rest : List Expr} {pos : Pos} (ha : PE X a (upE X W wa)) (hb : PE X (.BoolOp .And (b :: rest) pos) (upE X W wb)) : PE X (.BoolOp .And (a :: b :: rest) pos) (upE X W (wAndV wa wb)) := by
  refine ⟨fun pins s σ H Q I h => ?_⟩
  obtain ⟨ρ, M, Q0, E0, r, m, t, q, xg⟩ := h
  refine BoolOp_and (thn (ha.run pins s σ H (fun x H1 => ∃ d M1 k, RD X.K H1 d x ∧ RMx X H1 M1 ∧ truD M1 d = some k ∧ (if k = true then upE X W wb σ H1 Q else Q x H1)) I ⟨ρ, M, _, E0, r, m, t, fun d M1 t1 y H1 s1 rd m1 => ?_, xg⟩) fun v s1 hh => ?_)
  · obtain ⟨k, e1, t1⟩ := t1
    refine ⟨d, M1, k, rd, m1, e1, ?_⟩
    cases k with
    | true => exact ⟨ρ, M1, Q0, E0, r.stb s1, m1, t1, fun d2 M2 t2 y2 H2 s2 rd2 m2 => q d2 M2 t2 y2 H2 (s1.trans s2) rd2 m2, xg.stb s1⟩
    | false => exact q d M1 t1 y H1 s1 rd m1
  · obtain ⟨x, H1, I1, r1, d, M1, k, rd, m1, e1, q1⟩ := hh
    refine thn (tru_truD pins s1 σ H1 x v (fun k' H2 => H2 = H1 ∧ k' = k) I1 r1 ⟨d, M1, k, rd, m1, e1, rfl, rfl⟩) fun k' s2 hk => ?_
    obtain ⟨H2, I2, rfl, rfl⟩ := hk
    cases k' with
    | true => exact hb.run pins s2 σ H2 Q I2 q1
    | false => exact ⟨x, H2, I2, r1, q1⟩
theorem ue_or {a b : Expr} {rest : List Expr} {pos : Pos} (ha : PE X a (upE X W wa)) (hb : PE X (.BoolOp .Or (b :: rest) pos) (upE X W wb)) : PE X (.BoolOp .Or (a :: b :: rest) pos) (upE X W (wOrV wa wb)) := by
  refine ⟨fun pins s σ H Q I h => ?_⟩
  obtain ⟨ρ, M, Q0, E0, r, m, t, q, xg⟩ := h
  refine BoolOp_or (thn (ha.run pins s σ H (fun x H1 => ∃ d M1 k, RD X.K H1 d x ∧ RMx X H1 M1 ∧ truD M1 d = some k ∧ (if k = true then Q x H1 else upE X W wb σ H1 Q)) I ⟨ρ, M, _, E0, r, m, t, fun d M1 t1 y H1 s1 rd m1 => ?_, xg⟩) fun v s1 hh => ?_)
  · obtain ⟨k, e1, t1⟩ := t1
    refine ⟨d, M1, k, rd, m1, e1, ?_⟩
    cases k with
    | false => exact ⟨ρ, M1, Q0, E0, r.stb s1, m1, t1, fun d2 M2 t2 y2 H2 s2 rd2 m2 => q d2 M2 t2 y2 H2 (s1.trans s2) rd2 m2, xg.stb s1⟩
    | true => exact q d M1 t1 y H1 s1 rd m1
  · obtain ⟨x, H1, I1, r1, d, M1, k, rd, m1, e1, q1⟩ := hh
    refine thn (tru_truD pins s1 σ H1 x v (fun k' H2 => H2 = H1 ∧ k' = k) I1 r1 ⟨d, M1, k, rd, m1, e1, rfl, rfl⟩) fun k' s2 hk => ?_
    obtain ⟨H2, I2, rfl, rfl⟩ := hk
    cases k' with
    | false => exact hb.run pins s2 σ H2 Q I2 q1
    | true => exact ⟨x, H2, I2, r1, q1⟩
/-- not a, as a value -/
def wNotV (wa : WE) : WE := fun ρ M Q E => wa ρ M (fun d M1 => ∃ k, truD M1 d = some k ∧ Q (.bl (!k)) M1) E
theorem ue_not {a : Expr} {pos : Pos} (ha : PE X a (upE X W wa)) : PE X (.UnaryOp .Not a pos) (upE X W (wNotV wa)) := by
  refine ⟨fun pins s σ H Q I h => ?_⟩
  obtain ⟨ρ, M, Q0, E0, r, m, t, q, xg⟩ := h
  refine UnaryOp_ (thn (ha.run pins s σ H (fun x H1 => ∃ d M1 k, RD X.K H1 d x ∧ RMx X H1 M1 ∧ truD M1 d = some k ∧ Q (.bl (!k)) H1) I ⟨ρ, M, _, E0, r, m, t, fun d M1 t1 y H1 s1 rd m1 => ?_, xg⟩) fun v s1 hh => ?_)
  · obtain ⟨k, e1, t1⟩ := t1
    exact ⟨d, M1, k, rd, m1, e1, q _ M1 t1 _ H1 s1 (.bl _) m1⟩
  · obtain ⟨x, H1, I1, r1, d, M1, k, rd, m1, e1, q1⟩ := hh
    refine not_of (thn (tru_truD pins s1 σ H1 x v (fun k' H2 => H2 = H1 ∧ k' = k) I1 r1 ⟨d, M1, k, rd, m1, e1, rfl, rfl⟩) fun k' s2 hk => ?_)
    obtain ⟨H2, I2, rfl, rfl⟩ := hk
    exact ⟨.bl (!k'), H2, I2, rfl, q1⟩
def wIte (c : WB) (wa wb : WE) : WE := fun ρ M Q E => c ρ M (fun k M1 => if k = true then wa ρ M1 Q E else wb ρ M1 Q E) E
theorem ue_ite {c a b : Expr} {pos : Pos} {wc : WB} (hc : PT X c (upB X W wc)) (ha : PE X a (upE X W wa)) (hb : PE X b (upE X W wb)) : PE X (.IfExp c a b pos) (upE X W (wIte wc wa wb)) := (pe_ifExp hc ha hb).imp fun σ H Q h => by
  obtain ⟨ρ, M, Q0, E0, r, m, t, q, xg⟩ := h
  refine ⟨ρ, M, _, E0, r, m, t, fun k M1 t1 H1 s1 m1 => ?_, xg⟩
  cases k with
  | true => exact ⟨ρ, M1, Q0, E0, r.stb s1, m1, t1, fun d2 M2 t2 y2 H2 s2 rd2 m2 => q d2 M2 t2 y2 H2 (s1.trans s2) rd2 m2, xg.stb s1⟩
  | false => exact ⟨ρ, M1, Q0, E0, r.stb s1, m1, t1, fun d2 M2 t2 y2 H2 s2 rd2 m2 => q d2 M2 t2 y2 H2 (s1.trans s2) rd2 m2, xg.stb s1⟩
/-- a chain of two comparisons -/
def wChain (o o' : OD) (wa wb wc : WE) : WE := fun ρ M Q E => wa ρ M (fun x M1 => wb ρ M1 (fun y M2 => o x y M2 fun z M3 => match z with
  | .bl k => if k = true then wc ρ M3 (fun z2 M4 => o' y z2 M4 Q) E else Q (.bl false) M3
  | _ => False) E) E
theorem ue_chain {o o' : OD} {op op' : CmpOp} {a b c : Expr} {pos : Pos} {wc : WE} (ho : OpR X (compareOp op) (upO X o)) (ho' : OpR X (compareOp op') (upO X o'))
    (h : PE X e (tChain (upO X o) (upO X o') (upE X W wa) (upE X W wb) (upE X W wc))) : PE X e (upE X W (wChain o o' wa wb wc)) := h.imp fun σ H Q h => by
  obtain ⟨ρ, M, Q0, E0, r, m, t, q, xg⟩ := h
  refine ⟨ρ, M, _, E0, r, m, t, fun d M1 t1 y H1 s1 rd m1 => ⟨ρ, M1, _, E0, r.stb s1, m1, t1, fun d2 M2 t2 y2 H2 s2 rd2 m2 => ?_, xg.stb s1⟩, xg⟩
  refine ⟨d, d2, M2, _, rd.stb s2, rd2, m2, t2, fun z M3 t3 v3 H3 s3 rz m3 => ?_⟩
  cases z with
  | bl k =>
    cases rz
    refine ⟨k, rfl, ?_⟩
    cases k with
    | true => exact ⟨ρ, M3, _, E0, ((r.stb s1).stb s2).stb s3, m3, t3, fun d4 M4 t4 y4 H4 s4 rd4 m4 => ⟨d2, d4, M4, Q0, (rd2.stb s3).stb s4, rd4, m4, t4, fun z M5 qz v5 H5 s5 rz5 m5 => q z M5 qz v5 H5 ((((s1.trans s2).trans s3).trans s4).trans s5) rz5 m5⟩, ((xg.stb s1).stb s2).stb s3⟩
    | false => exact q _ M3 t3 _ H3 ((s1.trans s2).trans s3) (.bl _) m3
  | _ => exact (show False from t3).elim
end
end Fg
/-! Fg6: statements, loops, comprehensions, calls. -/
namespace Fg
open PySem PySem.Spec L2
open PyProof.Rows hiding St
/-! ### statements -/
structure EndsD where
  nx : En → MM → Prop
  rt : QD
  bk : En → MM → Prop := fun _ _ => False
  ct : En → MM → Prop := fun _ _ => False
abbrev QS := Xn → En → MM → Prop
abbrev WS := En → MM → EndsD → QS → Prop
def Go (X : Cx) (H : Hp) (P : En → MM → Prop) (R : St → Hp → Prop) : Prop := ∀ ρ' M', P ρ' M' → ∀ σ' H', Stb H H' → RE X.K H' ρ' σ' → RMx X H' M' → R σ' H'
def XGoS (X : Cx) (W : WX) (H : Hp) (E0 : QS) : Prop := ∀ x ρ' M', E0 x ρ' M' → ∀ cls d σ' H', Stb H H' → RE X.K H' ρ' σ' → RX X.K H' M' x cls d → RMx X H' M' → W cls d σ' H'
structure GoE (X : Cx) (H : Hp) (N : EndsD) (B : Ends) : Prop where
  nx : Go X H N.nx B.nx
  rt : ∀ d M', N.rt d M' → ∀ y H', Stb H H' → RD X.K H' d y → RMx X H' M' → B.rt y H'
  bk : Go X H N.bk B.bk
  ct : Go X H N.ct B.ct
def upS (X : Cx) (W : WX) (t : WS) : TS := fun B σ H => ∃ ρ M N E0, RE X.K H ρ σ ∧ RMx X H M ∧ t ρ M N E0 ∧ GoE X H N B ∧ XGoS X W H E0
theorem Go.stb {X : Cx} {H H1 : Hp} {P : En → MM → Prop} {R : St → Hp → Prop} (h : Go X H P R) (s : Stb H H1) : Go X H1 P R := fun ρ M p σ' H' s' r m => h ρ M p σ' H' (s.trans s') r m
theorem XGoS.stb {X : Cx} {W : WX} {H H1 : Hp} {E0 : QS} (h : XGoS X W H E0) (s : Stb H H1) : XGoS X W H1 E0 := fun x ρ M p cls d σ' H' s' r x' m => h x ρ M p cls d σ' H' (s.trans s') r x' m
theorem GoE.stb {X : Cx} {H H1 : Hp} {N : EndsD} {B : Ends} (h : GoE X H N B) (s : Stb H H1) : GoE X H1 N B := ⟨h.nx.stb s, fun d M q y H' s' r m => h.rt d M q y H' (s.trans s') r m, h.bk.stb s, h.ct.stb s⟩
/-- an expression's exceptions within a statement -/
theorem XGoS.at_ {X : Cx} {W : WX} {H : Hp} {E0 : QS} {ρ : En} {σ : St} (h : XGoS X W H E0) (r : RE X.K H ρ σ) : XGo X W σ H (fun x M => E0 x ρ M) := fun x M p cls d H' s' x' m => h x ρ M p cls d σ H' s' (r.stb s') x' m
def wNext : WS := fun ρ M N _ => N.nx ρ M
def wSeq (t u : WS) : WS := fun ρ M N E => t ρ M { N with nx := fun ρ1 M1 => u ρ1 M1 N E } E
def wIfS (c : WB) (t u : WS) : WS := fun ρ M N E => c ρ M (fun k M1 => if k = true then t ρ M1 N E else u ρ M1 N E) (fun x M1 => E x ρ M1)
def wRet (w : WE) : WS := fun ρ M N E => w ρ M N.rt (fun x M1 => E x ρ M1)
def wRetN : WS := fun _ M N _ => N.rt .non M
def wBrk : WS := fun ρ M N _ => N.bk ρ M
def wCnt : WS := fun ρ M N _ => N.ct ρ M
def wDrop (w : WE) : WS := fun ρ M N E => w ρ M (fun _ M1 => N.nx ρ M1) (fun x M1 => E x ρ M1)
/-- a store -/
abbrev WG := D → En → MM → (En → MM → Prop) → QX → Prop
def wAsg (w : WE) (g : WG) : WS := fun ρ M N E => w ρ M (fun d M1 => g d ρ M1 N.nx (fun x M2 => E x ρ M2)) (fun x M1 => E x ρ M1)
/-- R: what a store leaves of the slots -/
abbrev SR := St → St → Prop
abbrev anyR : SR := fun _ _ => True
def upGR (X : Cx) (W : WX) (R : SR) (g : WG) : TG := fun v σ H Q => ∃ d ρ M Q0 E0, RD X.K H d v ∧ RE X.K H ρ σ ∧ RMx X H M ∧ g d ρ M Q0 E0 ∧ Go X H Q0 (fun σ' H' => R σ σ' → Q σ' H') ∧ XGo X W σ H E0
abbrev upG (X : Cx) (W : WX) (g : WG) : TG := upGR X W anyR g
section
variable {X : Cx} {W : WX} {st : Stmt} {rest : List Stmt} {t u : WS} {e : Expr} {w : WE} {pos : Pos}
theorem us_nil : PSs X [] (upS X W wNext) := pss_nil.imp fun B σ H ⟨ρ, M, N, E0, r, m, t, g, xg⟩ => g.nx ρ M t σ H (Stb.refl H) r m
theorem us_cons (h1 : PS X st (upS X W t)) (h2 : PSs X rest (upS X W u)) : PSs X (st :: rest) (upS X W (wSeq t u)) := (pss_cons h1 h2).imp fun B σ H ⟨ρ, M, N, E0, r, m, z, g, xg⟩ =>
  ⟨ρ, M, _, E0, r, m, z, ⟨fun ρ1 M1 z1 σ1 H1 s1 r1 m1 => ⟨ρ1, M1, N, E0, r1, m1, z1, g.stb s1, xg.stb s1⟩, g.rt, g.bk, g.ct⟩, xg⟩
theorem us_if {c : Expr} {a b : List Stmt} {wc : WB} (hc : PT X c (upB X W wc)) (ha : PSs X a (upS X W t)) (hb : PSs X b (upS X W u)) : PS X (.If c a b pos) (upS X W (wIfS wc t u)) := (ps_if hc ha hb).imp fun B σ H ⟨ρ, M, N, E0, r, m, z, g, xg⟩ => by
  refine ⟨ρ, M, _, _, r, m, z, fun k M1 z1 H1 s1 m1 => ?_, xg.at_ r⟩
  cases k with
  | true => exact ⟨ρ, M1, N, E0, r.stb s1, m1, z1, g.stb s1, xg.stb s1⟩
  | false => exact ⟨ρ, M1, N, E0, r.stb s1, m1, z1, g.stb s1, xg.stb s1⟩
theorem us_ret (he : PE X e (upE X W w)) : PS X (.Return (some e) pos) (upS X W (wRet w)) := (ps_ret he).imp fun B σ H ⟨ρ, M, N, E0, r, m, z, g, xg⟩ => ⟨ρ, M, _, _, r, m, z, g.rt, xg.at_ r⟩
theorem us_retN : PS X (.Return none pos) (upS X W wRetN) := ps_retN.imp fun B σ H ⟨ρ, M, N, E0, r, m, z, g, xg⟩ => g.rt _ M z _ H (Stb.refl H) .non m
theorem us_pass : PS X (.Pass pos) (upS X W wNext) := ps_pass.imp fun B σ H ⟨ρ, M, N, E0, r, m, z, g, xg⟩ => g.nx ρ M z σ H (Stb.refl H) r m
theorem us_brk : PS X (.Break pos) (upS X W wBrk) := ps_break.imp fun B σ H ⟨ρ, M, N, E0, r, m, z, g, xg⟩ => g.bk ρ M z σ H (Stb.refl H) r m
theorem us_cnt : PS X (.Continue pos) (upS X W wCnt) := ps_continue.imp fun B σ H ⟨ρ, M, N, E0, r, m, z, g, xg⟩ => g.ct ρ M z σ H (Stb.refl H) r m
theorem us_expr (he : PE X e (upE X W w)) (hs : swapsWith e none pos.line X.env = pure false) : PS X (.Expr e pos) (upS X W (wDrop w)) := (ps_expr he hs).imp fun B σ H ⟨ρ, M, N, E0, r, m, z, g, xg⟩ =>
  ⟨ρ, M, _, _, r, m, z, fun d M1 z1 y H1 s1 rd m1 => g.nx ρ M1 z1 σ H1 s1 (r.stb s1) m1, xg.at_ r⟩
/-! ### stores -/
def gNm (i : Nat) : WG := fun d ρ M Q _ => Q (ρ.set i (some d)) M
theorem ug_nm {R : SR} {i : Nat} {tg : Expr} (h : PG X tg (gName i)) (hR : ∀ σ v, R σ (σ.set i v)) : PG X tg (upGR X W R (gNm i)) := ⟨fun pins s σ H v u Q I rv ⟨d, ρ, M, Q0, E0, rd, r, m, z, g, xg⟩ =>
  h.run pins s σ H v u Q I rv (g _ M z _ H (Stb.refl H) (r.set rd) m (hR σ _))⟩
theorem us_asg {tg : Expr} {g : WG} (he : PE X e (upE X W w)) (hg : PG X tg (upG X W g)) (hs : swapsWithSole [tg] e pos.line X.env = pure false) (hw : swappedStores [tg] e X.env = pure none)
    (h1 : (assignEach [tg] X.env).map (·.2) = [assign tg X.env]) : PS X (.Assign [tg] e pos) (upS X W (wAsg w g)) := (ps_asg he hg hs hw h1).imp fun B σ H ⟨ρ, M, N, E0, r, m, z, g, xg⟩ =>
  ⟨ρ, M, _, _, r, m, z, fun d M1 z1 y H1 s1 rd m1 => ⟨d, ρ, M1, _, _, rd, r.stb s1, m1, z1, fun ρ2 M2 z2 σ2 H2 s2 r2 m2 _ => (g.nx.stb s1) ρ2 M2 z2 σ2 H2 s2 r2 m2, (xg.stb s1).at_ (r.stb s1)⟩, xg.at_ r⟩
theorem us_set {i : Nat} {x : Str} {pos' : Pos} (hN : X.N.Nodup) (hi : X.N[i]? = some x) (hx : Loc X.env.scope x) (he : PE X e (upE X W w)) (hs : swapsWith e (some (.Name x pos')) pos.line X.env = pure false) (hf : X.fn x = true ∨ X.env.scope.names.lookup x = some .local) :
    PS X (.Assign [.Name x pos'] e pos) (upS X W (wAsg w (gNm i))) := (ps_set hN hi hx he hs hf).imp fun B σ H ⟨ρ, M, N, E0, r, m, z, g, xg⟩ =>
  ⟨ρ, M, _, _, r, m, z, fun d M1 z1 y H1 s1 rd m1 => g.nx _ M1 z1 _ H1 s1 ((r.stb s1).set rd) m1, xg.at_ r⟩
/-- a, b = x, y -/
def wPar (i j : Nat) (wa wb : WE) : WS := fun ρ M N E => wa ρ M (fun x M1 => wb ρ M1 (fun y M2 => N.nx ((ρ.set i (some x)).set j (some y)) M2) (fun x M2 => E x ρ M2)) (fun x M1 => E x ρ M1)
theorem us_par {i j : Nat} {a b : Expr} {wa wb : WE} (h : PS X st (tPar i j (tCons (upE X W wa) (tCons (upE X W wb) tNil)))) : PS X st (upS X W (wPar i j wa wb)) := h.imp fun B σ H ⟨ρ, M, N, E0, r, m, z, g, xg⟩ =>
  ⟨ρ, M, _, _, r, m, z, fun d M1 z1 y H1 s1 rd m1 => ⟨ρ, M1, _, _, r.stb s1, m1, z1, fun d2 M2 z2 y2 H2 s2 rd2 m2 =>
    ⟨y, y2, rfl, g.nx _ M2 z2 _ H2 (s1.trans s2) ((((r.stb s1).stb s2).set (rd.stb s2)).set rd2) m2⟩, (xg.stb s1).at_ (r.stb s1)⟩, xg.at_ r⟩
/-- several names, one after another -/
def gMany : List WG → List D → En → MM → (En → MM → Prop) → QX → Prop
  | [], [], ρ, M, Q, _ => Q ρ M
  | g :: gs, d :: ds, ρ, M, Q, E => g d ρ M (fun ρ1 M1 => gMany gs ds ρ1 M1 Q E) E
  | _, _, _, _, _, _ => False
def upGs (X : Cx) (W : WX) (R : SR) (gs : List WG) : TGs := fun vs σ H Q => ∃ ds ρ M Q0 E0, RDs X.K H ds vs ∧ RE X.K H ρ σ ∧ RMx X H M ∧ gMany gs ds ρ M Q0 E0 ∧ Go X H Q0 (fun σ' H' => R σ σ' → Q σ' H') ∧ ∀ σ', XGo X W σ' H E0
theorem ugs_nil {R : SR} (hr : ∀ σ, R σ σ) : PGs X [] (upGs X W R []) := ⟨fun pins s σ H vs us Q I r ⟨ds, ρ, M, Q0, E0, rd, re, m, z, g, xg⟩ => by
  cases ds with
  | nil =>
    cases rd
    exact pgs_nil.run pins s σ H [] us Q I r ⟨rfl, g ρ M z σ H (Stb.refl H) re m (hr σ)⟩
  | cons d ds => exact (show False from z).elim⟩
theorem ugs_cons {R : SR} {es : List Expr} {g : WG} {gs : List WG} (ht : ∀ a b c, R a b → R b c → R a c) (h1 : PG X e (upGR X W R g)) (h2 : PGs X es (upGs X W R gs)) (hs : (assignEach (e :: es) X.env).map (·.2) = assign e X.env :: (assignEach es X.env).map (·.2)) : PGs X (e :: es) (upGs X W R (g :: gs)) :=
  ⟨fun pins s σ H vs us Q I r ⟨ds, ρ, M, Q0, E0, rd, re, m, z, gg, xg⟩ => by
    cases rd with
    | nil => exact (show False from z).elim
    | cons q1 q2 =>
      refine (pgs_cons h1 h2 hs).run pins s σ H _ us Q I r ⟨_, _, rfl, ⟨_, ρ, M, _, E0, q1, re, m, z, fun ρ1 M1 z1 σ1 H1 s1 r1 m1 hR => ?_, xg σ⟩⟩
      exact ⟨_, ρ1, M1, Q0, E0, q2.stb s1, r1, m1, z1, fun ρ2 M2 z2 σ2 H2 s2 r2 m2 hR2 => gg ρ2 M2 z2 σ2 H2 (s1.trans s2) r2 m2 (ht _ _ _ hR hR2), fun σ' => (xg σ').stb s1⟩⟩
/-- (a, b) = a tuple, a list; nothing that is stored into raises -/
def gTp (gs : List WG) : WG := fun d ρ M Q _ => ∃ ds, itemsOf M d = some ds ∧ ds.length = gs.length ∧ gMany gs ds ρ M Q (fun _ _ => False)
theorem ug_tp {R : SR} {es : List Expr} {k : Nat} {gs : List WG} (hc : X.calm = true) (h : PGs X es (upGs X W R gs)) (hn : (assignEach es X.env).length = gs.length) (hst : (assignEach es X.env).findIdx? (·.1) = none) :
    PG X (.Tuple es k pos) (upGR X W R (gTp gs)) := ⟨fun pins s σ H v u Q I rv ⟨d, ρ, M, Q0, E0, rd, re, m, ⟨ds, h1, h2, z⟩, g, xg⟩ => by
  obtain ⟨a, vs, rfl, hs, q⟩ := items_sq m rd h1
  have hl := q.length
  rcases hs with hs | hs
  · exact (pg_lst hc h hn hst).run pins s σ H _ u Q I rv ⟨a, vs, rfl, hs, by rw [← hl, h2], ds, ρ, M, Q0, _, q, re, m, z, g, fun _ _ _ k => k.elim⟩
  · exact (pg_tup hc h hn hst).run pins s σ H _ u Q I rv ⟨a, vs, rfl, hs, by rw [← hl, h2], ds, ρ, M, Q0, _, q, re, m, z, g, fun _ _ _ k => k.elim⟩⟩
/-- o[i] = -/
def gSubD (wo wi : WE) : WG := fun d ρ M Q E => wo ρ M (fun o M1 => wi ρ M1 (fun i M2 => dSetI o i d M2 fun M3 => Q ρ M3) E) E
theorem ug_sub {tg : Expr} {wo wi : WE} (h : PG X tg (gSub (upE X W wo) (upE X W wi) (upSet X))) : PG X tg (upG X W (gSubD wo wi)) := ⟨fun pins s σ H v u Q I rv ⟨d, ρ, M, Q0, E0, rd, re, m, z, g, xg⟩ =>
  h.run pins s σ H v u Q I rv ⟨ρ, M, _, E0, re, m, z, fun d1 M1 z1 y1 H1 s1 rd1 m1 => ⟨ρ, M1, _, E0, re.stb s1, m1, z1, fun d2 M2 z2 y2 H2 s2 rd2 m2 =>
    ⟨d1, d2, d, M2, _, rd1.stb s2, rd2, (rd.stb s1).stb s2, m2, z2, fun M3 z3 H3 s3 m3 => g ρ M3 z3 σ H3 ((s1.trans s2).trans s3) (((re.stb s1).stb s2).stb s3) m3 trivial⟩, xg.stb s1⟩, xg⟩⟩
end
/-! ### attributes -/
def fget (fs : List (Str × D)) (f : Str) : Option D := fs.lookup f
def fput (f : Str) (d : D) : List (Str × D) → List (Str × D)
  | [] => [(f, d)]
  | (g, e) :: r => if g = f then (g, d) :: r else (g, e) :: fput f d r
theorem rfl_get {K : PySem.W.Frag} {H : Hp} {f : Str} {d : D} : ∀ {fs : List (Str × D)} {vs : List (Str × V)}, RFl K H fs vs → fget fs f = some d → ∃ y, vs.lookup f = some y ∧ RD K H d y
  | _, _, .nil, e => by cases e
  | _, _, .cons (a := p) (b := q) h t, e => by
    obtain ⟨g, d'⟩ := p
    obtain ⟨g', y⟩ := q
    obtain ⟨e1, e2⟩ := h
    dsimp only at e1 e2
    subst e1
    unfold fget at e
    rw [List.lookup_cons] at e ⊢
    cases c : (f == g) with
    | true =>
      rw [c] at e
      cases e
      exact ⟨y, rfl, e2⟩
    | false =>
      rw [c] at e
      exact rfl_get t e
theorem rfl_none {K : PySem.W.Frag} {H : Hp} {f : Str} : ∀ {fs : List (Str × D)} {vs : List (Str × V)}, RFl K H fs vs → fget fs f = none → vs.lookup f = none
  | _, _, .nil, e => rfl
  | _, _, .cons (a := p) (b := q) h t, e => by
    obtain ⟨g, d'⟩ := p
    obtain ⟨g', y⟩ := q
    obtain ⟨e1, e2⟩ := h
    dsimp only at e1 e2
    subst e1
    unfold fget at e
    rw [List.lookup_cons] at e ⊢
    cases c : (f == g) with
    | true => rw [c] at e; cases e
    | false =>
      rw [c] at e
      exact rfl_none t e
theorem rfl_put {K : PySem.W.Frag} {H : Hp} {f : Str} {d : D} {y : V} (r : RD K H d y) : ∀ {fs : List (Str × D)} {vs : List (Str × V)}, RFl K H fs vs → RFl K H (fput f d fs) (putF f y vs)
  | _, _, .nil => .cons ⟨rfl, r⟩ .nil
  | _, _, .cons (a := p) (b := q) h t => by
    obtain ⟨g, d'⟩ := p
    obtain ⟨g', y'⟩ := q
    obtain ⟨e1, e2⟩ := h
    dsimp only at e1 e2
    subst e1
    unfold fput putF
    by_cases c : g = f
    · rw [if_pos c, if_pos c]; exact .cons ⟨rfl, r⟩ t
    · rw [if_neg c, if_neg c]; exact .cons ⟨rfl, e2⟩ (rfl_put r t)
theorem RFl.length {K : PySem.W.Frag} {H : Hp} {fs : List (Str × D)} {vs : List (Str × V)} (h : RFl K H fs vs) : fs.length = vs.length := Paired.length h
/-- what a class of the text must have for an attribute -/
structure AtOk (K : PySem.W.Frag) (c f : Str) : Prop where
  cls : Cls K (He.ga K c)
  no : NoAttr K (He.ga K c) f
def wAtt (c f : Str) (wo : WE) : WE := fun ρ M Q E => wo ρ M (fun o M1 => match o with
  | .ref a => ∃ fs d, M1 a = some (.ins c fs) ∧ fget fs f = some d ∧ Q d M1
  | _ => False) E
def gAtt (c f : Str) (wo : WE) : WG := fun d ρ M Q E => wo ρ M (fun o M1 => match o with
  | .ref a => ∃ fs, M1 a = some (.ins c fs) ∧ fs.length < 1000 ∧ Q ρ (up M1 a (.ins c (fput f d fs)))
  | _ => False) E
section
variable {X : Cx} {W : WX} {e : Expr} {pos : Pos}
theorem ue_att {c f : Str} {wo : WE} (k : AtOk X.K c f) (h : PE X e (tFld X.K (upE X W wo) f)) : PE X e (upE X W (wAtt c f wo)) := h.imp fun σ H Q ⟨ρ, M, Q0, E0, r, m, t, q, xg⟩ => by
  refine ⟨ρ, M, _, E0, r, m, t, fun d M1 t1 y H1 s1 rd m1 => ?_, xg⟩
  cases d with
  | ref a =>
    obtain ⟨fs, d', h1, h2, t1⟩ := t1
    obtain ⟨dx, vs, h3, h4⟩ := m1 a _ h1
    obtain ⟨z, h5, h6⟩ := rfl_get h4 h2
    cases rd
    exact ⟨a, _, dx, vs, z, rfl, h3, k.cls, k.no, h5, q d' M1 t1 z H1 s1 h6 m1⟩
  | _ => exact (show False from t1).elim
theorem us_att {c f : Str} {wo w : WE} {st : Stmt} (k : AtOk X.K c f) (h : PS X st (sFld X.K (upE X W wo) (upE X W w) f)) : PS X st (upS X W (wAsg w (gAtt c f wo))) := h.imp fun B σ H ⟨ρ, M, N, E0, r, m, z, g, xg⟩ => by
  refine ⟨ρ, M, _, _, r, m, z, fun d M1 z1 y H1 s1 rd m1 => ⟨ρ, M1, _, _, r.stb s1, m1, z1, fun o M2 z2 y2 H2 s2 ro m2 => ?_, (xg.stb s1).at_ (r.stb s1)⟩, xg.at_ r⟩
  cases o with
  | ref a =>
    obtain ⟨fs, h1, h2, z2⟩ := z2
    obtain ⟨dx, vs, h3, h4⟩ := m2 a _ h1
    cases ro
    refine ⟨a, _, dx, vs, rfl, h3, k.cls, k.no, by rw [← h4.length]; exact h2, ?_⟩
    have mu : Mut (H2 a) := by rw [h3]; trivial
    have s3 : Stb H2 (upd H2 a (.ins (He.ga X.K c) dx (putF f y vs))) := Stb.mut mu
    exact g.nx _ _ z2 _ _ ((s1.trans s2).trans s3) (((r.stb s1).stb s2).stb s3) (m2.mut mu ⟨dx, _, upd_same, RFl.stb s3 (rfl_put (rd.stb s2) h4)⟩)
  | _ => exact (show False from z2).elim
end
end Fg
/-! Fg7: loops, comprehensions, calls. -/
namespace Fg
open PySem PySem.Spec L2
open PyProof.Rows hiding St
/-! ### walking -/
/-- an iterator that yields just these, while stay is so -/
def Wk (X : Cx) (J : It) (H0 : Hp) (ds : List D) (stay : MM → Prop) : Prop := ∀ (i : Nat) (H : Hp) (M : MM), Stb H0 H → RMx X H M → stay M →
  (i = ds.length → J.stop i H) ∧ ∀ d, ds[i]? = some d → J.go i H ∧ ∀ x H', J.yld i H x H' → Stb H H' ∧ RMx X H' M ∧ RD X.K H' d x
abbrev WI := En → MM → (List D → (MM → Prop) → MM → Prop) → QX → Prop
def upI (X : Cx) (W : WX) (t : WI) : TI := fun σ H R => ∃ ρ M K0 E0, RE X.K H ρ σ ∧ RMx X H M ∧ t ρ M K0 E0 ∧
  (∀ ds stay M', K0 ds stay M' → ∀ J H', Stb H H' → RMx X H' M' → Wk X J H' ds stay → R J H') ∧ XGo X W σ H E0
theorem _root_.L2.PI.imp {X : Cx} {tg e : Expr} {t t' : TI} (h : PI X tg e t) (q : ∀ σ H R, t' σ H R → t σ H R) : PI X tg e t' := ⟨fun pins s σ H R I z => h.run pins s σ H R I (q σ H R z)⟩
section
variable {X : Cx} {W : WX} {tg e : Expr} {w : WE}
theorem wk_list {H : Hp} {a : Addr} {vs : List V} {ds : List D} {M : MM} {x : D} (stayL : ∀ M' H', RMx X H' M' → Stb H H' → itemsOf M' x = some ds → ∃ vs', SqL X.K H' a vs' ∧ RDs X.K H' ds vs') : Wk X (Itl X.K a) H ds (fun M' => itemsOf M' x = some ds) := by
  intro i H' M' s m st
  obtain ⟨vs', h1, h2⟩ := stayL M' H' m s st
  refine ⟨fun e => ⟨vs', h1, by rw [← h2.length]; omega⟩, fun d hd => ?_⟩
  obtain ⟨y, h3, h4⟩ := h2.get hd
  refine ⟨⟨vs', y, h1, h3⟩, fun x' H2 hy => ?_⟩
  obtain ⟨e, hy⟩ := hy
  subst e
  have h5 := hy vs' h1
  rw [h3] at h5
  cases h5
  exact ⟨Stb.refl _, m, h4⟩
theorem wk_tup {H : Hp} {a : Addr} {vs : List V} {ds : List D} {stay : MM → Prop} (h1 : SqT X.K H a vs) (h2 : RDs X.K H ds vs) : Wk X (Itt X.K a) H ds stay := by
  intro i H' M' s m st
  have h1 := SqT.stb s h1
  have h2 := RDs.stb s h2
  refine ⟨fun e => ⟨vs, h1, by rw [← h2.length]; omega⟩, fun d hd => ?_⟩
  obtain ⟨y, h3, h4⟩ := h2.get hd
  refine ⟨⟨vs, y, h1, h3⟩, fun x' H2 hy => ?_⟩
  obtain ⟨e, hy⟩ := hy
  subst e
  have h5 := hy vs h1
  rw [h3] at h5
  cases h5
  exact ⟨Stb.refl _, m, h4⟩
/-- a list or a tuple -/
def wWalk (w : WE) : WI := fun ρ M K E => w ρ M (fun x M1 => ∃ ds, itemsOf M1 x = some ds ∧ K ds (fun M' => itemsOf M' x = some ds) M1) E
theorem ui_walk (he : PE X e (upE X W w)) : PI X tg e (upI X W (wWalk w)) := by
  refine ⟨fun pins s σ H R I h => ?_⟩
  obtain ⟨ρ, M, K0, E0, r, m, t, q, xg⟩ := h
  refine thn (he.run pins s σ H (fun x H1 => ∃ d M1 ds, RD X.K H1 d x ∧ RMx X H1 M1 ∧ itemsOf M1 d = some ds ∧ Stb H H1 ∧ K0 ds (fun M' => itemsOf M' d = some ds) M1) I ⟨ρ, M, _, E0, r, m, t, fun d M1 t1 y H1 s1 rd m1 => ?_, xg⟩) fun v s1 hh => ?_
  · obtain ⟨ds, h1, h2⟩ := t1
    exact ⟨d, M1, ds, rd, m1, h1, s1, h2⟩
  · obtain ⟨x, H1, I1, r1, d, M1, ds, rd, m1, h1, sH, h2⟩ := hh
    obtain ⟨a, vs, rfl, hs, hr⟩ := items_sq m1 rd h1
    cases r1
    have hn : H1 s1.heap.objs.size = none := I1.hok.fresh (Nat.le_refl _)
    rcases hs with hs | hs
    · obtain ⟨its, rv, p, hz⟩ := I1.list hs
      refine wpAny_pyIter_list p.isList ?_
      refine ⟨s1.heap.objs.size, [s1.heap.objs.size], _, _, H1, rfl, I1.kept (t' := s1.toks) fun b o e => Heap.get?_push_of_some _ e, turn_list a _, ⟨_, Heap.get?_push_size _ rfl, rfl, rfl⟩, fun b hb => ?_, q ds _ M1 h2 _ H1 sH m1 (wk_list (vs := vs) (M := M1) fun M' H' m' s' st => ?_)⟩
      · have e : b = s1.heap.objs.size := by simpa using hb
        subst e
        exact I1.fpOk (Nat.le_refl _) hn
      · obtain ⟨a', vs', e', hs', hr'⟩ := items_sq m' (rd.stb s') st
        cases e'
        rcases hs' with hs' | hs'
        · exact ⟨vs', hs', hr'⟩
        · cases rd with
          | @tup _ vs2 ds2 g1 g2 =>
            exfalso
            obtain ⟨_, _, ⟨o, e1, e2, _⟩, _⟩ := I1.tuple g1
            obtain ⟨_, _, ⟨o2, n2, e3, e4, _⟩, _⟩ := I1.list hs
            rw [e1] at e3
            cases e3
            rw [e2] at e4
            injection e4 with e4
            exact absurd e4 (by decide)
          | @rol _ vs2 ds2 g1 g2 => cases st; exact ⟨vs2, (g1.stb s').sq, g2.stb s'⟩
          | ref _ =>
            unfold itemsOf at st
            cases em : M' a with
            | none => simp only [em] at st; cases st
            | some o =>
              cases o with
              | lst es =>
                simp only [em] at st
                cases st
                obtain ⟨vs3, g1, g2⟩ := m' a _ em
                exact ⟨vs3, SqL.of g1, g2⟩
              | _ => simp only [em] at st; cases st
    · obtain ⟨its, rv, p, hz⟩ := I1.tuple hs
      refine wpAny_pyIter_tuple (show s1.heap.IsTuple a its.toArray from p) ?_
      refine ⟨s1.heap.objs.size, [s1.heap.objs.size], _, _, H1, rfl, I1.kept (t' := s1.toks) fun b o e => Heap.get?_push_of_some _ e, turn_tuple a _, ⟨_, Heap.get?_push_size _ rfl, rfl, rfl⟩, fun b hb => ?_, q ds _ M1 h2 _ H1 sH m1 (wk_tup hs hr)⟩
      have e : b = s1.heap.objs.size := by simpa using hb
      subst e
      exact I1.fpOk (Nat.le_refl _) hn
/-- lo, lo + 1, .. -/
def upTo (lo : Int) (n : Nat) : List D := (List.range n).map fun (i : Nat) => D.int (lo + (i : Int))
theorem wk_rng {H : Hp} {lo : Int} {n : Nat} {stay : MM → Prop} : Wk X (Itr lo n) H (upTo lo n) stay := by
  intro i H' M' s m st
  have hl : (upTo lo n).length = n := by unfold upTo; simp
  refine ⟨fun e => ?_, fun d hd => ?_⟩
  · show n ≤ i
    omega
  · have hi : i < n := by
      have := (List.getElem?_eq_some_iff.mp hd).1
      omega
    have ed : d = D.int (lo + (i : Int)) := by
      unfold upTo at hd
      rw [List.getElem?_map, List.getElem?_range hi] at hd
      cases hd; rfl
    refine ⟨hi, fun x' H2 hy => ?_⟩
    obtain ⟨e, hy⟩ := hy
    subst e hy ed
    exact ⟨Stb.refl _, m, .int _⟩
def wRng1 (wa : WA) : WI := fun ρ M K E => wa ρ M (fun xs M1 => ∃ j : Int, xs = [.int j] ∧ -(2 ^ 62) ≤ j ∧ j < 2 ^ 62 ∧ K (upTo 0 j.toNat) (fun _ => True) M1) E
def wRng2 (wa : WA) : WI := fun ρ M K E => wa ρ M (fun xs M1 => ∃ i j : Int, xs = [.int i, .int j] ∧ (-(2 ^ 62) ≤ i ∧ i < 2 ^ 62 ∧ -(2 ^ 62) ≤ j ∧ j < 2 ^ 62) ∧ K (upTo i (j - i).toNat) (fun _ => True) M1) E
theorem rng1_up {wa : WA} (σ : St) (H : Hp) (R : It → Hp → Prop) : upI X W (wRng1 wa) σ H R → iRng1 (upA X W wa) σ H R := fun ⟨ρ, M, K0, E0, r, m, t, q, xg⟩ => by
  refine ⟨ρ, M, _, E0, r, m, t, fun ds M1 t1 ys H1 s1 rd m1 => ?_, xg⟩
  obtain ⟨j, rfl, h1, h2, t1⟩ := t1
  obtain ⟨v, rfl, hv⟩ := rds1 rd
  cases hv
  exact ⟨j, rfl, h1, h2, q _ _ M1 t1 _ H1 s1 m1 wk_rng⟩
theorem ui_rng1 {wa : WA} (h : PI X tg e (iRng1 (upA X W wa))) : PI X tg e (upI X W (wRng1 wa)) := h.imp rng1_up
theorem ui_rng2 {wa : WA} (h : PI X tg e (iRng2 (upA X W wa))) : PI X tg e (upI X W (wRng2 wa)) := h.imp fun σ H R ⟨ρ, M, K0, E0, r, m, t, q, xg⟩ => by
  refine ⟨ρ, M, _, E0, r, m, t, fun ds M1 t1 ys H1 s1 rd m1 => ?_, xg⟩
  obtain ⟨i, j, rfl, h1, t1⟩ := t1
  obtain ⟨v, w, rfl, hv, hw⟩ := rds2 rd
  cases hv
  cases hw
  exact ⟨i, j, rfl, h1, q _ _ M1 t1 _ H1 s1 m1 wk_rng⟩
end
/-! ### for -/
/-- the loop over these items -/
def loopD (stay : MM → Prop) (g : WG) (b : WS) : List D → WS
  | [] => fun ρ M N _ => stay M ∧ N.nx ρ M
  | d :: ds => fun ρ M N E => stay M ∧ g d ρ M (fun ρ1 M1 => b ρ1 M1 { nx := fun ρ2 M2 => loopD stay g b ds ρ2 M2 N E, ct := fun ρ2 M2 => loopD stay g b ds ρ2 M2 N E, bk := N.nx, rt := N.rt } E) (fun x M1 => E x ρ M1)
def wFor (wi : WI) (g : WG) (b : WS) : WS := fun ρ M N E => wi ρ M (fun ds stay M1 => loopD stay g b ds ρ M1 N E) (fun x M1 => E x ρ M1)
theorem loopD_stay {stay : MM → Prop} {g : WG} {b : WS} {ds : List D} {ρ : En} {M : MM} {N : EndsD} {E : QS} (h : loopD stay g b ds ρ M N E) : stay M := by
  cases ds with
  | nil => exact h.1
  | cons d ds => exact h.1
section
variable {X : Cx} {W : WX} {tg iter : Expr} {body : List Stmt} {wi : WI} {g : WG} {b : WS} {pos : Pos}
theorem us_for (hp : PassesOwn (model X.prog X.w) X.A X.env X.xe) (hc : X.calm = true) (hi : PI X tg iter (upI X W wi)) (hg : PG X tg (upG X W g)) (hb : PSs X body (upS X W b)) (hs : ∀ x, foldedSetIterable iter X.env x = pure x) :
    PS X (.For tg iter body [] pos) (upS X W (wFor wi g b)) := (ps_for hp hc hi hg hb hs).imp fun B σ H ⟨ρ, M, N, E0, r, m, z, gg, xg⟩ => by
  refine ⟨ρ, M, _, _, r, m, z, fun ds stay M1 z1 J H1 s1 m1 wk => ?_, xg.at_ r⟩
  refine ⟨fun i k σ' H' => i ≤ ds.length ∧ k = ds.length - i ∧ ∃ ρ' M', RE X.K H' ρ' σ' ∧ RMx X H' M' ∧ Stb H1 H' ∧ loopD stay g b (ds.drop i) ρ' M' N E0, ⟨_, Nat.zero_le _, rfl, ρ, M1, r.stb s1, m1, Stb.refl _, z1⟩, ?_⟩
  rintro i k σ' H' ⟨hi, rfl, ρ', M', r', m', s', z'⟩
  have st := loopD_stay z'
  obtain ⟨w1, w2⟩ := wk i H' M' s' m' st
  by_cases hlt : i < ds.length
  · have hd : ds[i]? = some ds[i] := by simp [hlt]
    obtain ⟨go, yl⟩ := w2 _ hd
    rw [List.drop_eq_getElem_cons hlt] at z'
    refine .inr ⟨go, fun σ2 H2 => ∃ ρ2 M2, RE X.K H2 ρ2 σ2 ∧ RMx X H2 M2 ∧ Stb H1 H2 ∧ loopD stay g b (ds.drop (i + 1)) ρ2 M2 N E0, fun σ2 H2 ⟨ρ2, M2, a1, a2, a3, a4⟩ => ⟨ds.length - (i + 1), by omega, hlt, rfl, ρ2, M2, a1, a2, a3, a4⟩, fun x H2 hy => ?_⟩
    obtain ⟨s2, m2, rd⟩ := yl x H2 hy
    obtain ⟨_, z'⟩ := z'
    have s12 := s'.trans s2
    refine ⟨_, ρ', M', _, _, rd, r'.stb s2, m2, z', fun ρ3 M3 z3 σ3 H3 s3 r3 m3 _ => ?_, (xg.stb ((s1.trans s12))).at_ (r'.stb s2)⟩
    have s13 := s12.trans s3
    refine ⟨ρ3, M3, _, E0, r3, m3, z3, ⟨fun ρ4 M4 z4 σ4 H4 s4 r4 m4 => ⟨ρ4, M4, r4, m4, s13.trans s4, z4⟩, (gg.stb (s1.trans s13)).rt, (gg.stb (s1.trans s13)).nx, fun ρ4 M4 z4 σ4 H4 s4 r4 m4 => ⟨ρ4, M4, r4, m4, s13.trans s4, z4⟩⟩, xg.stb (s1.trans s13)⟩
  · have e : i = ds.length := by omega
    subst e
    rw [List.drop_length] at z'
    exact .inl ⟨w1 rfl, gg.nx _ _ z'.2 _ _ (s1.trans s') r' m'⟩
/-! ### while: so many turns at most -/
def whileD (c : WB) (b : WS) : Nat → WS
  | 0 => fun _ _ _ _ => False
  | n + 1 => fun ρ M N E => c ρ M (fun k M1 => if k = true then b ρ M1 { nx := fun ρ2 M2 => whileD c b n ρ2 M2 N E, ct := fun ρ2 M2 => whileD c b n ρ2 M2 N E, bk := N.nx, rt := N.rt } E else N.nx ρ M1) (fun x M1 => E x ρ M1)
def wWhile (c : WB) (b : WS) : WS := fun ρ M N E => ∃ n, whileD c b n ρ M N E
theorem us_while {c : Expr} {wc : WB} (hp : PassesOwn (model X.prog X.w) X.A X.env X.xe) (hc : PT X c (upB X W wc)) (hb : PSs X body (upS X W b)) : PS X (.While c body [] pos) (upS X W (wWhile wc b)) := (ps_while hp hc hb).imp fun B σ H ⟨ρ, M, N, E0, r, m, ⟨n, z⟩, gg, xg⟩ => by
  refine ⟨fun k σ' H' => ∃ ρ' M', RE X.K H' ρ' σ' ∧ RMx X H' M' ∧ Stb H H' ∧ whileD wc b k ρ' M' N E0, ⟨n, ρ, M, r, m, Stb.refl _, z⟩, ?_⟩
  rintro k σ' H' ⟨ρ', M', r', m', s', z'⟩
  cases k with
  | zero => exact (show False from z').elim
  | succ k =>
    refine ⟨ρ', M', _, _, r', m', z', fun j M1 z1 H1 s1 m1 => ?_, (xg.stb s').at_ r'⟩
    cases j with
    | true =>
      have s2 := s'.trans s1
      exact ⟨fun σ2 H2 => ∃ ρ2 M2, RE X.K H2 ρ2 σ2 ∧ RMx X H2 M2 ∧ Stb H H2 ∧ whileD wc b k ρ2 M2 N E0, fun σ2 H2 h => ⟨k, Nat.lt_succ_self _, h⟩,
        ρ', M1, _, E0, r'.stb s1, m1, z1, ⟨fun ρ4 M4 z4 σ4 H4 s4 r4 m4 => ⟨ρ4, M4, r4, m4, s2.trans s4, z4⟩, (gg.stb s2).rt, (gg.stb s2).nx, fun ρ4 M4 z4 σ4 H4 s4 r4 m4 => ⟨ρ4, M4, r4, m4, s2.trans s4, z4⟩⟩, xg.stb s2⟩
    | false => exact gg.nx _ _ z1 _ _ (s'.trans s1) (r'.stb s1) m1
end
/-! ### comprehensions -/
def wipeD (ρ : En) : List Nat → En
  | [] => ρ
  | v :: vs => (wipeD ρ vs).set v none
abbrev noX : QX := fun _ _ => False
theorem RE.clear {K : PySem.W.Frag} {H : Hp} {ρ : En} {σ : St} (i : Nat) (h : RE K H ρ σ) : RE K H (ρ.set i none) (σ.set i none) := by
  refine ⟨by rw [List.length_set, List.length_set]; exact h.1, fun j e q => ?_⟩
  by_cases hj : i = j
  · subst hj
    by_cases hl : i < ρ.length
    · rw [List.getElem?_set_self hl] at q; cases q
    · rw [List.getElem?_eq_none (by simpa using hl)] at q; cases q
  · rw [List.getElem?_set_ne hj] at q
    obtain ⟨z, h1, h2⟩ := h.2 j e q
    exact ⟨z, by rw [List.getElem?_set_ne hj]; exact h1, h2⟩
theorem RE.wipe {K : PySem.W.Frag} {H : Hp} {ρ : En} {σ : St} (h : RE K H ρ σ) : ∀ vs : List Nat, RE K H (wipeD ρ vs) (wipe σ vs)
  | [] => h
  | v :: vs => (RE.wipe h vs).clear v
/-- the items taken one by one, the list at p growing -/
def lcD (stay : MM → Prop) (p : Addr) (ρ0 : En) (g : WG) (tt : WB) (te : WE) : List D → List D → MM → (MM → Prop) → Prop
  | [], acc, M, K => stay M ∧ M p = some (.lst acc) ∧ K M
  | d :: ds, acc, M, K => stay M ∧ g d ρ0 M (fun ρ1 M1 => tt ρ1 M1 (fun k M2 => if k = true then te ρ1 M2 (fun y M3 => M3 p = some (.lst acc) ∧ acc.length < sizeLine ∧ lcD stay p ρ0 g tt te ds (acc ++ [y]) (up M3 p (.lst (acc ++ [y]))) K) noX
      else lcD stay p ρ0 g tt te ds acc M2 K) noX) noX
def wLc (wi : WI) (own : List Nat) (g : WG) (tt : WB) (te : WE) : WE := fun ρ M Q E => wi ρ M (fun ds stay M1 => ∀ p, M1 p = none → lcD stay p (wipeD ρ own) g tt te ds [] (up M1 p (.lst [])) fun M2 => Q (.ref p) M2) E
theorem lcD_stay {stay : MM → Prop} {p : Addr} {ρ0 : En} {g : WG} {tt : WB} {te : WE} {ds acc : List D} {M : MM} {K : MM → Prop} (h : lcD stay p ρ0 g tt te ds acc M K) : stay M := by
  cases ds with
  | nil => exact h.1
  | cons d ds => exact h.1
/-- the wishes within a block: nothing leaves -/
abbrev W0 : WX := fun _ _ _ _ => False
theorem XGo.no {X : Cx} {σ : St} {H : Hp} : XGo X W0 σ H noX := fun _ _ h => h.elim
section
variable {X : Cx} {W : WX}
/-- what a store within a comprehension leaves of the slots -/
abbrev ownR (own : List Nat) : SR := fun σ σ' => wipe σ' own = wipe σ own
theorem wipe_get {σ : St} : ∀ {vs : List Nat} {i : Nat}, (wipe σ vs)[i]? = if i ∈ vs then (σ[i]?).map fun _ => none else σ[i]?
  | [], i => by simp [wipe]
  | v :: vs, i => by
    unfold wipe
    by_cases h : v = i
    · subst h
      by_cases hl : v < (wipe σ vs).length
      · rw [List.getElem?_set_self hl, if_pos List.mem_cons_self]
        rw [wipe_length] at hl
        rw [List.getElem?_eq_getElem hl]; rfl
      · rw [List.getElem?_eq_none (by simpa using hl), if_pos List.mem_cons_self]
        rw [wipe_length] at hl
        rw [List.getElem?_eq_none (by omega)]; rfl
    · rw [List.getElem?_set_ne h, wipe_get]
      have e : (i ∈ v :: vs) = (i ∈ vs) := by
        rw [List.mem_cons]
        exact propext ⟨fun z => z.resolve_left fun q => h q.symm, .inr⟩
      simp only [e]
theorem wipe_wipe (σ : St) (vs : List Nat) : wipe (wipe σ vs) vs = wipe σ vs := by
  apply List.ext_getElem?
  intro i
  rw [wipe_get, wipe_get]
  by_cases h : i ∈ vs
  · rw [if_pos h, if_pos h]
    cases σ[i]? <;> rfl
  · rw [if_neg h, if_neg h]
theorem ownR_set {own : List Nat} {i : Nat} (h : i ∈ own) (σ : St) (v : Option V) : ownR own σ (σ.set i v) := by
  apply List.ext_getElem?
  intro j
  rw [wipe_get, wipe_get]
  by_cases hj : j ∈ own
  · rw [if_pos hj, if_pos hj]
    by_cases e : i = j
    · subst e
      by_cases hl : i < σ.length
      · rw [List.getElem?_set_self hl, List.getElem?_eq_getElem hl]; rfl
      · rw [List.getElem?_eq_none (by simpa using hl), List.getElem?_eq_none (by omega)]
    · rw [List.getElem?_set_ne e]
  · rw [if_neg hj, if_neg hj, List.getElem?_set_ne (fun (e : i = j) => hj (e ▸ h))]
theorem tLc_of {wi : WI} {own : List Nat} {g : WG} {tt : WB} {te : WE} {σ : St} {H : Hp} {Q : VK} (h : upE X W (wLc wi own g tt te) σ H Q) : tLc (upI X W wi) (upGR X W0 (ownR own) g) (upB X W0 tt) (upE X W0 te) own σ H Q := by
  obtain ⟨ρ, M, Q0, E0, r, m, t, q, xg⟩ := h
  refine ⟨ρ, M, _, E0, r, m, t, fun ds stay M1 t1 J H1 s1 m1 wk => ?_, xg⟩
  intro p hp
  have z0 := t1 p (m1.fresh hp)
  have sN : Stb H1 (upd H1 p (.lst [])) := Stb.new hp
  refine ⟨fun i k H' => i ≤ ds.length ∧ k = ds.length - i ∧ ∃ acc M', RMx X H' M' ∧ Stb (upd H1 p (.lst [])) H' ∧ lcD stay p (wipeD ρ own) g tt te (ds.drop i) acc M' fun M2 => Q0 (.ref p) M2, ⟨_, Nat.zero_le _, rfl, [], _, m1.new (o := .lst []) hp ⟨[], upd_same, .nil⟩, Stb.refl _, z0⟩, ?_⟩
  rintro i k H' ⟨hi, rfl, acc, M', m', s', z'⟩
  have st := lcD_stay z'
  have sT := sN.trans s'
  obtain ⟨w1, w2⟩ := wk i H' M' sT m' st
  by_cases hlt : i < ds.length
  · have hd : ds[i]? = some ds[i] := by simp [hlt]
    obtain ⟨go, yl⟩ := w2 _ hd
    rw [List.drop_eq_getElem_cons hlt] at z'
    refine .inr ⟨go, fun H2 => ∃ acc M2, RMx X H2 M2 ∧ Stb (upd H1 p (.lst [])) H2 ∧ lcD stay p (wipeD ρ own) g tt te (ds.drop (i + 1)) acc M2 fun M2 => Q0 (.ref p) M2, fun H2 ⟨acc, M2, a2, a3, a4⟩ => ⟨ds.length - (i + 1), by omega, hlt, rfl, acc, M2, a2, a3, a4⟩, fun x H2 hy => ?_⟩
    obtain ⟨s2, m2, rd⟩ := yl x H2 hy
    obtain ⟨_, z'⟩ := z'
    have rw_ : RE X.K H2 (wipeD ρ own) (wipe σ own) := (((r.stb s1).stb sT).stb s2).wipe own
    refine ⟨_, _, M', _, noX, rd, rw_, m2, z', fun ρ3 M3 z3 σ3 H3 s3 r3 m3 hR => ⟨by rw [show wipe σ3 own = wipe (wipe σ own) own from hR, wipe_wipe], ?_⟩, XGo.no⟩
    refine ⟨ρ3, M3, _, noX, r3, m3, z3, fun b M4 z4 H4 s4 m4 => ?_, XGo.no⟩
    have s14 := s'.trans ((s2.trans s3).trans s4)
    cases b with
    | false => exact ⟨acc, M4, m4, s14, z4⟩
    | true =>
      refine ⟨ρ3, M4, _, noX, r3.stb s4, m4, z4, fun y M5 z5 v H5 s5 rd5 m5 => ?_, XGo.no⟩
      obtain ⟨h1, h2, h5⟩ := z5
      obtain ⟨vs, h3, h4⟩ := m5 p _ h1
      have mu : Mut (H5 p) := by rw [h3]; trivial
      refine ⟨vs, h3, by rw [← h4.length]; exact h2, _, _, m5.mut (o := .lst (acc ++ [y])) mu ⟨vs ++ [v], upd_same, RDs.stb (Stb.mut mu) (h4.append (.cons rd5 .nil))⟩, (s14.trans s5).trans (Stb.mut mu), h5⟩
  · have e : i = ds.length := by omega
    subst e
    rw [List.drop_length] at z'
    exact .inl ⟨w1 rfl, q _ _ z'.2.2 _ _ (s1.trans sT) (.ref p) m'⟩
end
end Fg
/-! Fg8: displays, calls of the text's own defs and methods, of built-ins and their methods. -/
namespace Fg
open PySem PySem.Spec L2
open PyProof.Rows hiding St
/-! ### side conditions by form -/
def isCall0 : Expr → Bool
  | .Call (.Name _ _) [] [] _ => true
  | _ => false
theorem base_of {o : Expr} {a : Str} {env : PySem.Env} {w : Sem Value} (h : isCall0 o = false) : attributeBase o a env w = w := by
  unfold attributeBase
  cases o <;> try rfl
  rename_i f as ks p
  cases f <;> try rfl
  cases as <;> try rfl
  cases ks <;> try rfl
  cases h
def noStar : Expr → Bool
  | .Starred _ _ => false
  | _ => true
theorem star_cons {e : Expr} {es : List Expr} {env : PySem.Env} (h : noStar e = true) : starEach (e :: es) env = (false, eval e env) :: starEach es env := by
  cases e <;> first | rfl | cases h
theorem star_plain {env : PySem.Env} {pos : Pos} : ∀ {es : List Expr}, es.all noStar = true → (backTo pos (starEach es env)).any (·.1) = false
  | [], _ => rfl
  | e :: es, h => by
    rw [List.all_cons, Bool.and_eq_true] at h
    rw [star_cons h.1]
    show (false || (backTo pos (starEach es env)).any (·.1)) = false
    rw [star_plain h.2]; rfl
theorem star_allN {env : PySem.Env} {pos : Pos} : ∀ {es : List Expr}, es.all noStar = true → (backTo pos (starEach es env)).all (fun x => !x.1) = true
  | [], _ => rfl
  | e :: es, h => by
    rw [List.all_cons, Bool.and_eq_true] at h
    rw [star_cons h.1]
    show (true && (backTo pos (starEach es env)).all (fun x => !x.1)) = true
    rw [star_allN h.2]; rfl
def isComp : Expr → Bool
  | .ListComp _ _ _ _ => true
  | .SetComp _ _ _ _ => true
  | .DictComp _ _ _ _ _ => true
  | _ => false
theorem swap_no {e : Expr} {t : Option Expr} {l : Nat} {env : PySem.Env} (h : isComp e = false) : swapsWith e t l env = pure false := by
  cases e <;> first | rfl | cases h
def isSet : Expr → Bool
  | .Set _ _ _ => true
  | _ => false
theorem fold_no {e : Expr} {env : PySem.Env} (h : isSet e = false) (x : Value) : foldedSetIterable e env x = pure x := by
  cases e <;> first | rfl | cases h
section
variable {X : Cx} {W : WX} {e : Expr} {es : List Expr} {pos : Pos}
/-! ### displays -/
def wTup (wa : WA) : WE := fun ρ M Q E => wa ρ M (fun ds M1 => ds.length ≤ sizeLine ∧ Q (.tup ds) M1) E
def wLst (wa : WA) : WE := fun ρ M Q E => wa ρ M (fun ds M1 => ds.length ≤ sizeLine ∧ ∀ p, M1 p = none → Q (.ref p) (up M1 p (.lst ds))) E
theorem ue_tup {wa : WA} {k : Nat} (h : PA X es (upA X W wa)) : PE X (.Tuple es k pos) (upE X W (wTup wa)) := (pe_tup h).imp fun σ H Q ⟨ρ, M, Q0, E0, r, m, t, q, xg⟩ =>
  ⟨ρ, M, _, E0, r, m, t, fun ds M1 t1 ys H1 s1 rd m1 => ⟨by rw [← rd.length]; exact t1.1, fun p hp => q _ _ t1.2 _ _ (s1.trans (Stb.new hp)) (.tup (SqT.of upd_same) (RDs.stb (Stb.new hp) rd)) (m1.laid hp)⟩, xg⟩
theorem ue_lst {wa : WA} (h : PA X es (upA X W wa)) : PE X (.List es pos) (upE X W (wLst wa)) := (pe_lst h).imp fun σ H Q ⟨ρ, M, Q0, E0, r, m, t, q, xg⟩ =>
  ⟨ρ, M, _, E0, r, m, t, fun ds M1 t1 ys H1 s1 rd m1 => ⟨by rw [← rd.length]; exact t1.1, fun p hp => q _ _ (t1.2 p (m1.fresh hp)) _ _ (s1.trans (Stb.new hp)) (.ref p) (m1.new (o := .lst ds) hp ⟨ys, upd_same, RDs.stb (Stb.new hp) rd⟩)⟩, xg⟩
theorem raw_empty {P : Program} {w : World} {H : Hp} (h : Heap) : ObjOk P w (upd H h.objs.size (rawD h.objs.size [])) (h.push { cls := .type "dict", data := .dict #[] }) h.objs.size (rawD h.objs.size []) :=
  raw_ok ⟨_, 0, Heap.get?_push_size _ rfl, ⟨rfl, rfl, rfl⟩, rfl⟩
theorem sys_no {pins : List (Addr × Obj)} {σ : St} {H : Hp} {s : Shared} (I : Inv X pins σ H s) {a : Addr} (h : s.heap.objs.size ≤ a) : (a == sysModules) = false := by
  have hb := I.big
  rw [beq_eq_false_iff_ne]
  intro z
  rw [z] at h
  exact absurd (Nat.lt_of_lt_of_le hb h) (Nat.lt_irrefl _)
/-- {} -/
def wDct0 : WE := fun _ M Q _ => ∀ p, M p = none → Q (.ref p) (up M p (.dct []))
theorem ue_dct0 : PE X (.Dict [] [] pos) (upE X W wDct0) := ⟨fun pins s σ H Q I ⟨ρ, M, Q0, E0, r, m, t, q, xg⟩ => by
  have hp : H s.heap.objs.size = none := I.hok.fresh (Nat.le_refl _)
  refine wpAny_Dict_empty ⟨.ref s.heap.objs.size, _, I.laid (a := s.heap.objs.size) (o := rawD s.heap.objs.size []) (t' := s.toks) (fun _ _ q => Heap.get?_push_of_some _ q) (Nat.le_refl _) (raw_empty s.heap), rfl, ?_⟩
  exact q _ _ (t _ (m.fresh hp)) _ _ (Stb.new hp) (.ref _) (m.new (o := .dct []) hp ⟨[], upd_same, sys_no I (Nat.le_refl _), Nat.zero_le _, .inl (fun p h => nomatch h), List.nodup_nil, .nil⟩)⟩
end
/-! ### defs of the text -/
/-- a def's promise over data -/
abbrev SpD := List D → MM → QD → QX → Prop
def upSp (K : PySem.W.Frag) (w : World) (sp : SpD) : Sp := fun vs H Q E => ∃ ds M Q0 E0, RDs K H ds vs ∧ RM K w H M ∧ sp ds M Q0 E0 ∧ (∀ d M', Q0 d M' → ∀ y H', Stb H H' → RD K H' d y → RM K w H' M' → Q y H') ∧
  ∀ x M', E0 x M' → ∀ cls d H', Stb H H' → RX K H' M' x cls d → RM K w H' M' → E cls d H'
/-- what a text's def needs to be called: k its level -/
def FnAt (P : Program) (w : World) (K : PySem.W.Frag) (mg : Str → Option Value) (base : Heap) (k : Nat) (f : Addr) (sp : SpD) : Prop :=
  ∃ fd ps, FnOk P w K mg base (L2N.CX P w) k f fd ps (upSp K w sp) ∧ PySem.W.keepIn K (.ref f) = true ∧ Binds K fd ps []
def FnHas (P : Program) (w : World) (K : PySem.W.Frag) (mg : Str → Option Value) (base : Heap) (k : Nat) (x : Str) (sp : SpD) : Prop := ∃ f, mg x = some (.ref f) ∧ FnAt P w K mg base k f sp
/-- a method m of the class c -/
def MtHas (P : Program) (w : World) (K : PySem.W.Frag) (mg : Str → Option Value) (base : Heap) (k : Nat) (c m : Str) (sp : SpD) : Prop := Cls K (He.ga K c) ∧ ∃ f, Meth K (He.ga K c) m f ∧ FnAt P w K mg base k f sp
/-- a class c, made by its __init__ -/
def MkHas (P : Program) (w : World) (K : PySem.W.Frag) (mg : Str → Option Value) (base : Heap) (k : Nat) (c : Str) (sp : SpD) : Prop := mg c = some (.ref (He.ga K c)) ∧ ∃ f, Mk K (He.ga K c) f ∧ FnAt P w K mg base k f sp
def wCall (sp : SpD) (wa : WA) : WE := fun ρ M Q E => wa ρ M (fun ds M1 => sp ds M1 Q E) E
def wMeth (m : Str) (alts : List (Str × SpD)) (wo : WE) (wa : WA) : WE := fun ρ M Q E => wo ρ M (fun o M1 => match o with
  | .ref a => ∃ p ∈ alts, ∃ fs, M1 a = some (.ins p.1 fs) ∧ fget fs m = none ∧ wa ρ M1 (fun ds M2 => p.2 (.ref a :: ds) M2 Q E) E
  | _ => False) E
def wMake (c : Str) (sp : SpD) (wa : WA) : WE := fun ρ M Q E => wa ρ M (fun ds M1 => ∀ p, M1 p = none → sp (.ref p :: ds) (up M1 p (.ins c [])) (fun d M2 => d = .non ∧ Q (.ref p) M2) E) E
section
variable {X : Cx} {W : WX} {e o : Expr} {es : List Expr} {pos p apos : Pos} {x m : Str} {k : Nat} {sp : SpD} {wa : WA}
theorem upSp_of {H : Hp} {σ : St} {Q : VK} {ys : List V} {ds : List D} {M1 : MM} {Q0 : QD} {E0 : QX} (rd : RDs X.K H ds ys) (m1 : RMx X H M1) (t1 : sp ds M1 Q0 E0) (q : ∀ d M', Q0 d M' → ∀ y H', Stb H H' → RD X.K H' d y → RMx X H' M' → Q y H') (xg : XGo X W σ H E0) :
    upSp X.K X.w sp ys H Q (L2.WE W σ) := ⟨ds, M1, Q0, E0, rd, m1, t1, q, fun x M' hx cls d H' s' rx m' => xg x M' hx cls d H' s' rx m'⟩
/-- a callee runs -/
theorem run_at {pins : List (Addr × Obj)} {σ : St} {H : Hp} {s : Shared} {Q : VK} {us : List Value} {vs : List V} {f : Addr} (hf : FnAt X.prog X.w X.K X.mg X.base k f sp) (hr : Room k X.A) (tk : L2N.Takes X W) (I : Inv X pins σ H s) (r : Vals vs us)
    (h : upSp X.K X.w sp vs H Q (L2.WE W σ)) : wpAny (model X.prog X.w) X.A (call (.ref f) us) (EP X pins σ Q) X.xe s := by
  obtain ⟨fd, ps, F, kp, bd⟩ := hf
  exact run_fnSD (E := L2.WE W) (dvs := []) F hr bd .nil (L2N.passAt tk σ) I r (by rw [List.append_nil]; exact h)
theorem ue_call (hf : FnHas X.prog X.w X.K X.mg X.base k x sp) (hr : Room k X.A) (tk : L2N.Takes X W) (hg : Gl X x) (hdb : (x == ("__debug__" : Str)) = false) (ha : PA X (e :: es) (upA X W wa)) (hs : (e :: es).all noStar = true) :
    PE X (.Call (.Name x p) (e :: es) [] pos) (upE X W (wCall sp wa)) := by
  obtain ⟨f, hm, hf⟩ := hf
  obtain ⟨fd, ps, F, kp, bd⟩ := id hf
  refine ⟨fun pins s σ H Q I h => ?_⟩
  obtain ⟨ρ, M, Q0, E0, r, m, t, q, xg⟩ := h
  have run : ∀ {H1 : Hp} {s1 : Shared} {vs : List V} {us : List Value}, Inv X pins σ H1 s1 → Vals vs us → upSp X.K X.w sp vs H1 Q (L2.WE W σ) → wpAny (model X.prog X.w) X.A (call (.ref f) us) (EP X pins σ Q) X.xe s1 := fun I1 rv z => run_at hf hr tk I1 rv z
  have pas : upA X W wa σ H fun ys H1 => upSp X.K X.w sp ys H1 Q (L2.WE W σ) := ⟨ρ, M, _, E0, r, m, t, fun ds M1 t1 ys H1 s1 rd m1 => upSp_of rd m1 t1 (fun d M' qd y H' s' => q d M' qd y H' (s1.trans s')) (xg.stb s1), xg⟩
  refine wpAny_Call_Name_kw (ld_glob I hg hm ?_ hdb)
  rw [List.all_cons, Bool.and_eq_true] at hs
  exact PySem.W.callWith_K (h₀ := X.base) I.ok.mod.kin kp (thn (ha.run pos pins s σ H _ I pas) fun us s1 ⟨vs, H1, I1, rv, z⟩ => ⟨I1.kIn, run I1 rv z⟩) (star_cons hs.1) (star_plain hs.2)
theorem ue_call0 (hf : FnHas X.prog X.w X.K X.mg X.base k x sp) (hr : Room k X.A) (tk : L2N.Takes X W) (hg : Gl X x) (hdb : (x == ("__debug__" : Str)) = false) :
    PE X (.Call (.Name x p) [] [] pos) (upE X W (wCall sp wNil)) := by
  obtain ⟨f, hm, hf⟩ := hf
  obtain ⟨fd, ps, F, kp, bd⟩ := id hf
  refine ⟨fun pins s σ H Q I ⟨ρ, M, Q0, E0, r, m, t, q, xg⟩ => ?_⟩
  refine wpAny_Call_Name_kw (ld_glob I hg hm ?_ hdb)
  exact PySem.W.callWith_K0 I.kIn kp (run_at hf hr tk I .nil (upSp_of .nil m t (fun d M' qd y H' s' => q d M' qd y H' s') xg))
/-- how o.m(..) is evaluated -/
theorem meth_eq {env : PySem.Env} (hb : isCall0 o = false) (hs : es.all noStar = true) (hn : es.length < 29) (hl : (apos.endLine == pos.line) = true) :
    eval (.Call (.Attribute o m apos) es [] pos) env = (do
      let ov ← eval o env
      standAt apos.atName
      let (f, first) ← holding [ov] (getMethod ov m (do return (← importBound o env).getD true))
      callWith pos f first (backTo pos (starEach es env)) (backToKw pos (keywordEach [] env))) := by
  have hform : methodCallForm (es.length + ([] : List Keyword).length) (backTo pos (starEach es env)) (backToKw pos (keywordEach [] env)) = true := by
    unfold methodCallForm
    rw [star_allN hs]
    simp [keywordEach, backToKw]
    omega
  have hpos : methodCallPos true o env apos pos = pure pos := by unfold methodCallPos; simp [hl]
  rw [arm_eval_Call, base_of hb]
  unfold methodCall calleeOf
  rw [hform, hpos]
  simp
theorem ue_meth {wo : WE} {alts : List (Str × SpD)} (hf : ∀ q ∈ alts, MtHas X.prog X.w X.K X.mg X.base k q.1 m q.2) (hr : Room k X.A) (tk : L2N.Takes X W) (ho : PE X o (upE X W wo)) (ha : PA X (e :: es) (upA X W wa)) (hs : (e :: es).all noStar = true)
    (hb : isCall0 o = false) (hn : (e :: es).length < 29) (hl : (apos.endLine == pos.line) = true) : PE X (.Call (.Attribute o m apos) (e :: es) [] pos) (upE X W (wMeth m alts wo wa)) := by
  have hs' := hs
  refine ⟨fun pins s σ H Q I h => ?_⟩
  obtain ⟨ρ, M, Q0, E0, r, mm, t, q, xg⟩ := h
  refine PySem.W.methodCall_KW (thn (ho.run pins s σ H (fun y H1 => ∃ a M1 sp c fs f, y = .ref a ∧ RMx X H1 M1 ∧ Stb H H1 ∧ M1 a = some (.ins c fs) ∧ fget fs m = none ∧ Cls X.K (He.ga X.K c) ∧ Meth X.K (He.ga X.K c) m f ∧ FnAt X.prog X.w X.K X.mg X.base k f sp ∧
    wa ρ M1 (fun ds M2 => sp (.ref a :: ds) M2 Q0 E0) E0) I ⟨ρ, M, _, E0, r, mm, t, fun d M1 t1 y H1 s1 rd m1 => ?_, xg⟩) fun u s1 hh => ?_) (meth_eq hb hs' hn hl)
  · cases d with
    | ref a =>
      obtain ⟨pr, hp, fs, h1, h2, t1⟩ := t1
      obtain ⟨c1, f, c2, c3⟩ := hf pr hp
      cases rd
      exact ⟨a, M1, pr.2, pr.1, fs, f, rfl, m1, s1, h1, h2, c1, c2, c3, t1⟩
    | _ => exact (show False from t1).elim
  · obtain ⟨y, H1, I1, ry, a, M1, sp, c, fs, f, rfl, m1, s1', h1, h2, c1, c2, c3, t1⟩ := hh
    obtain rfl : u = Value.ref a := ry
    obtain ⟨dx, vs, h3, h4⟩ := m1 a _ h1
    refine getmeth_ok I1 h3 c1 c2 (rfl_none h4 h2) ?_
    have pas : upA X W wa σ H1 fun ys H2 => upSp X.K X.w sp (.ref a :: ys) H2 Q (L2.WE W σ) := ⟨ρ, M1, _, E0, r.stb s1', m1, t1, fun ds M2 t2 ys H2 s2 rd m2 => upSp_of (.cons (.ref a) rd) m2 t2 (fun d M' qd y H' s' => q d M' qd y H' ((s1'.trans s2).trans s')) (xg.stb (s1'.trans s2)), xg.stb s1'⟩
    have run : ∀ {H2 : Hp} {s2 : Shared} {vs : List V} {us : List Value}, Inv X pins σ H2 s2 → Vals vs us → upSp X.K X.w sp (.ref a :: vs) H2 Q (L2.WE W σ) → wpAny (model X.prog X.w) X.A (call (.ref f) (.ref a :: us)) (EP X pins σ Q) X.xe s2 := fun {H2 s2 zs us} I2 rv z =>
      run_at (vs := .ref a :: zs) (us := .ref a :: us) c3 hr tk I2 (.cons (rfl : RelV (V.ref a) (Value.ref a)) rv) z
    rw [List.all_cons, Bool.and_eq_true] at hs
    exact PySem.W.callWith_K (first := [.ref a]) (h₀ := X.base) I.ok.mod.kin c2.kp (thn (ha.run pos pins s1 σ H1 _ I1 pas) fun us s2 ⟨vs, H2, I2, rv, z⟩ => ⟨I2.kIn, run I2 rv z⟩) (star_cons hs.1) (star_plain hs.2)
theorem ue_meth0 {wo : WE} {alts : List (Str × SpD)} (hf : ∀ q ∈ alts, MtHas X.prog X.w X.K X.mg X.base k q.1 m q.2) (hr : Room k X.A) (tk : L2N.Takes X W) (ho : PE X o (upE X W wo)) 
    (hb : isCall0 o = false) (hl : (apos.endLine == pos.line) = true) : PE X (.Call (.Attribute o m apos) [] [] pos) (upE X W (wMeth m alts wo wNil)) := by
  refine ⟨fun pins s σ H Q I h => ?_⟩
  obtain ⟨ρ, M, Q0, E0, r, mm, t, q, xg⟩ := h
  refine PySem.W.methodCall_KW (thn (ho.run pins s σ H (fun y H1 => ∃ a M1 sp c fs f, y = .ref a ∧ RMx X H1 M1 ∧ Stb H H1 ∧ M1 a = some (.ins c fs) ∧ fget fs m = none ∧ Cls X.K (He.ga X.K c) ∧ Meth X.K (He.ga X.K c) m f ∧ FnAt X.prog X.w X.K X.mg X.base k f sp ∧
    wNil ρ M1 (fun ds M2 => sp (.ref a :: ds) M2 Q0 E0) E0) I ⟨ρ, M, _, E0, r, mm, t, fun d M1 t1 y H1 s1 rd m1 => ?_, xg⟩) fun u s1 hh => ?_) (meth_eq hb rfl (by decide) hl)
  · cases d with
    | ref a =>
      obtain ⟨pr, hp, fs, h1, h2, t1⟩ := t1
      obtain ⟨c1, f, c2, c3⟩ := hf pr hp
      cases rd
      exact ⟨a, M1, pr.2, pr.1, fs, f, rfl, m1, s1, h1, h2, c1, c2, c3, t1⟩
    | _ => exact (show False from t1).elim
  · obtain ⟨y, H1, I1, ry, a, M1, sp, c, fs, f, rfl, m1, s1', h1, h2, c1, c2, c3, t1⟩ := hh
    obtain rfl : u = Value.ref a := ry
    obtain ⟨dx, vs, h3, h4⟩ := m1 a _ h1
    refine getmeth_ok I1 h3 c1 c2 (rfl_none h4 h2) ?_
    exact PySem.W.callWith_K0 (first := [.ref a]) I1.kIn c2.kp (run_at (vs := [.ref a]) c3 hr tk I1 (.cons (rfl : RelV (V.ref a) (Value.ref a)) .nil) (upSp_of (.cons (.ref a) .nil) m1 t1 (fun d M' qd y H' s' => q d M' qd y H' (s1'.trans s')) (xg.stb s1')))
end
end Fg
/-! Fg9: the same by form, for any context that bears the def's names: side conditions over the text alone. -/
namespace Fg
open PySem PySem.Spec L2
open PyProof.Rows hiding St
/-- what stays through a law -/
structure Ud where
  P : Program
  w : World
  K : PySem.W.Frag
  mg : Str → Option Value
  base : Heap
theorem takes0N {X : Cx} : L2N.Takes X (fun _ _ _ _ => False) := fun _ _ ⟨_, _, _, _, _, _, _, _, _, _, _, _, _, _, _, _, w⟩ => w.elim
/-- a def's names, its scope, the cells that are its own -/
structure Nm where
  N : List Str
  sc : Scope
  F : Str → Bool
  /-- within an except suite -/
  hot : Bool := false
  /-- the exception that it holds: where, what, its dict -/
  ex : Option (Addr × Xn × Addr) := none
  /-- a def's own frame -/
  top : Bool := false
structure Gd (U : Ud) (k : Nat) (n : Nm) (X : Cx) (W : WX) : Prop where
  eP : X.prog = U.P
  eW : X.w = U.w
  eK : X.K = U.K
  eM : X.mg = U.mg
  eB : X.base = U.base
  eN : X.N = n.N
  eS : X.env.scope = n.sc
  nd : n.N.Nodup
  calm : n.hot = false → X.calm = true
  room : n.hot = false → Room k X.A
  hu : X.A.units + 64 < cLine
  tk : L2N.Takes X W
  po : n.hot = false → PassesOwn (model X.prog X.w) X.A X.env X.xe
  xc : ∀ a x dd, n.ex = some (a, x, dd) → ∃ oe, L2N.Zn (.ref (He.ga U.K x.c)) (some dd) oe ∧ (∃ vs, oe.data = .fields vs) ∧ (a, oe) ∈ X.pn
  hotc : n.hot = true → (∃ p : Addr × Obj, L2H.Hot1 X.A p ∧ p ∈ X.pn) ∧ L2H.RoomH k X.A
  stk : n.top = true → X.stack = X.env :: X.outer ∧ X.env.frame = some X.env.locals
  fn : ∀ x, n.F x = true → X.fn x = true
section
variable {U : Ud} {k : Nat} {n : Nm} {X : Cx} {W : WX}
theorem Gd.gl (g : Gd U k n X W) {x : Str} (h : n.sc.names.lookup x = some .globalImplicit) : Gl X x := by
  unfold Gl PySem.Env.kindOf
  rw [g.eS]; exact h
theorem Gd.vis (g : Gd U k n X W) {x : Str} (h : Vis n.sc x) : Vis X.env.scope x := by rw [g.eS]; exact h
theorem Gd.loc (g : Gd U k n X W) {x : Str} (h : Loc n.sc x) : Loc X.env.scope x := by rw [g.eS]; exact h
theorem Gd.ix (g : Gd U k n X W) {i : Nat} {x : Str} (h : n.N[i]? = some x) : X.N[i]? = some x := by rw [g.eN]; exact h
theorem Gd.nm (g : Gd U k n X W) : X.N.Nodup := by rw [g.eN]; exact g.nd
/-- a name that is stored -/
def Sto (n : Nm) (x : Str) : Prop := n.sc.names.lookup x = some .local ∨ (n.sc.names.lookup x = some .cell ∧ n.F x = true)
theorem Sto.loc {x : Str} (h : Sto n x) : Loc n.sc x := h.imp (fun h => h) fun h => h.1
theorem Gd.st (g : Gd U k n X W) {x : Str} (h : Sto n x) : X.fn x = true ∨ X.env.scope.names.lookup x = some .local := by
  rcases h with h | h
  · exact .inr (by rw [g.eS]; exact h)
  · exact .inl (g.fn x h.2)
theorem Gd.mgN (g : Gd U k n X W) {x : Str} (h : U.mg x = none) : X.mg x = none := by rw [g.eM]; exact h
end
/-! ### judgements -/
def JE (U : Ud) (k : Nat) (n : Nm) (e : Expr) (w : WE) : Prop := ∀ X W, Gd U k n X W → PE X e (upE X W w)
def JA (U : Ud) (k : Nat) (n : Nm) (es : List Expr) (w : WA) : Prop := ∀ X W, Gd U k n X W → PA X es (upA X W w)
def JT (U : Ud) (k : Nat) (n : Nm) (e : Expr) (w : WB) : Prop := ∀ X W, Gd U k n X W → PT X e (upB X W w)
def JW (U : Ud) (k : Nat) (n : Nm) (e : Expr) (w : WB) : Prop := ∀ X W, Gd U k n X W → PW X e (upB X W w)
def JI (U : Ud) (k : Nat) (n : Nm) (tg e : Expr) (w : WI) : Prop := ∀ X W, Gd U k n X W → PI X tg e (upI X W w)
def JG (U : Ud) (k : Nat) (n : Nm) (R : SR) (tg : Expr) (w : WG) : Prop := ∀ X W, Gd U k n X W → PG X tg (upGR X W R w)
def JGs (U : Ud) (k : Nat) (n : Nm) (R : SR) (tg : List Expr) (w : List WG) : Prop := ∀ X W, Gd U k n X W → PGs X tg (upGs X W R w)
def JS (U : Ud) (k : Nat) (n : Nm) (st : Stmt) (w : WS) : Prop := ∀ X W, Gd U k n X W → PS X st (upS X W w)
def JSs (U : Ud) (k : Nat) (n : Nm) (st : List Stmt) (w : WS) : Prop := ∀ X W, Gd U k n X W → PSs X st (upS X W w)
def JC (op : CmpOp) (o : OD) : Prop := ∀ U k n X W, Gd U k n X W → OpR X (compareOp op) (upO X o)
def JB (op : Operator) (o : OD) : Prop := ∀ X, OpR X (binaryOp op) (upO X o)
theorem c_eq : JC .Eq dEq := fun _ _ _ _ _ g => op_dEq g.hu
theorem c_ne : JC .NotEq dNe := fun _ _ _ _ _ g => op_dNe g.hu
theorem c_lt : JC .Lt dLt := fun _ _ _ _ _ g => op_dLt g.hu
theorem c_le : JC .LtE dLe := fun _ _ _ _ _ g => op_dLe g.hu
theorem c_gt : JC .Gt dGt := fun _ _ _ _ _ g => op_dGt g.hu
theorem c_ge : JC .GtE dGe := fun _ _ _ _ _ g => op_dGe g.hu
theorem c_is : JC .Is dIs := fun _ _ _ _ _ _ => op_dIs
theorem c_isn : JC .IsNot dIsNot := fun _ _ _ _ _ _ => op_dIsNot
theorem c_in : JC .In dIn := fun _ _ _ _ _ g => op_dIn g.hu
theorem c_nin : JC .NotIn dNotIn := fun _ _ _ _ _ g => op_dNotIn g.hu
theorem b_add : JB .Add dAdd := fun _ => op_dAdd
theorem b_sub : JB .Sub dSub := fun _ => op_dSub
theorem b_mul : JB .Mult dMul := fun _ => op_dMul
theorem b_div : JB .FloorDiv dDiv := fun _ => op_dDiv
theorem b_mod : JB .Mod dMod := fun _ => op_dMod
theorem b_pow : JB .Pow dPow := fun _ => op_dPow
theorem b_and : JB .BitAnd dAnd := fun _ => op_dAnd
/-- a global that is a constant -/
def GC (U : Ud) (x : Str) (d : D) : Prop := ∃ u v, U.mg x = some u ∧ RelV v u ∧ ∀ H, RD U.K H d v
section
variable {U : Ud} {k : Nat} {n : Nm} {e a b c : Expr} {es : List Expr} {pos p apos : Pos} {x m : Str} {wa wb wc w : WE} {ws : WA}
/-! ### expressions -/
theorem n_var (i : Nat) (hN : n.N[i]? = some x) (hv : Vis n.sc x) (hd : (x == ("__debug__" : Str)) = false) (hcd : (x == ("__classdict__" : Str)) = false) : JE U k n (.Name x pos) (wVar i) :=
  fun X W g => ue_var (pe_var (g.ix hN) (g.vis hv) hd hcd)
theorem n_int {i : Int} {j : Nat} : JE U k n (.Constant (.int i) j pos) (wCst (.int i)) := fun X W g => ue_cst pe_int fun _ => .int _
theorem n_str {y : Str} {j : Nat} : JE U k n (.Constant (.str y) j pos) (wCst (.str y)) := fun X W g => ue_cst pe_str fun _ => .str _
theorem n_bl {y : Bool} {j : Nat} : JE U k n (.Constant (.bool y) j pos) (wCst (.bl y)) := fun X W g => ue_cst pe_bl fun _ => .bl _
theorem n_non {j : Nat} : JE U k n (.Constant .none j pos) (wCst .non) := fun X W g => ue_cst pe_non fun _ => .non
theorem n_gc {d : D} (h : GC U x d) (hg : n.sc.names.lookup x = some .globalImplicit) (hd : (x == ("__debug__" : Str)) = false) : JE U k n (.Name x pos) (wCst d) := fun X W g => by
  obtain ⟨u, v, h1, h2, h3⟩ := h
  refine ue_cst (pe_glob (g.gl hg) (by rw [g.eM]; exact h1) h2 hd) fun H => ?_
  rw [g.eK]; exact h3 H
theorem n_ty {T : String} (hg : n.sc.names.lookup x = some .globalImplicit) (hm : U.mg x = none) (hv : bootBuiltins x = some (.type T)) (hn : x ≠ "__name__") (hd : (x == ("__debug__" : Str)) = false) : JE U k n (.Name x pos) (wCst (.ty T)) := fun X W g =>
  ue_cst (pe_bltn (v := .ty T) (g.gl hg) (g.mgN hm) hv rfl hn hd) fun _ => .ty _
theorem n_bin {op : Operator} {o : OD} (ho : JB op o) (ha : JE U k n a wa) (hb : JE U k n b wb) : JE U k n (.BinOp a op b pos) (wOp o wa wb) := fun X W g => ue_op (fun _ _ _ _ h => h) (pe_op (ho X) (ha X W g) (hb X W g))
theorem n_cmp {op : CmpOp} {o : OD} (ho : JC op o) (ha : JE U k n a wa) (hb : JE U k n b wb) (hm : behindInMarks op b = false) : JE U k n (.Compare a [op] [b] pos) (wOp o wa wb) := fun X W g =>
  ue_op (fun _ _ _ _ h => h) (pe_cmpR (ho _ _ _ X W g) (ha X W g) (hb X W g) hm)
theorem n_chain {op op' : CmpOp} {o o' : OD} (ho : JC op o) (ho' : JC op' o') (ha : JE U k n a wa) (hb : JE U k n b wb) (hc : JE U k n c wc) (hm : lastMarks [op, op'] [b, c] = false) :
    JE U k n (.Compare a [op, op'] [b, c] pos) (wChain o o' wa wb wc) := fun X W g =>
  ue_chain (a := a) (b := b) (c := c) (pos := pos) (ho _ _ _ X W g) (ho' _ _ _ X W g) (pe_chain (ho _ _ _ X W g) (ho' _ _ _ X W g) (ha X W g) (hb X W g) (hc X W g) hm)
theorem n_neg (ha : JE U k n a wa) : JE U k n (.UnaryOp .USub a pos) (wUn dNeg wa) := fun X W g => ue_un (pe_un un_dNeg (ha X W g))
theorem n_not (ha : JE U k n a wa) : JE U k n (.UnaryOp .Not a pos) (wNotV wa) := fun X W g => ue_not (ha X W g)
theorem n_one {op : BoolOp} (ha : JE U k n a wa) : JE U k n (.BoolOp op [a] pos) wa := fun X W g => pe_one (ha X W g)
theorem n_and (ha : JE U k n a wa) (hb : JE U k n (.BoolOp .And (b :: es) pos) wb) : JE U k n (.BoolOp .And (a :: b :: es) pos) (wAndV wa wb) := fun X W g => ue_and (ha X W g) (hb X W g)
theorem n_or (ha : JE U k n a wa) (hb : JE U k n (.BoolOp .Or (b :: es) pos) wb) : JE U k n (.BoolOp .Or (a :: b :: es) pos) (wOrV wa wb) := fun X W g => ue_or (ha X W g) (hb X W g)
theorem n_ite {t : WB} (hc : JT U k n c t) (ha : JE U k n a wa) (hb : JE U k n b wb) : JE U k n (.IfExp c a b pos) (wIte t wa wb) := fun X W g => ue_ite (hc X W g) (ha X W g) (hb X W g)
theorem a_nil : JA U k n [] wNil := fun X W g => ua_nil
theorem a_cons (ha : JE U k n e wa) (hr : JA U k n es ws) (hs : noStar e = true) : JA U k n (e :: es) (wCons wa ws) := fun X W g => ua_cons (ha X W g) (hr X W g) (star_cons hs)
theorem n_tup {kk : Nat} (ha : JA U k n es ws) : JE U k n (.Tuple es kk pos) (wTup ws) := fun X W g => ue_tup (ha X W g)
theorem n_lst (ha : JA U k n es ws) : JE U k n (.List es pos) (wLst ws) := fun X W g => ue_lst (ha X W g)
theorem n_dct0 : JE U k n (.Dict [] [] pos) wDct0 := fun X W g => ue_dct0
theorem n_ix (ha : JE U k n a wa) (hb : JE U k n b wb) (hs : PlainIx b) : JE U k n (.Subscript a b pos) (wOp dIx wa wb) := fun X W g => ue_op (fun _ _ _ _ h => h) (pe_ix (ix_dIx g.hu) (ha X W g) (hb X W g) hs)
theorem n_call {sp : SpD} {j : Nat} (hf : FnHas U.P U.w U.K U.mg U.base j x sp) (hh : n.hot = false) (hj : j ≤ k) (hg : n.sc.names.lookup x = some .globalImplicit) (hdb : (x == ("__debug__" : Str)) = false) (ha : JA U k n (e :: es) ws) (hs : (e :: es).all noStar = true) :
    JE U k n (.Call (.Name x p) (e :: es) [] pos) (wCall sp ws) := fun X W g => by
  refine ue_call (k := j) ?_ ((g.room hh).mono hj) g.tk (g.gl hg) hdb (ha X W g) hs
  rw [g.eP, g.eW, g.eK, g.eM, g.eB]; exact hf
theorem n_call0 {sp : SpD} {j : Nat} (hf : FnHas U.P U.w U.K U.mg U.base j x sp) (hh : n.hot = false) (hj : j ≤ k) (hg : n.sc.names.lookup x = some .globalImplicit) (hdb : (x == ("__debug__" : Str)) = false) :
    JE U k n (.Call (.Name x p) [] [] pos) (wCall sp wNil) := fun X W g => by
  refine ue_call0 (k := j) ?_ ((g.room hh).mono hj) g.tk (g.gl hg) hdb
  rw [g.eP, g.eW, g.eK, g.eM, g.eB]; exact hf
theorem n_meth {alts : List (Str × SpD)} {j : Nat} (hf : ∀ q ∈ alts, MtHas U.P U.w U.K U.mg U.base j q.1 m q.2) (hh : n.hot = false) (hj : j ≤ k) (ho : JE U k n a wa) (ha : JA U k n (e :: es) ws) (hs : (e :: es).all noStar = true)
    (hb : isCall0 a = false) (hn : (e :: es).length < 29) (hl : (apos.endLine == pos.line) = true) : JE U k n (.Call (.Attribute a m apos) (e :: es) [] pos) (wMeth m alts wa ws) := fun X W g => by
  refine ue_meth (k := j) ?_ ((g.room hh).mono hj) g.tk (ho X W g) (ha X W g) hs hb hn hl
  rw [g.eP, g.eW, g.eK, g.eM, g.eB]; exact hf
theorem n_meth0 {alts : List (Str × SpD)} {j : Nat} (hf : ∀ q ∈ alts, MtHas U.P U.w U.K U.mg U.base j q.1 m q.2) (hh : n.hot = false) (hj : j ≤ k) (ho : JE U k n a wa)
    (hb : isCall0 a = false) (hl : (apos.endLine == pos.line) = true) : JE U k n (.Call (.Attribute a m apos) [] [] pos) (wMeth m alts wa wNil) := fun X W g => by
  refine ue_meth0 (k := j) ?_ ((g.room hh).mono hj) g.tk (ho X W g) hb hl
  rw [g.eP, g.eW, g.eK, g.eM, g.eB]; exact hf
/-- a built-in function, a built-in type, called -/
theorem n_blt {id : String} {o : CD} (hc : ∀ X W, Gd U k n X W → CallR X (.builtin id) (upC X o)) (hg : n.sc.names.lookup x = some .globalImplicit) (hm : U.mg x = none) (hv : bootBuiltins x = some (.builtin id)) (hn : x ≠ "__name__") (hd : (x == ("__debug__" : Str)) = false)
    (ha : JA U k n (e :: es) ws) (hs : (e :: es).all noStar = true) : JE U k n (.Call (.Name x p) (e :: es) [] pos) (wCl o ws) := fun X W g => by
  rw [List.all_cons, Bool.and_eq_true] at hs
  exact ue_cl (fun _ _ _ h => h) (pe_callB (hc X W g) (g.gl hg) (g.mgN hm) hv (ha X W g) hn hd (star_cons hs.1) (star_plain hs.2))
theorem n_bty {T : String} {o : CD} (hc : ∀ X W, Gd U k n X W → CallR X (.type T) (upC X o)) (hg : n.sc.names.lookup x = some .globalImplicit) (hm : U.mg x = none) (hv : bootBuiltins x = some (.type T)) (hn : x ≠ "__name__") (hd : (x == ("__debug__" : Str)) = false)
    (ha : JA U k n (e :: es) ws) (hs : (e :: es).all noStar = true) : JE U k n (.Call (.Name x p) (e :: es) [] pos) (wCl o ws) := fun X W g => by
  rw [List.all_cons, Bool.and_eq_true] at hs
  exact ue_cl (fun _ _ _ h => h) (pe_callTy (hc X W g) (g.gl hg) (g.mgN hm) hv (ha X W g) hn hd (star_cons hs.1) (star_plain hs.2))
/-! ### tests -/
theorem t_val (ha : JE U k n e wa) (he : ∀ env whole, isTrue e env whole = (do let v ← whole; standAt e.pos; holding [v] (truthy v))) : JT U k n e (wTru wa) := fun X W g => ub_tru (ha X W g) (he _)
theorem t_cmp {op : CmpOp} {o : OD} (ho : JC op o) (ha : JE U k n a wa) (hb : JE U k n b wb) (hm : behindInMarks op b = false) : JT U k n (.Compare a [op] [b] pos) (wBl (wOp o wa wb)) := fun X W g =>
  ub_bl ((pt_cmpR (r := upO X o) (ho _ _ _ X W g) (ha X W g) (hb X W g) hm).imp fun σ H Q z => by
    obtain ⟨ρ, M, Q0, E0, r, m, t, q, xg⟩ := z
    exact ⟨ρ, M, _, E0, r, m, t, fun d M1 t1 y H1 s1 rd m1 => ⟨ρ, M1, _, E0, r.stb s1, m1, t1, fun d2 M2 t2 y2 H2 s2 rd2 m2 => ⟨d, d2, M2, Q0, rd.stb s2, rd2, m2, t2, fun z M' qz v H' s' rz mz => q z M' qz v H' ((s1.trans s2).trans s') rz mz⟩, xg.stb s1⟩, xg⟩)
theorem t_not {t : WB} (ha : JT U k n e t) : JT U k n (.UnaryOp .Not e pos) (wNotB t) := fun X W g => (pt_not (ha X W g)).imp fun σ H Q z => upB_not z
theorem w_and1 {t : WB} (ha : JT U k n e t) : JW U k n (.BoolOp .And [e] pos) t := fun X W g => pw_and1 (ha X W g)
theorem w_or1 {t : WB} (ha : JT U k n e t) : JW U k n (.BoolOp .Or [e] pos) t := fun X W g => pw_or1 (ha X W g)
theorem w_and {t u : WB} (ha : JT U k n a t) (hb : JW U k n (.BoolOp .And (b :: es) pos) u) : JW U k n (.BoolOp .And (a :: b :: es) pos) (wAndB t u) := fun X W g => (pw_and (ha X W g) (hb X W g)).imp fun σ H Q z => upB_and z
theorem w_or {t u : WB} (ha : JT U k n a t) (hb : JW U k n (.BoolOp .Or (b :: es) pos) u) : JW U k n (.BoolOp .Or (a :: b :: es) pos) (wOrB t u) := fun X W g => (pw_or (ha X W g) (hb X W g)).imp fun σ H Q z => upB_or z
theorem t_w {t : WB} (h : JW U k n e t) : JT U k n e t := fun X W g => ⟨fun pins s σ H Q I z => (h X W g).run _ pins s σ H Q I z⟩
end
end Fg
/-! Fg10: statements, targets, walks, comprehensions by form; a def of the text keeps its promise. -/
namespace Fg
open PySem PySem.Spec L2
open PyProof.Rows hiding St
section
variable {U : Ud} {k : Nat} {n : Nm} {e a b c tg iter elt : Expr} {es : List Expr} {pos pos' p apos : Pos} {x m f cl : Str} {wa wb wc w : WE} {ws : WA} {st : Stmt} {sts body : List Stmt} {t u : WS} {wi : WI} {g : WG} {gs : List WG} {i j : Nat} {R : SR}
/-! ### attributes -/
theorem n_att (h : AtOk U.K cl f) (ha : JE U k n e wa) (hb : isCall0 e = false) : JE U k n (.Attribute e f pos) (wAtt cl f wa) := fun X W g => ue_att (by rw [g.eK]; exact h) (pe_fld (ha X W g) (base_of hb))
/-! ### targets -/
theorem g_nm (hi : n.N[i]? = some x) (hx : Sto n x) (hR : ∀ σ v, R σ (σ.set i v)) : JG U k n R (.Name x pos) (gNm i) := fun X W g => ug_nm (pg_name g.nm (g.ix hi) (g.loc hx.loc) (g.st hx)) hR
theorem gs_nil (hr : ∀ σ, R σ σ) : JGs U k n R [] [] := fun X W g => ugs_nil hr
theorem gs_cons (ht : ∀ a b c, R a b → R b c → R a c) (h1 : JG U k n R e g) (h2 : JGs U k n R es gs) (hs : ∀ env, (assignEach (e :: es) env).map (·.2) = assign e env :: (assignEach es env).map (·.2)) : JGs U k n R (e :: es) (g :: gs) := fun X W g => ugs_cons ht (h1 X W g) (h2 X W g) (hs _)
theorem g_tp {kk : Nat} (hh : n.hot = false) (h : JGs U k n R es gs) (hn : ∀ env, (assignEach es env).length = gs.length) (hst : ∀ env, (assignEach es env).findIdx? (·.1) = none) : JG U k n R (.Tuple es kk pos) (gTp gs) := fun X W g => ug_tp (g.calm hh) (h X W g) (hn _) (hst _)
theorem g_sub (ha : JE U k n a wa) (hb : JE U k n b wb) (hf : ∀ env v, assign (.Subscript a b pos) env v = (do
      let ov ← holding [v] (eval a env)
      let iv ← holding [v, ov] (eval b env)
      standAt pos
      holding [v, ov, iv] (setItem ov iv v)
      release [v, ov, iv] [])) : JG U k n anyR (.Subscript a b pos) (gSubD wa wb) := fun X W g => ug_sub (pg_sub (ha X W g) (hb X W g) (set_dSetI g.hu) (hf _))
/-! ### walks -/
theorem i_walk (h : JE U k n e w) : JI U k n tg e (wWalk w) := fun X W g => ui_walk (h X W g)
theorem i_rng1 (hg : n.sc.names.lookup ("range" : Str) = some .globalImplicit) (hm : U.mg "range" = none) (h : JA U k n [a] ws) (hs : noStar a = true) : JI U k n tg (.Call (.Name "range" p) [a] [] pos) (wRng1 ws) := fun X W g => ui_rng1 (pi_range1 (g.gl hg) (g.mgN hm) (h X W g) (star_cons hs))
theorem i_rng2 (hg : n.sc.names.lookup ("range" : Str) = some .globalImplicit) (hm : U.mg "range" = none) (h : JA U k n [a, b] ws) (hs : noStar a = true) (hs2 : noStar b = true) : JI U k n tg (.Call (.Name "range" p) [a, b] [] pos) (wRng2 ws) := fun X W g =>
  ui_rng2 (pi_range2 (g.gl hg) (g.mgN hm) (h X W g) ((star_cons hs).trans (congrArg _ (star_cons hs2))) (star_cons hs2))
/-! ### statements -/
theorem s_nil : JSs U k n [] wNext := fun X W g => us_nil
theorem s_cons (h1 : JS U k n st t) (h2 : JSs U k n sts u) : JSs U k n (st :: sts) (wSeq t u) := fun X W g => us_cons (h1 X W g) (h2 X W g)
theorem s_if {t' : WB} (hc : JT U k n c t') (ha : JSs U k n sts t) (hb : JSs U k n body u) : JS U k n (.If c sts body pos) (wIfS t' t u) := fun X W g => us_if (hc X W g) (ha X W g) (hb X W g)
theorem s_ret (h : JE U k n e w) : JS U k n (.Return (some e) pos) (wRet w) := fun X W g => us_ret (h X W g)
theorem s_retN : JS U k n (.Return none pos) wRetN := fun X W g => us_retN
theorem s_pass : JS U k n (.Pass pos) wNext := fun X W g => us_pass
theorem s_brk : JS U k n (.Break pos) wBrk := fun X W g => us_brk
theorem s_cnt : JS U k n (.Continue pos) wCnt := fun X W g => us_cnt
theorem s_expr (h : JE U k n e w) (hs : isComp e = false) : JS U k n (.Expr e pos) (wDrop w) := fun X W g => us_expr (h X W g) (swap_no hs)
theorem s_set (hi : n.N[i]? = some x) (hx : Sto n x) (h : JE U k n e w) (hs : isComp e = false) : JS U k n (.Assign [.Name x pos'] e pos) (wAsg w (gNm i)) := fun X W g => us_set g.nm (g.ix hi) (g.loc hx.loc) (h X W g) (swap_no hs) (g.st hx)
theorem s_asg (h : JE U k n e w) (hg : JG U k n anyR tg g) (hs : ∀ env, swapsWithSole [tg] e pos.line env = pure false) (hw : ∀ env, swappedStores [tg] e env = pure none) (h1 : ∀ env, (assignEach [tg] env).map (·.2) = [assign tg env]) :
    JS U k n (.Assign [tg] e pos) (wAsg w g) := fun X W g => us_asg (h X W g) (hg X W g) (hs _) (hw _) (h1 _)
theorem s_att (hk : AtOk U.K cl f) (ha : JE U k n a wa) (h : JE U k n e w) (hs : isComp e = false) : JS U k n (.Assign [.Attribute a f pos'] e pos) (wAsg w (gAtt cl f wa)) := fun X W g => us_att (by rw [g.eK]; exact hk) (ps_fld (ha X W g) (h X W g) (swap_no hs))
theorem s_for (hh : n.hot = false) (hi : JI U k n tg iter wi) (hg : JG U k n anyR tg g) (hb : JSs U k n body t) (hs : isSet iter = false) : JS U k n (.For tg iter body [] pos) (wFor wi g t) := fun X W g => us_for (g.po hh) (g.calm hh) (hi X W g) (hg X W g) (hb X W g) (fold_no hs)
theorem s_while {t' : WB} (hh : n.hot = false) (hc : JT U k n c t') (hb : JSs U k n body t) : JS U k n (.While c body [] pos) (wWhile t' t) := fun X W g => us_while (g.po hh) (hc X W g) (hb X W g)
/-! ### comprehensions -/
def Nm.blk (n : Nm) (scope : Scope) : Nm := ⟨n.N, relS scope n.sc, fun x => scope.names.lookup x == some .cell, false, none, false⟩
theorem Gd.blk {X : Cx} {W : WX} (g : Gd U k n X W) (hh : n.hot = false) (s : Shared) (H : Hp) (scope : Scope) (C : Addr) (cl : List (Str × Addr)) (fp : List Addr) : Gd U k (n.blk scope) (X.blk s H scope (compEnvC scope cl C X.env) fp) W0 := by
  have e : (compEnvC scope cl C X.env).scope = relS scope X.env.scope := rfl
  refine ⟨g.eP, g.eW, g.eK, g.eM, g.eB, g.eN, by rw [e, g.eS]; rfl, g.nd, fun _ => g.calm hh, fun _ => g.room hh, g.hu, takes0N, fun _ _ _ h => h.elim, fun _ _ _ h => (nomatch h), fun h => (nomatch h), fun h => (nomatch h), fun _ h => h⟩
/-- a clause's test -/
def JTs (U : Ud) (k : Nat) (n : Nm) (ts : List Expr) (w : WB) : Prop := ∀ X W, Gd U k n X W → PTs X ts (upB X W w)
def wYes : WB := fun _ M Q _ => Q true M
theorem ts_nil : JTs U k n [] wYes := fun X W g => ⟨fun pins s σ H Q I ⟨ρ, M, Q0, E0, r, m, t, q, xg⟩ => pts_nil.run pins s σ H Q I (q true M t H (Stb.refl H) m)⟩
theorem ts_one {t : WB} (h : JT U k n c t) : JTs U k n [c] t := fun X W g => pts_one (h X W g)
/-- whether the name is stored ahead of the block's end -/
def swB (sc scope : Scope) (x : Str) (py p : Pos) : Bool :=
  (if sc.kind.isAnnotationScope then ScopeKind.function else sc.kind) == ScopeKind.function && sc.names.lookup x == some NameKind.local && py.line == p.line && !(scope.names.any fun (n, k) => n == x && (k == NameKind.local || k == NameKind.cell))
theorem swap_lc {gs : List Comprehension} {scope : Scope} {py : Pos} {l : Nat} {env : PySem.Env} (h : env.scope = n.sc) : swapsWith (.ListComp elt gs scope pos) (some (.Name x py)) l env = pure (swB n.sc scope x py pos) := by
  unfold swapsWith swB PySem.Env.blockKind PySem.Env.kindOf
  rw [h]
  rfl
theorem swap_lcN {gs : List Comprehension} {scope : Scope} {l : Nat} {env : PySem.Env} {o : Expr} (h : (match o with | .Name _ _ => false | _ => true) = true) : swapsWith (.ListComp elt gs scope pos) (some o) l env = pure false := by
  cases o <;> first | rfl | cases h
section
variable {scope : Scope} {own : List (Str × Nat)} {tt : WB}
theorem n_lc (hh : n.hot = false) (ok : blkC n.N n.sc scope own = true) (hi : JI U k n tg iter wi) (hg : JG U k (n.blk scope) (ownR (own.map (·.2))) tg g) (ht : JTs U k (n.blk scope) es tt) (he : JE U k (n.blk scope) elt w) (hs : isSet iter = false) :
    JE U k n (.ListComp elt [⟨tg, iter, es, 0⟩] scope pos) (wLc wi (own.map (·.2)) g tt w) := fun X W g' =>
  (pe_lc (g := upGR X W0 (ownR (own.map fun (p : Str × Nat) => p.2)) g) (tt := upB X W0 tt) (te := upE X W0 w) (g'.calm hh) g'.nm (hi X W g') (by have := blkOk_by ok; rw [← g'.eN, ← g'.eS] at this; exact this) (fun s H C cl fp => hg _ _ (g'.blk hh s H scope C cl fp)) (fun s H C cl fp => ht _ _ (g'.blk hh s H scope C cl fp)) (fun s H C cl fp => he _ _ (g'.blk hh s H scope C cl fp)) (fold_no hs)).imp
    fun σ H Q z => tLc_of z
theorem s_lc {py spos : Pos} (hh : n.hot = false) (hi : n.N[i]? = some x) (hx : n.sc.names.lookup x = some .local) (hsw : swB n.sc scope x py pos = true) (ok : blkC n.N n.sc scope own = true) (hw : JI U k n tg iter wi) (hg : JG U k (n.blk scope) (ownR (own.map (·.2))) tg g)
    (ht : JTs U k (n.blk scope) es tt) (he : JE U k (n.blk scope) elt w) (hs : isSet iter = false) :
    JS U k n (.Assign [.Name x py] (.ListComp elt [⟨tg, iter, es, 0⟩] scope pos) spos) (wAsg (wLc wi (own.map (·.2)) g tt w) (gNm i)) := fun X W g' => by
  have hb : BlkOk X.N X.env.scope scope own := by have := blkOk_by ok; rw [← g'.eN, ← g'.eS] at this; exact this
  have hsw' : swapsWith (.ListComp elt [⟨tg, iter, es, 0⟩] scope pos) (some (.Name x py)) spos.line X.env = pure true := (swap_lc g'.eS).trans (congrArg _ hsw)
  refine (ps_setLc (g := upGR X W0 (ownR (own.map fun (p : Str × Nat) => p.2)) g) (tt := upB X W0 tt) (te := upE X W0 w) (g'.calm hh) g'.nm (g'.ix hi) (by rw [g'.eS]; exact hx) hsw' (hw X W g') hb (fun s H C cl fp => hg _ _ (g'.blk hh s H scope C cl fp)) (fun s H C cl fp => ht _ _ (g'.blk hh s H scope C cl fp)) (fun s H C cl fp => he _ _ (g'.blk hh s H scope C cl fp)) (fold_no hs)).imp fun B σ H z => ?_
  obtain ⟨ρ, M, N, E0, r, m, z, gg, xg⟩ := z
  exact tLc_of (X := X) (W := W) ⟨ρ, M, _, _, r, m, z, fun d M1 z1 y H1 s1 rd m1 => gg.nx _ M1 z1 _ H1 s1 ((r.stb s1).set rd) m1, xg.at_ r⟩
/-- .. the name a cell, or on another line -/
theorem s_lc' {py spos : Pos} (hi : n.N[i]? = some x) (hx : Sto n x) (hsw : swB n.sc scope x py pos = false) (he : JE U k n (.ListComp elt [⟨tg, iter, es, 0⟩] scope pos) w) :
    JS U k n (.Assign [.Name x py] (.ListComp elt [⟨tg, iter, es, 0⟩] scope pos) spos) (wAsg w (gNm i)) := fun X W g' =>
  us_set g'.nm (g'.ix hi) (g'.loc hx.loc) (he X W g') ((swap_lc g'.eS).trans (congrArg _ hsw)) (g'.st hx)
end
end
/-! ### a def's promise -/
def startD (N : List Str) (ds : List D) : En := ds.map some ++ List.replicate (N.length - ds.length) none
theorem re_start {K : PySem.W.Frag} {H : Hp} {N : List Str} {ds : List D} {vs : List V} (h : RDs K H ds vs) : RE K H (startD N ds) (L2.start N vs) := by
  have hl := h.length
  refine ⟨by simp [startD, L2.start, hl], fun i d e => ?_⟩
  unfold startD at e
  unfold L2.start
  by_cases hi : i < ds.length
  · rw [List.getElem?_append_left (by simpa using hi), List.getElem?_map] at e
    cases q : ds[i]? with
    | none => rw [q] at e; cases e
    | some d' =>
      rw [q] at e
      cases e
      obtain ⟨v, h1, h2⟩ := h.get q
      exact ⟨v, by rw [List.getElem?_append_left (by simpa using hl ▸ hi), List.getElem?_map, h1]; rfl, h2⟩
  · rw [List.getElem?_append_right (by simpa using hi), List.getElem?_replicate] at e
    split at e <;> cases e
def spW (N : List Str) (m : Nat) (w : WS) : SpD := fun ds M Q E => ds.length = m ∧ w (startD N ds) M { nx := fun _ M' => Q .non M', rt := Q } fun x _ M' => E x M'
section
variable {U : Ud} {k : Nat} {N ps : List Str} {x qual : Str} {params : Arguments} {body : List Stmt} {scope : Scope} {f : Addr} {fd : FuncData} {w : WS}
theorem fn_okD (F : FunD U.K x qual params body scope [] [] f fd) (S : FnScope N ps scope) (h : JSs U k ⟨N, scope, fun _ => true, false, none, true⟩ body w) :
    FnOk U.P U.w U.K U.mg U.base (L2N.CX U.P U.w) (k + 1) f fd ps (upSp U.K U.w (spW N ps.length w)) := by
  refine F.ok S (fun vs H Q E z => ?_) (fun cdv A outer s H vs Q E hr z => ?_)
  · obtain ⟨ds, M, Q0, E0, rd, m, z, q, xg⟩ := z
    rw [← rd.length]; exact z.1
  · obtain ⟨ds, M, Q0, E0, rd, m, z, q, xg⟩ := z
    refine ⟨_, h (cxOf (L2N.CX U.P U.w) U.P U.w U.K U.mg U.base N qual scope f cdv A outer s H E) (fun cls d _ H => E cls d H) ⟨rfl, rfl, rfl, rfl, rfl, rfl, rfl, S.nd, fun _ => rfl, fun _ => hr, Nat.lt_of_le_of_lt (show (A.deeper (envOfC qual scope s.heap.objs.size f cdv)).units + 64 ≤ _ by omega) hr.un, L2N.takes_of rfl rfl rfl rfl, fun _ => passes_of rfl, fun _ _ _ h => (nomatch h), fun h => (nomatch h), fun _ => ⟨rfl, rfl⟩, fun _ _ => rfl⟩, ?_⟩
    exact ⟨_, M, _, _, re_start rd, m, z.2, ⟨fun ρ' M' z σ' H' s' r' m' => q _ M' z _ H' s' .non m', fun d M' z y H' s' rd' m' => q d M' z y H' s' rd' m', fun _ _ z => z.elim, fun _ _ z => z.elim⟩, fun x ρ' M' z cls d σ' H' s' r' x' m' => xg x M' z cls d H' s' x' m'⟩
theorem fn_at (F : FunD U.K x qual params body scope [] [] f fd) (S : FnScope N ps scope) (hb : ∀ (kV doc pm : Value) (an : Option Addr) (cdv ct : Value) (us : List Value), us.length = ps.length → bindArgs (PySem.W.fnOf x qual params body scope .none kV doc pm an cdv ct) ⟨us, []⟩ = pure (ps.zip us))
    (h : JSs U k ⟨N, scope, fun _ => true, false, none, true⟩ body w) : FnAt U.P U.w U.K U.mg U.base (k + 1) f (spW N ps.length w) :=
  ⟨fd, ps, fn_okD F S h, F.kp, F.bindsN hb⟩
end
end Fg
/-! Fg11: an exception of one's own that is made by super().__init__(text); self.f = x. -/
namespace Fg
open PySem PySem.Spec L2
open PyProof.Rows hiding St
/-- what its __init__ is in words -/
structure InitW where
  qual : Str
  sf : Arg
  ar : Arg
  p0 : Pos
  p1 : Pos
  p2 : Pos
  p3 : Pos
  p4 : Pos
  p5 : Pos
  p6 : Pos
  p7 : Pos
  p8 : Pos
  p9 : Pos
  z : Str
  j : Nat
  f : Str
  scope : Scope
def InitW.params (W : InitW) : Arguments := { posonlyargs := [], args := [W.sf, W.ar], vararg := none, kwonlyargs := [], kw_defaults := [], kwarg := none, defaults := [] }
def InitW.body (W : InitW) : List Stmt :=
  [.Expr (.Call (.Attribute (.Call (.Name "super" W.p0) [] [] W.p1) "__init__" W.p2) [.Constant (.str W.z) W.j W.p3] [] W.p4) W.p5,
   .Assign [.Attribute (.Name W.sf.arg W.p6) W.f W.p7] (.Name W.ar.arg W.p8) W.p9]
structure ExI (P : Program) (K : PySem.W.Frag) (mg : Str → Option Value) (C : Addr) (W : InitW) : Prop where
  cls : PySem.W.excInitIn K C PySem.ESX.exTail "Exception.__new__" = true
  dct : (PySem.W.clsIn K C).any (·.hasDict) = true
  sa : (PySem.W.findIn K (.ref C) "__setattr__") = some (some (.builtin "object.__setattr__"))
  noat : PySem.W.findIn K (.ref C) W.f = some none
  exC : (PySem.W.subIn K (.ref C) (.type "BaseException")) = some true
  exE : PySem.W.subIn K (.ref C) (.type "Exception") = some true
  slf : PySem.W.mroIn K C (.ref C) = some true
  tyC : (PySem.W.typeIn K (.ref C)) = some (.type "type")
  kC : (PySem.W.keepIn K (.ref C)) = true
  sup : PySem.W.ks_superIn K C C "__init__" = some (some (.builtin "Exception.__init__"))
  sup0 : mg "super" = none
  sta : PySem.W.nsIn K cStatics "thirdparty.any" = some none
  top : (P.main.scope.names.lookup ("super" : Str)).isSome = false
  kind : W.scope.kind = .function
  co : W.scope.isCoroutine = false
  gen : W.scope.isGenerator = false
  nocell : ∀ y ∈ W.scope.names, y.2 ≠ .cell
  ksf : W.scope.names.lookup W.sf.arg = some .local
  kar : W.scope.names.lookup W.ar.arg = some .local
  ksu : W.scope.names.lookup ("super" : Str) = some .globalImplicit
  kcl : W.scope.names.lookup ("__class__" : Str) = some .free
  ne : W.sf.arg ≠ W.ar.arg
  d1 : (W.sf.arg == ("__debug__" : Str)) = false
  d2 : (W.ar.arg == ("__debug__" : Str)) = false
  ln : (W.p2.endLine == W.p4.line) = true
  fn : ∃ (fI cc cda : Addr) (kV doc pm ct oc occ ocl : Value) (an od odc odl : Option Addr) (osl osc osk : Array (Option Value)) (vs : Array Value) (file : Str) (tf : Tok),
    PySem.W.findIn K (.ref C) "__init__" = some (some (.ref fI)) ∧ PySem.W.typeIn K (.ref fI) = some (.type "function") ∧
    K.lookup fI = some ⟨oc, od, .func (PySem.W.ksFn "__init__" W.qual W.params W.body W.scope .none kV doc pm an (.ref cda) ct cc), osl⟩ ∧ PySem.W.codeIn K (.ref cda) W.qual = true ∧
    K.lookup cc = some ⟨ocl, odl, .cell (some (.ref C)), osk⟩ ∧ K.lookup cda = some ⟨occ, odc, .fields vs, osc⟩ ∧ vs[2]? = some (.str file tf) ∧ ((P.main.file : Str) == file) = true
/-- how o.m(..) is evaluated, o of any form -/
theorem meth_eq0 {o : Expr} {m : Str} {es : List Expr} {apos pos : Pos} {env : PySem.Env} (hs : es.all noStar = true) (hn : es.length < 29) (hl : (apos.endLine == pos.line) = true) :
    eval (.Call (.Attribute o m apos) es [] pos) env = (do
      let ov ← attributeBase o m env (eval o env)
      standAt apos.atName
      let (f, first) ← holding [ov] (getMethod ov m (do return (← importBound o env).getD true))
      callWith pos f first (backTo pos (starEach es env)) []) := by
  have hform : methodCallForm (es.length + ([] : List Keyword).length) (backTo pos (starEach es env)) (backToKw pos (keywordEach [] env)) = true := by
    unfold methodCallForm
    rw [star_allN hs]
    simp [keywordEach, backToKw]
    omega
  have hpos : methodCallPos true o env apos pos = pure pos := by unfold methodCallPos; simp [hl]
  rw [arm_eval_Call]
  unfold methodCall calleeOf
  rw [hform, hpos]
  simp [keywordEach, backToKw]
section
variable {prog : Program} {w : World} {A : Around} {R : Result → Shared → Prop} {g : Array GenState} {dr : Drawn} {n : Nat} {os : OsState} {h0 : Heap}
/-- what a first field leaves: the object at x has a dict of its own, the rest stands -/
structure Put (C x : Addr) (fv : Array Value) (f : Str) (v : Value) (h0 h1 : Heap) (dx : Addr) : Prop where
  rest : ∀ b o, b ≠ x → h0.get? b = some o → h1.get? b = some o
  far : h0.objs.size ≤ dx
  ne : dx ≠ x
  obj : h1.get? x = some { cls := .ref C, dict := some dx, data := .fields fv }
  ns : h1.Ns1 dx fun y => if y = f then some v else none
/-- self.f = v, the first one, over any own classes and Exception -/
theorem osa_first {K : PySem.W.Frag} {f : Str} {tk : Tok} {v : Value} {x C : Addr} {fv : Array Value} {cd : ClassData} {up : List Value} (X : K.In h0) (at_ : h0.get? x = some { cls := .ref C, data := .fields fv }) (cl : PySem.W.clsIn K C = some cd)
    (m1 : cd.mro = .ref C :: up) (m2 : PySem.W.excTail PySem.ESX.exTail up = true) (dct : cd.hasDict = true) (no : PySem.W.findIn K (.ref C) f = some none) (then_ : ∀ h1 t1 dx, Put C x fv f v h0 h1 dx → R (.ok (.ret .none)) ⟨h1, g, dr, t1, os⟩) :
    codeAny (model prog w) A (.call (.builtin "object.__setattr__") ⟨[.ref x, .str f tk, v], []⟩) R ⟨h0, g, dr, n, os⟩ := by
  have inst : PySem.W.InstAt h0 x { cls := .ref C, data := .fields fv } C none := ⟨at_, rfl, rfl, trivial⟩
  have facts := F.store_object
  have isObj : cd.mro.contains (.type "object") = true := by
    have up1 : up.contains (.type "object") = true := (PySem.W.excTail_contains "object" _ m2).trans (by decide +kernel)
    rw [m1, List.contains_cons, up1, Bool.or_true]
  have passes : refuseLoop (.ref x) "__setattr__" cd.mro = pure () := by
    rw [m1, refuseLoop_ref, PySem.W.excTail_pass _ (F.store_Exception.passes _) _ m2]
  have apart : x ≠ h0.objs.size := Nat.ne_of_lt (Heap.lt_size at_)
  have subObj : PySem.W.Looks (model prog w) h0 (isInstance (.ref x) (.type "object")) true := inst.type.andThen (PySem.W.looks_mroIn X (by unfold PySem.W.mroIn; rw [cl, Option.bind_some, if_neg (by rw [m1]; exact Bool.false_ne_true), isObj]))
  have lookC : PySem.W.Looks (model prog w) h0 (classData C) cd := PySem.W.looks_clsIn X cl
  have lookM : PySem.W.Looks (model prog w) h0 (mroOf (.ref C)) cd.mro := lookC.andThen .now
  refine codeAny_call_builtin facts.slot.plain facts.entry (@PySem.W.check_slot (model prog w) _ _ ⟨h0, g, dr, n, os⟩ "object.__setattr__" "object" "__setattr__" (.ref x) [.str f tk, v] [] _ facts.kind facts.split subObj (facts.args (.ref x) (.str f tk) v) ?_)
  rw [PySem.W.osa_eq, refuse_eq]
  have later := show PySem.W.Looks (model prog w) h0 (Builtin.ObjectAttr.storeTaker? none) none from .now
  apply wpAny_bind
  refine wpAny_bind (inst.type.at (wpAny_bind (lookM.at ?step)))
  rw [passes]
  refine wpAny_pure (wpAny_bind (inst.type.at (wpAny_bind ((PySem.W.looks_findIn X no).at (wpAny_bind (later.at ?own))))))
  case own =>
    show wpAny _ _ (Builtin.ObjectAttr.storeInOwnDict (.ref x) (.ref C) (.str f tk) f v false) _ _ _
    cases cd with
    | mk c1 c2 c3 c4 c5 c6 c7 c8 c9 c10 c11 =>
      cases (show c6 = true from dct)
      unfold Builtin.ObjectAttr.storeInOwnDict Builtin.ObjectAttr.ownDictForStores
      repeat (first | with_reducible refine PySem.HandSPX.store_in_new ?_ ?_ | with_reducible refine wpAny_loadPart_at at_ ?_ | with_reducible refine lookC.at ?_ | wp_step)
      · exact ⟨_, #[], _, (Heap.get?_update_ne _ _ _ _ (Ne.symm apart)).trans (Heap.get?_push_at rfl rfl), rfl, fun e he => absurd he (by simp), fun _ => rfl⟩
      · intro h1 t1 ns1 same
        have pushed : (h0.push { cls := .type "dict", data := .dict #[] }).get? x = some { cls := .ref C, data := .fields fv } := Heap.get?_push_of_some _ at_
        exact then_ h1 t1 _ ⟨fun b o hb ho => ((same.2 b (Nat.ne_of_lt (Heap.lt_size ho))).trans ((Heap.get?_update_ne _ _ _ _ hb).trans (Heap.get?_push_of_some _ ho))), Nat.le_refl _, Ne.symm apart, (same.2 x apart).trans (Heap.get?_update_self _ pushed rfl), ns1⟩
end
section
variable {P : Program} {w : World} {A : Around} {R : Result → Shared → Prop} {hp : Heap} {g : Array GenState} {d : Drawn} {t : Nat} {os : OsState} {K : PySem.W.Frag} {mg mb : Str → Option Value} {C e t0 : Addr} {W : InitW} {u : Value}
theorem binds2 {a b : Arg} {v u : Value} (n1 n2 : Str) (n4 : FuncBody) (n5 : Scope) (n6 : Addr) (n7 : List (Str × Addr)) (n9 n10 n11 : Value) (n12 : Option Addr) (n13 n14 : Value) (n15 : Addr) (hne : a.arg ≠ b.arg) :
    bindArgs { name := n1, qualname := n2, params := { posonlyargs := [], args := [a, b], vararg := none, kwonlyargs := [], kw_defaults := [], kwarg := none, defaults := [] }, body := n4, scope := n5, globals := n6, closure := n7, defaults := .none, kwdefaults := n9, doc := n10, pyModule := n11, annotations := n12, code := n13, closureTuple := n14, builtins := n15 } ⟨[v, u], []⟩ = pure [(a.arg, v), (b.arg, u)] := by
  have e2 : (b.arg == a.arg) = false := beq_eq_false_iff_ne.mpr (Ne.symm hne)
  have e0 : seqItems? Value.none = pure none := rfl
  simp [bindArgs, e0, List.lookup, e2]
theorem exc_cls {K : PySem.W.Frag} {C : Addr} {ups : List Value} {new : String} (q : PySem.W.excInitIn K C ups new = true) : ∃ cd r, PySem.W.clsIn K C = some cd ∧ cd.mro = .ref C :: r ∧ PySem.W.excTail ups r = true := by
  unfold PySem.W.excInitIn at q
  split at q <;> try cases q
  rename_i _ cd _ lk
  split at q <;> try cases q
  rename_i D r _ _ _ _ _ _ em _
  have z := He.ba q
  have e : D = C := beq_iff_eq.mp (He.ba (He.ba z.1).1).1
  exact ⟨cd, r, by unfold PySem.W.clsIn; rw [lk], by rw [em, e], z.2⟩
theorem ld_loc {M : Model} {E : Value → Shared → Prop} {s : Shared} {env : PySem.Env} {m : Str → Option Value} {x : Str} {pos : Pos} {v : Value} {Q : Value → Shared → Prop} (hk : env.scope.kind = .function) (hl : env.kindOf x = some .local) (hn : s.heap.Ns env.locals m) (hv : m x = some v) (hd : (x == ("__debug__" : Str)) = false)
    (h : Q v s) : wpAny M A (eval (.Name x pos) env) Q E s := wpAny_Name (wpAny_loadName_local hk hl hn hv h) hd
/-- __init__ runs -/
theorem init_run (T : ExI P K mg C W) (X : K.In hp) (hlim : hp.NoLimit) (hroom : A.depth < recursionLimit) (he : hp.get? e = some (PySem.HandSPX.excO C t0)) (hKe : K.lookup e = none) (hg : hp.Ns mainGlobals mg) (hb : hp.Ns builtinsNs mb) (hmb : ∀ x : Str, x ≠ "__name__" → mb x = bootBuiltins x) {fI : Addr}
    (hf : PySem.W.findIn K (.ref C) "__init__" = some (some (.ref fI)))
    (hq : ∀ h' t' dx t1, (∀ b o, b ≠ e → hp.get? b = some o → h'.get? b = some o) → hp.objs.size ≤ dx → dx ≠ e → h'.get? e = some ({ cls := .ref C, dict := some dx, data := .fields #[.ref t1, .none, .none, .none, .bool false, .none] } : Obj) →
      h'.Ns1 dx (fun y => if y = W.f then some u else none) → R (.ok (.ret .none)) ⟨h', g, d, t', os⟩) :
    codeAny (model P w) A (.call (.ref fI) ⟨[.ref e, u], []⟩) R ⟨hp, g, d, t, os⟩ := by
  obtain ⟨fI', cc, cda, kV, doc, pm, ct, oc, occ, ocl, an, od, odc, odl, osl, osc, osk, vs, file, tf, f1, f2, f3, f4, f5, f6, f7, f8⟩ := T.fn
  obtain rfl : fI' = fI := by
    have z := f1.symm.trans hf
    injection z with z
    injection z with z
    injection z
  have ho := X _ _ f3
  refine PySem.ks_codeAny_call_defAt (binds := [(W.sf.arg, .ref e), (W.ar.arg, u)]) hroom ho rfl hlim (PySem.W.codeRec_of X f4) rfl (BindsTo.of_eq (binds2 _ _ _ _ _ _ _ _ _ _ _ _ _ T.ne)) T.nocell (fun y hy => ?_) (fun h0 hns k0 => ?_) T.co T.gen T.kind
  · rcases List.mem_cons.mp hy with rfl | hy
    · exact T.ksf
    · rcases List.mem_cons.mp hy with rfl | hy
      · exact T.kar
      · cases hy
  have nsL : ∀ {b : Addr} {o : Obj}, hp.get? b = some o → b ≠ hp.objs.size := fun q => Nat.ne_of_lt (Heap.lt_size q)
  generalize hL : hp.objs.size = L at *
  have X0 : K.In h0 := X.keeps k0
  have v1 : ([(W.sf.arg, Value.ref e), (W.ar.arg, u)] : List (Str × Value)).reverse.lookup W.sf.arg = some (.ref e) := by
    have e2 : (W.sf.arg == W.ar.arg) = false := beq_eq_false_iff_ne.mpr T.ne
    simp [List.lookup, e2]
  have v2 : ([(W.sf.arg, Value.ref e), (W.ar.arg, u)] : List (Str × Value)).reverse.lookup W.ar.arg = some u := by
    simp [List.lookup]
  have I0 : PySem.W.InstAt h0 e (PySem.HandSPX.excO C t0) C none := ⟨k0 _ _ he, rfl, rfl, trivial⟩
  obtain ⟨nm, N', qn, bs, bm, hdct, sn, sub, ab, col, dd, k0', k1, k2, k3, k5, hC, hT⟩ := PySem.W.excInit_of X0 T.cls
  obtain ⟨cd, hcd, hal⟩ := Option.bind_eq_some_iff.mp T.sup
  have sz : ∀ {h : Heap}, (∀ b o, h0.get? b = some o → h.get? b = some o) → L < h.objs.size := fun k => by
    obtain ⟨oL, es, ep, hLo, _⟩ := hns
    exact Heap.lt_size (k _ _ hLo)
  have hint : interactive (PySem.W.ksEnv W.qual W.scope L fI' (.ref cda) cc) = false := by
    unfold interactive
    rw [show (PySem.W.ksEnv W.qual W.scope L fI' (.ref cda) cc).scope.kind = .function from T.kind]
    rfl
  refine PySem.ks_wpAt_execs_cons (PySem.ks_wpAt_Expr_any (PySem.ks_wpAt_MethodCall ?_ (meth_eq0 rfl (by show 1 < 29; decide) T.ln)) hint rfl)
  refine PySem.ks_wpAt_super_base (env := PySem.W.ksEnv W.qual W.scope L fI' (.ref cda) cc) T.ksu T.kcl (by decide) rfl (X0 _ _ f3) rfl rfl rfl (X0 _ _ f6) rfl f7 f8 T.top ?_
  refine PySem.W.ks_loadName_global T.kind T.ksu (Calls.loadGlobal_builtin (hg.keeps k0) T.sup0 (hb.keeps k0) ((hmb _ (by decide)).trans (show bootBuiltins "super" = some (.type "super") by decide +kernel)) ⟨rfl, ?_⟩)
  refine wpAny_loadName_free T.kind T.kcl rfl ⟨_, X0 _ _ f5, rfl⟩ ?_
  refine wpAny_loadName_local T.kind T.ksf hns v1 ?_
  refine ks_wpAny_isType_cls hC rfl ⟨rfl, ?_⟩
  refine ks_wpAny_call_super hC rfl I0.at_ I0.cls (fun c z => nomatch z) (PySem.W.looks_mroIn X0 T.slf) (fun h1 e1 k1 => ?_)
  have X1 : K.In h1 := X0.keeps k1
  have hec : e ≠ C := fun z => by
    have z2 := I0.at_
    rw [z, hC] at z2
    cases z2
  refine PySem.W.kxs_getMethod PySem.W.kxs_Exception e1 (PySem.W.looks_opaque X1 T.sta) (l₀ := cd.mro) ((PySem.W.looks_clsIn X1 hcd).andThen .now) rfl X1 hal ?_ hec (by decide) ?_
  · exact (PySem.W.InstAt.type (h := h1) (od := none) ⟨k1 _ _ I0.at_, rfl, rfl, trivial⟩).andThen (PySem.W.looks_subIn X1 T.exE)
  show wpAny _ _ (callWith W.p4 (.ref h1.objs.size) [] (backTo W.p4 (starEach [.Constant (.str W.z) W.j W.p3] (PySem.W.ksEnv W.qual W.scope L fI' (.ref cda) cc))) []) _ _ _
  refine PySem.ESX.callWith_bound (x := e) (first := []) (PyProof.Rows.spliced_more (wpAny_Constant_str (PyProof.Rows.spliced_none ⟨Heap.get?_push_size h1 rfl, ?_⟩)))
  have k2' : ∀ b o, h1.get? b = some o → (h1.push (PySem.ESX.bw e)).get? b = some o := fun b o q => Heap.get?_push_of_some _ q
  refine PySem.ESX.call_bw (k2' _ _ (k1 _ _ hC)) (k2' _ _ (k1 _ _ I0.at_)) (Heap.get?_push_size h1 rfl) (by show 1 ≤ sizeLine; rw [sizeLine_eq]; decide) (fun h2 t1 k3' he2 => ?_)
  have kk : ∀ b o, b ≠ e → h0.get? b = some o → h2.get? b = some o := fun b o hb q => k3' b o hb (k2' _ _ (k1 _ _ q))
  have hns2 : h2.Ns L (fun y => ([(W.sf.arg, Value.ref e), (W.ar.arg, u)] : List (Str × Value)).reverse.lookup y) := by
    obtain ⟨oL, es, ep, hLo, r⟩ := hns
    exact ⟨oL, es, ep, kk _ _ (Ne.symm (nsL he)) hLo, r⟩
  have X2 : K.In h2 := fun a o q => kk a o (fun z => by rw [z, hKe] at q; cases q) (X0 _ _ q)
  obtain ⟨cd2, bmr, c1, c2, c3⟩ := exc_cls T.cls
  have hdc : cd2.hasDict = true := by
    have z := T.dct
    rw [c1] at z
    exact z
  show PySem.wpAt _ _ _ (execs [_] _) _ _ _
  refine PySem.ks_wpAt_execs_cons (PySem.ks_wpAt_Assign_Attr (wpAt_of_wpAny (ld_loc T.kind T.kar hns2 v2 T.d2 (ld_loc T.kind T.ksf hns2 v1 T.d1 ?_))) rfl)
  refine PySem.W.set_plain (od := none) X2 ⟨he2, rfl, rfl, trivial⟩ T.sa (osa_first X2 he2 c1 c2 c3 hdc T.noat (fun h3 tk3 dx ⟨k4, g4, ne4, he3, hn3⟩ => ?_))
  refine wpAt_of_wpAny (wpAny_execs_nil ?_)
  refine hq h3 tk3 dx t1 (fun b o hb q => k4 b o hb (kk b o hb (k0 _ _ q))) (Nat.le_trans (Nat.le_of_lt ?_) g4) ne4 he3 hn3
  obtain ⟨oL, es, ep, hLo, r⟩ := hns2
  exact Heap.lt_size hLo
end
/-- C(e) -/
theorem pmk_exi {X : Cx} {C : Addr} {W : InitW} {x : Str} {a : Expr} {te : TE} {p pos : Pos} (T : ExI X.prog X.K X.mg C W) (hr : Room 1 X.A) (hg : Gl X x) (hm : X.mg x = some (.ref C)) (hdb : (x == ("__debug__" : Str)) = false) (ha : PE X a te) (hs : noStar a = true) :
    L2N.PMk X (.Call (.Name x p) [a] [] pos) (fun σ H Q => te σ H fun y H1 => ∀ d, H1 d = none → Q (.ref C) (some d) (upd H1 d (.xd [(W.f, y)]))) := by
  intro pins s σ H Q I h
  have hst : starEach [a] X.env = (false, eval a X.env) :: starEach [] X.env := star_cons hs
  refine wpAny_Call_Name_kw (ld_glob I hg hm ?_ hdb)
  have par := (pa_cons ha pa_nil hst).run pos pins s σ H (fun vs H1 => match vs with | [y] => ∀ d, H1 d = none → Q (.ref C) (some d) (upd H1 d (.xd [(W.f, y)])) | _ => False) I h
  refine PySem.W.callWith_K (h₀ := X.base) I.ok.mod.kin T.kC (thn par fun us s1 ⟨vs, H1, I1, r1, q1⟩ => ⟨I1.kIn, ?_⟩) hst rfl
  obtain ⟨y, rfl⟩ : ∃ y, vs = [y] := by
    match vs, q1 with
    | [y], _ => exact ⟨y, rfl⟩
  have q1 : ∀ d, H1 d = none → Q (.ref C) (some d) (upd H1 d (.xd [(W.f, y)])) := q1
  obtain ⟨fI, cc, cda, kV, doc, pm, ct, oc, occ, ocl, an, od, odc, odl, osl, osc, osk, vs, file, tf, f1, f2, f3, f4, f5, f6, f7, f8⟩ := T.fn
  obtain ⟨nm, N', qn, bs, bm, hdct, sn, sub, ab, col, dd, k0', k1, k2, k3, k5, hC, hT⟩ := PySem.W.excInit_of I1.kIn T.cls
  obtain ⟨u, rfl⟩ : ∃ u, us = [u] := by
    cases r1 with
    | cons r1 r2 => cases r2; exact ⟨_, rfl⟩
  have ru : RelV y u := by
    cases r1 with
    | cons r1 r2 => exact r1
  show wpAny _ _ (call (.ref C) [u]) _ _ _
  obtain ⟨hp, g, dr, tk, os⟩ := s1
  have hsz : hp.objs.size ≤ hp.objs.size + 1 := Nat.le_succ _
  have kk : ∀ b o, hp.get? b = some o → ((hp.push (PySem.W.kdv_tup [u])).push (PySem.HandSPX.excO C hp.objs.size)).get? b = some o := fun b o e => Heap.get?_push_of_some _ (Heap.get?_push_of_some _ e)
  have hget : ((hp.push (PySem.W.kdv_tup [u])).push (PySem.HandSPX.excO C hp.objs.size)).get? (hp.objs.size + 1) = some (PySem.HandSPX.excO C hp.objs.size) := by heap_get
  have kb : ∀ b o, X.base.get? b = some o → hp.get? b = some o := I1.bk
  have hKe : X.K.lookup (hp.objs.size + 1) = none := by
    cases z : X.K.lookup (hp.objs.size + 1) with
    | none => rfl
    | some o => exact absurd (Heap.lt_size (I1.kIn _ _ z)) (Nat.not_lt.mpr hsz)
  obtain ⟨mb, hb1, hb2⟩ := I1.mod.blt
  refine wpAny_call (PySem.HandSPX.call_own F.excBase_Exception hT hC (PySem.W.looks_findIn I1.kIn f1) (fun self => PySem.W.bind_fn I1.kIn self f2) (by show 1 ≤ sizeLine; rw [sizeLine_eq]; decide)
    (init_run (C := C) T (I1.kIn.keeps kk) (I1.nolimit.keeps kk) (hr.make C [u] []).depth hget hKe ((I1.mod.glob.keeps kb).keeps kk) ((hb1.keeps kb).keeps kk) hb2 f1 (fun h' t' dx t1 k' g' ne' he' hn' => ⟨rfl, ?_⟩)))
  have hge : hp.objs.size ≤ dx := by
    have z : ((hp.push (PySem.W.kdv_tup [u])).push (PySem.HandSPX.excO C hp.objs.size)).objs.size = hp.objs.size + 2 := by simp [Heap.size_push]
    omega
  obtain ⟨G, g1, g2⟩ := restrict h' fun b => decide (b ≠ hp.objs.size + 1)
  have gk : ∀ b, b ≠ hp.objs.size + 1 → G.get? b = h'.get? b := fun b hb => g1 b (decide_eq_true hb)
  have gn : G.get? (hp.objs.size + 1) = none := g2 _ (by simp)
  have hnd : H1 dx = none := I1.hok.fresh hge
  have J : Inv X pins σ (upd H1 dx (.xd [(W.f, y)])) ⟨G, g, dr, t', os⟩ := I1.laid (t' := t') (a := dx) (o := .xd [(W.f, y)]) (fun b o q => by
      have hb : b ≠ hp.objs.size + 1 := Nat.ne_of_lt (Nat.lt_of_lt_of_le (Heap.lt_size q) hsz)
      rw [gk b hb]
      exact k' b o hb (kk _ _ q)) hge ⟨_, hn'.at fun o q => (gk dx ne').trans q, relO_put (fs := []) ru fun _ => True.intro⟩
  refine ⟨hp.objs.size + 1, _, _, ⟨G, g, dr, t', os⟩, _, .ref C, some dx, rfl, J, fun b o z => ?_, gn, he', ⟨rfl, rfl, fun vs z => by cases z; rfl⟩, rfl, rfl, ?_, rfl, I1.bare, raises_own T.exC T.tyC, q1 dx hnd⟩
  · by_cases hb : b = hp.objs.size + 1
    · rw [hb, gn] at z
      cases z
    · exact (gk b hb).symm.trans z
  · rw [upd_ne (Ne.symm ne')]
    exact I1.hok.fresh hsz
/-- raise C(e) -/
def wRaise (c f : Str) (wa : WE) : WS := fun ρ M _ E => wa ρ M (fun d M1 => E ⟨c, f, d⟩ ρ M1) (fun x M1 => E x ρ M1)
theorem us_raise {X : Cx} {W : WX} {c : Str} {I : InitW} {wa : WE} {a : Expr} {p pos rpos : Pos} (T : ExI X.prog X.K X.mg (He.ga X.K c) I) (hr : Room 1 X.A) (hc : X.calm = true) (tk : L2N.Takes X W) (hg : Gl X c) (hm : X.mg c = some (.ref (He.ga X.K c))) (hdb : (c == ("__debug__" : Str)) = false)
    (ha : PE X a (upE X W wa)) (hs : noStar a = true) : PS X (.Raise (some (.Call (.Name c p) [a] [] pos)) none rpos) (upS X W (wRaise c I.f wa)) := (L2N.ps_raise hc tk (pmk_exi T hr hg hm hdb ha hs)).imp fun B σ H ⟨ρ, M, N, E0, r, m, z, g, xg⟩ =>
  ⟨ρ, M, _, _, r, m, z, fun d M1 z1 y H1 s1 rd m1 p hp => by
    have sN : Stb H1 (upd H1 p (.xd [(I.f, y)])) := Stb.new hp
    exact xg _ ρ M1 z1 _ _ σ _ (s1.trans sN) ((r.stb s1).stb sN) ⟨rfl, p, y, rfl, m1.fresh hp, upd_same, rd.stb sN⟩ (m1.laid hp), xg.at_ r⟩
end Fg
/-! Fg12: try with any number of clauses, each with a name or without; what a suite asks of the caught exception. -/
namespace Fg
open PySem PySem.Spec L2
open PyProof.Rows hiding St
/-- the exception at a is caught and lies over the ground B -/
structure Cau (X : Cx) (pins : List (Addr × Obj)) (a : Addr) (B : Heap) (sI : Shared) (σ : St) (H : Hp) (cls : Value) (d : Option Addr) (s : Shared) : Prop where
  J : Inv X pins σ H sI
  nb : ∀ b o, sI.heap.get? b = some o → b ∉ frs X.stack → B.get? b = some o
  up : sI.heap.UpToSlots s.heap
  fl : HandSPX.FlyingZ B (X.env :: X.outer) a (L2N.Zn cls d) s.heap
  na : H a = none
  os : s.os = sI.os
  ag : AllBare s.gens
section
variable {X : Cx} {pins : List (Addr × Obj)} {a : Addr} {B : Heap} {sI : Shared} {σ : St} {H : Hp} {cls : Value} {d : Option Addr} {s : Shared}
theorem Cau.inv (c : Cau X pins a B sI σ H cls d s) : Inv X pins σ H s := c.J.landed c.nb c.fl.1 c.up c.os c.ag
theorem Cau.re (c : Cau X pins a B sI σ H cls d s) {h' : Heap} (fl : HandSPX.FlyingZ B (X.env :: X.outer) a (L2N.Zn cls d) h') (up : s.heap.UpToSlots h') : Cau X pins a B sI σ H cls d { s with heap := h' } :=
  ⟨c.J, c.nb, c.up.trans up, fl, c.na, c.os, c.ag⟩
theorem Cau.nfr (c : Cau X pins a B sI σ H cls d s) : a ∉ frs (X.env :: X.outer) := fun hm => by
  obtain ⟨oe, vs, h1, h2, h3⟩ := c.fl.there
  obtain ⟨_, o, h4, h5⟩ := c.fl.2.2.1.mem hm
  rw [h1] at h4
  exact h5 _ (Option.some.inj h4 ▸ h3)
theorem Cau.suite (c : Cau X pins a B sI σ H cls d s) (hf : X.env.frame = some X.env.locals) : ∃ oe, L2N.Zn cls d oe ∧ (∃ vs, oe.data = .fields vs) ∧ Inv (X.suite a ((a, oe) :: (X.pn ++ pins))) [] σ H s := by
  obtain ⟨oe, vs, h1, h2, h3⟩ := c.fl.there
  have hn := c.nfr
  refine ⟨oe, h2, ⟨vs, h3⟩, c.inv.suite h1 h3 c.na (fun z => hn ?_) fun hm => hn ?_⟩
  · exact List.mem_filterMap.mpr ⟨X.env, List.mem_cons_self, by rw [hf, z]⟩
  · obtain ⟨e, he, q⟩ := List.mem_filterMap.mp hm
    exact List.mem_filterMap.mpr ⟨e, List.mem_cons_of_mem _ he, q⟩
/-- no clause is left -/
theorem hd_nil {W : WX} {D : Ends} (c : Cau X pins a B sI σ H cls d s) (hs : X.stack = X.env :: X.outer) (hf : X.env.frame = some X.env.locals) (tk : L2N.Takes X W) (w : W cls d σ H) :
    wpAny (model X.prog X.w) X.A (handleBy (.ref a) X.env []) (SP X pins D) X.xe s := by
  obtain ⟨_, _, _, oe, vs, T, oT, ts, he, _, hd, h1, _⟩ := id c.fl
  have go : wpAny (model X.prog X.w) X.A (setFlight (.ref a) X.env.frame) (fun _ s4 => wpAny (model X.prog X.w) X.A (throw (.ref a) : Sem Flow) (SP X pins D) X.xe s4) X.xe s := by
    rw [hf]
    exact HandSPX.setFlight_upZ c.fl fun h4 hh4 up4 => wpAny_throw (tk _ _ ⟨a, B, sI, pins, σ, H, cls, d, rfl, c.J, c.nb, c.up.trans up4, .inr (.inr (by rw [hs]; exact hh4)), c.na, c.os, c.ag, w⟩)
  refine wpAny_handleBy_nil ?_
  unfold PySem.passOn
  refine wpAny_bind (wpAny_field he hd h1 ?_)
  rw [if_neg (show ¬ ((Value.ref T == Value.none) = true) from by simp)]
  first
    | exact wpAny_bind (wpAny_pure (wpAny_bind go))
    | exact wpAny_bind go
/-- a clause's class is asked -/
theorem hd_test {x : Str} {c : Value} {np : Pos} {b : Bool} {R : Result → Shared → Prop} {ps : Pos} (k : Cau X pins a B sI σ H cls d s) (hf : X.env.frame = some X.env.locals) (hc : Names X x c) (hb : PySem.W.exmOne X.K cls c = some b) (h : R (.ok (if b then .brk else .next)) s) :
    codeAny (model X.prog X.w) (X.A.mark (some (.ref a))) (.handlers (.ref a) [.ExceptHandler (some (.Name x np)) none [] ps] X.env) R s := by
  obtain ⟨oe, hz, hv, S⟩ := k.suite hf
  obtain ⟨oe2, vs, he, hz2, _⟩ := k.fl.there
  have L1 : PySem.W.Looks (model X.prog X.w) s.heap (typeOf (.ref a)) cls := fun A Q E s' kp q => wpAny_typeOf_ref (kp _ _ he) (by rw [hz2.1]; exact q)
  have L2 := PySem.W.exm_one (M := model X.prog X.w) k.inv.kIn L1 hb
  refine codeAny_handlers_test ?_
  obtain ⟨hg, hdb, hm | ⟨hm, hv, hn⟩⟩ := hc
  · exact ld_glob (X := X.suite a ((a, oe) :: (X.pn ++ pins))) S hg hm (L2.here h) hdb
  · exact ld_blt (X := X.suite a ((a, oe) :: (X.pn ++ pins))) S hg hm hv (L2.here h) hn hdb
/-- the ends of a suite that has a name -/
def clrE (D : Ends) (i : Nat) : Ends := { nx := fun σ H => D.nx (σ.set i none) H, rt := D.rt, bk := fun σ H => D.bk (σ.set i none) H, ct := fun σ H => D.ct (σ.set i none) H }
abbrev SuT := Addr → Value → Option Addr → TS
/-- what the clauses ask of an exception -/
def wHds (K : PySem.W.Frag) (W : WX) (D : Ends) : List (Value × Option Nat × SuT) → WX
  | [] => W
  | (c, o, t) :: r => fun cls d σ H => ∃ b, PySem.W.exmOne K cls c = some b ∧ (b = true → ∀ a, H a = none → match o with
      | none => t a cls d D σ H
      | some i => t a cls d (clrE D i) (σ.set i (some (.ref a))) H) ∧ (b = false → wHds K W D r cls d σ H)
def SuOk (X : Cx) (b : List Stmt) (t : SuT) : Prop := ∀ (a : Addr) (oe : Obj) (cls : Value) (d : Option Addr) (pn : List (Addr × Obj)), L2N.Zn cls d oe → (∃ vs, oe.data = .fields vs) → PSs (X.suite a ((a, oe) :: pn)) b (t a cls d)
inductive Hds (X : Cx) : List ExceptHandler → List (Value × Option Nat × SuT) → Prop
  | nil : Hds X [] []
  | bare {x : Str} {c : Value} {t : SuT} {b : Stmt} {bs : List Stmt} {p q : Pos} {hs : List ExceptHandler} {l : List (Value × Option Nat × SuT)} (hc : Names X x c) (hu : SuOk X (b :: bs) t) (r : Hds X hs l) :
      Hds X (.ExceptHandler (some (.Name x p)) none (b :: bs) q :: hs) ((c, none, t) :: l)
  | named {x n : Str} {i : Nat} {c : Value} {t : SuT} {b : Stmt} {bs : List Stmt} {p q : Pos} {hs : List ExceptHandler} {l : List (Value × Option Nat × SuT)} (hc : Names X x c) (hi : X.N[i]? = some n) (hn : X.env.kindOf n = some .local) (hu : SuOk X (b :: bs) t) (r : Hds X hs l) :
      Hds X (.ExceptHandler (some (.Name x p)) (some n) (b :: bs) q :: hs) ((c, some i, t) :: l)
/-- the clauses, one after another -/
theorem hds_run {W : WX} {D : Ends} (hs : X.stack = X.env :: X.outer) (hf : X.env.frame = some X.env.locals) (hN : X.N.Nodup) (tk : L2N.Takes X W) {hds : List ExceptHandler} {l : List (Value × Option Nat × SuT)} (hh : Hds X hds l) (k : Cau X pins a B sI σ H cls d s) (ok : X.Ok) (w : wHds X.K W D l cls d σ H) :
    wpAny (model X.prog X.w) X.A (handleBy (.ref a) X.env hds) (SP X pins D) X.xe s := by
  induction hh with
  | nil => exact hd_nil k hs hf tk w
  | bare hc hu r ih =>
    obtain ⟨b, h1, h2, h3⟩ := w
    refine wpAny_handleBy_cons (hd_test k hf hc h1 ?_) (by intro q; cases q)
    cases b with
    | false => exact ih (h3 rfl)
    | true =>
      refine codeAny_handlers_suite (HandSPX.lands_againZ k.fl fun h4 fl4 up4 => ?_)
      obtain ⟨oe, hz, hv, S⟩ := (k.re fl4 up4).suite hf
      refine wpAny_mono ((hu a oe cls d (X.pn ++ pins) hz hv).run [] _ _ H _ S (h2 rfl a k.na)) (fun f s6 z => ?_) fun _ _ z => z.elim
      cases f with
      | ret u => obtain ⟨v, σ6, H6, S6, r6, q6⟩ := z; exact ⟨v, σ6, H6, S6.unsuite ok, r6, q6⟩
      | _ => obtain ⟨σ6, H6, S6, q6⟩ := z; exact ⟨σ6, H6, S6.unsuite ok, q6⟩
  | @named x n i c t b0 bs p q hs' l' hc hi hn hu r ih =>
    obtain ⟨b, h1, h2, h3⟩ := w
    refine wpAny_handleBy_cons (hd_test k hf hc h1 ?_) (by intro q; cases q)
    cases b with
    | false => exact ih (h3 rfl)
    | true =>
      refine codeAny_handlers_suite_as (HandSPX.lands_againZ k.fl fun h4 fl4 up4 => ?_)
      obtain ⟨oe, hz, hv, S⟩ := (k.re fl4 up4).suite hf
      refine store_ok (X := X.suite a ((a, oe) :: (X.pn ++ pins))) (v := .ref a) S hN hi (.inl hn) rfl (fun s5 S5 => ?_) (.inr hn)
      refine wpAny_mono ((hu a oe cls d (X.pn ++ pins) hz hv).run [] s5 _ H _ S5 (h2 rfl a k.na)) (fun f s6 z => ?_) fun _ _ z => z.elim
      cases f with
      | ret u => obtain ⟨v, σ6, H6, S6, r6, q6⟩ := z; exact gone_ok (S6.unsuite ok) hN hi hn fun s7 J7 => ⟨v, _, H6, J7, r6, q6⟩
      | _ => obtain ⟨σ6, H6, S6, q6⟩ := z; exact gone_ok (S6.unsuite ok) hN hi hn fun s7 J7 => ⟨_, H6, J7, q6⟩
/-- try: body, its clauses -/
theorem ps_tryA {W : WX} {body : List Stmt} {h0 : ExceptHandler} {hds : List ExceptHandler} {l : List (Value × Option Nat × SuT)} {pos : Pos} {tb : WX → TS} (hs : X.stack = X.env :: X.outer) (hf : X.env.frame = some X.env.locals) (hN : X.N.Nodup) (tk : L2N.Takes X W)
    (hb : ∀ (W' : WX) (pn : List (Addr × Obj)) (xe : Value → Shared → Prop), L2N.Takes (X.tr pn xe) W' → PassesOwn (model X.prog X.w) X.A X.env xe → PSs (X.tr pn xe) body (tb W')) (hh : Hds X (h0 :: hds) l) :
    PS X (.Try body (h0 :: hds) [] [] pos) (fun D σ H => tb (wHds X.K W D l) D σ H) := ⟨fun pins s σ H D I h => by
  have ok := I.ok
  have run := (hb (wHds X.K W D l) (X.pn ++ pins) (fun e s1 => wpAny (model X.prog X.w) X.A (noteFrame e X.env) (fun _ s2 => wpAny (model X.prog X.w) X.A (setFlight e none) (fun _ s3 =>
    wpAny (model X.prog X.w) X.A (handleBy e X.env (h0 :: hds)) (SP X pins D) X.xe s3) X.xe s2) X.xe s1) (fun u s' xx => by
      obtain ⟨a, B, sI, pins', σ', H', cls, d, rfl, J, nb, up, sky, na, os, ag, w⟩ := xx
      show wpAny (model X.prog X.w) X.A (noteFrame (.ref a) X.env) _ _ _
      exact L2N.Sky.land L2N.Zn.steady (by rw [ok.frames, hs]) hf (by rw [← hs]; exact sky) fun h3 fl3 up3 => hds_run hs hf hN tk hh ⟨J.ofTry ok, nb, up.trans up3, fl3, na, os, ag⟩ ok w) PassesOwn.looking).run [] s σ H D (I.toTry _) h
  refine wpAny_Try_except (wpAny_mono run (fun f s1 z => ?_) fun e s1 he => he)
  cases f with
  | next => obtain ⟨σ', H', J', q⟩ := z; exact wpAny_execs_nil ⟨σ', H', J'.ofTry ok, q⟩
  | ret u => obtain ⟨v, σ', H', J', r, q⟩ := z; exact ⟨v, σ', H', J'.ofTry ok, r, q⟩
  | _ => obtain ⟨σ', H', J', q⟩ := z; exact ⟨σ', H', J'.ofTry ok, q⟩⟩
end
end Fg
/-! Fg13: raise and try by form; a suite's questions. -/
namespace Fg
open PySem PySem.Spec L2
open PyProof.Rows hiding St
/-- the fields that errors hold -/
def xflds : List Str := ["at", "name", "word"]
/-- one error class under another -/
def xsb (c d : Str) : Bool := c == d || d == "FigureError"
structure XcK (K : PySem.W.Frag) (xs : List Str) : Prop where
  fld : ∀ c ∈ xs, XfC K (He.ga K c)
  noat : ∀ c ∈ xs, ∀ f ∈ xflds, PySem.W.findIn K (.ref (He.ga K c)) f = some none
  isC : ∀ c ∈ xs, ExcC K (He.ga K c)
  ex : ∀ c ∈ xs, ∀ d ∈ xs, PySem.W.exmOne K (.ref (He.ga K c)) (.ref (He.ga K d)) = some (xsb c d)
  kit : ∀ c ∈ xs, ∀ d ∈ xs, PySem.W.kitOne K (.ref (He.ga K c)) (.ref (He.ga K d)) = some (xsb c d)
  alien : ∀ c ∈ xs, ∀ T ∈ (["ValueError", "LookupError", "ArithmeticError"] : List String), PySem.W.kitOne K (.ref (He.ga K c)) (.type T) = some false
/-- a global class -/
def GCl (U : Ud) (c : Str) : Prop := U.mg c = some (.ref (He.ga U.K c))
section
variable {U : Ud} {k : Nat} {n : Nm} {e a : Expr} {pos p rpos : Pos} {c : Str} {wa : WE}
theorem s_raise {I : InitW} {f : Str} (T : ExI U.P U.K U.mg (He.ga U.K c) I) (hfe : I.f = f) (hk : 1 ≤ k) (hh : n.hot = false) (hg : n.sc.names.lookup c = some .globalImplicit) (hm : GCl U c) (hdb : (c == ("__debug__" : Str)) = false) (ha : JE U k n a wa) (hs : noStar a = true) :
    JS U k n (.Raise (some (.Call (.Name c p) [a] [] pos)) none rpos) (wRaise c f wa) := fun X W g => by
  subst hfe
  have hK := g.eK
  have T' : ExI X.prog X.K X.mg (He.ga X.K c) I := by rw [g.eP, g.eK, g.eM]; exact T
  exact us_raise T' ((g.room hh).mono hk) (g.calm hh) g.tk (g.gl hg) (by rw [g.eM, g.eK]; exact hm) hdb (ha X W g) hs
/-! ### e.f of the exception that the suite holds -/
def wXAtt (xs : List Str) (f : Str) (ad : Addr) (x : Xn) (dd : Addr) (wo : WE) : WE := fun ρ M Q E => wo ρ M (fun o M1 => o = .ref ad ∧ x.c ∈ xs ∧ f ∈ xflds ∧ ∃ v, M1 dd = some (.xd f v) ∧ Q v M1) E
theorem n_xatt {xs : List Str} {f : Str} {ad dd : Addr} {x : Xn} (T : XcK U.K xs) (hx : n.ex = some (ad, x, dd)) (ha : JE U k n e wa) (hb : isCall0 e = false) : JE U k n (.Attribute e f pos) (wXAtt xs f ad x dd wa) := fun X W g => by
  obtain ⟨oe, hz, ⟨vs, hv⟩, hp⟩ := g.xc ad x dd hx
  refine ⟨fun pins s σ H Q I h => ?_⟩
  obtain ⟨ρ, M, Q0, E0, r, m, t, q, xg⟩ := h
  refine attr_of (base_of hb) (thn ((ha X W g).run pins s σ H (fun y H1 => y = .ref ad ∧ x.c ∈ xs ∧ f ∈ xflds ∧ ∃ y1 v M1, H1 dd = some (.xd [(f, y1)]) ∧ RD X.K H1 v y1 ∧ RMx X H1 M1 ∧ Stb H H1 ∧ Q0 v M1) I ⟨ρ, M, _, E0, r, m, t, fun d M1 t1 y H1 s1 rd m1 => ?_, xg⟩) fun u s1 hh => ?_)
  · obtain ⟨rfl, h1, h2, v, h3, h4⟩ := t1
    cases rd
    obtain ⟨y1, h5, h6⟩ := m1 dd _ h3
    exact ⟨rfl, h1, h2, y1, v, M1, h5, h6, m1, s1, h4⟩
  · obtain ⟨y, H1, I1, ry, rfl, h1, h2, y1, v, M1, h3, h4, m1, s1', q1⟩ := hh
    obtain rfl : u = Value.ref ad := ry
    have F := T.fld _ h1
    have hno := T.noat _ h1 f h2
    obtain ⟨hget, _⟩ := I1.pin (ad, oe) (List.mem_append_left _ hp)
    obtain ⟨mA, hns, hr⟩ : ObjOk X.prog X.w H1 s1.heap dd (.xd [(f, y1)]) := I1.hok dd _ h3
    obtain ⟨od, ho, hl⟩ := lookIn_ns hns
    obtain ⟨u1, hu, ru⟩ := RelO.some_of (v := y1) (o := mA f) (by
      have z := hr f
      rw [lookup_put, if_pos rfl] at z
      exact z)
    rw [← g.eK] at F hno hz
    have J : PySem.W.InstAt s1.heap ad oe (He.ga X.K x.c) (some od) := ⟨hget, hz.1, by unfold PySem.W.notCls; rw [hv] <;> rfl, by rw [hz.2.1]; exact ho⟩
    exact HandSPX.exc_get I1.kIn J F.ga F.gg F.exC (PySem.W.findObj_own F.hdC hno rfl (by rw [hl, hu])) (handed_of ru) ⟨y1, H1, I1.tok _, ru, q _ M1 q1 _ H1 s1' h4 m1⟩
end
/-! ### try -/
def clrD (N : EndsD) (i : Nat) : EndsD := { nx := fun ρ M => N.nx (ρ.set i none) M, rt := N.rt, bk := fun ρ M => N.bk (ρ.set i none) M, ct := fun ρ M => N.ct (ρ.set i none) M }
abbrev noQ : QS := fun _ _ _ => False
abbrev SuD := Xn → Addr → Addr → WS
def wHdD (xs : List Str) (N : EndsD) (E : QS) : List (Str × Option Nat × SuD) → QS
  | [] => E
  | (c, o, t) :: r => fun x ρ M => x.c ∈ xs ∧ if xsb x.c c = true then ∀ a dd, M a = none → M dd = none → a ≠ dd → (match o with
      | none => t x a dd ρ (up M dd (.xd x.f x.v)) N noQ
      | some i => t x a dd (ρ.set i (some (.ref a))) (up M dd (.xd x.f x.v)) (clrD N i) noQ)
    else wHdD xs N E r x ρ M
def wTry (xs : List Str) (tb : WS) (l : List (Str × Option Nat × SuD)) : WS := fun ρ M N E => tb ρ M N (wHdD xs N E l)
def suT (X : Cx) (t : SuD) : SuT := fun a cls d D σ H => ∃ x dd, cls = .ref (He.ga X.K x.c) ∧ d = some dd ∧ upS X W0 (t x a dd) D σ H
def hdsL (X : Cx) (l : List (Str × Option Nat × SuD)) : List (Value × Option Nat × SuT) := l.map fun q => (.ref (He.ga X.K q.1), q.2.1, suT X q.2.2)
theorem XGoS.noQ {X : Cx} {H : Hp} : XGoS X W0 H noQ := fun _ _ _ h => h.elim
section
variable {X : Cx} {W : WX} {xs : List Str} {l : List (Str × Option Nat × SuD)} {D : Ends} {N : EndsD} {E0 : QS}
theorem go_hds (T : XcK X.K xs) : ∀ {l : List (Str × Option Nat × SuD)}, (∀ q ∈ l, q.1 ∈ xs) → ∀ {H : Hp}, GoE X H N D → XGoS X W H E0 → XGoS X (wHds X.K W D (hdsL X l)) H (wHdD xs N E0 l)
  | [], _, H, g, xg => xg
  | (c, o, t) :: r, hl, H, g, xg => fun x ρ M z cls d σ H' s' r' rx m' => by
    obtain ⟨h1, z⟩ := z
    have hc := hl (c, o, t) (List.mem_cons_self ..)
    obtain ⟨rfl, dd, y, rfl, h2, h3, h4⟩ := id rx
    refine ⟨xsb x.c c, T.ex _ h1 _ hc, fun hb a ha => ?_, fun hb => ?_⟩
    · rw [if_pos hb] at z
      have hne : a ≠ dd := fun e => by rw [e, h3] at ha; cases ha
      have z2 := z a dd (m'.fresh ha) h2 hne
      have m2 : RMx X H' (up M dd (.xd x.f x.v)) := fun b ob e => by
        by_cases hb : b = dd
        · subst hb
          rw [up_same] at e
          cases e
          exact ⟨y, h3, h4⟩
        · rw [up_ne hb] at e
          exact m' b ob e
      have g2 := g.stb s'
      cases o with
      | none => exact ⟨x, dd, rfl, rfl, ρ, _, N, noQ, r', m2, z2, g2, XGoS.noQ⟩
      | some i => exact ⟨x, dd, rfl, rfl, _, _, clrD N i, noQ, r'.set (.ref a), m2, z2, ⟨fun ρ1 M1 p1 σ1 H1 s1 r1 m1 => g2.nx _ M1 p1 _ H1 s1 (r1.clear i) m1, g2.rt, fun ρ1 M1 p1 σ1 H1 s1 r1 m1 => g2.bk _ M1 p1 _ H1 s1 (r1.clear i) m1, fun ρ1 M1 p1 σ1 H1 s1 r1 m1 => g2.ct _ M1 p1 _ H1 s1 (r1.clear i) m1⟩, XGoS.noQ⟩
    · rw [if_neg (by rw [hb]; exact Bool.false_ne_true)] at z
      exact go_hds T (fun q hq => hl q (List.mem_cons_of_mem _ hq)) g xg x ρ M z _ _ σ H' s' r' rx m'
end
section
variable {U : Ud} {k : Nat} {n : Nm} {body : List Stmt} {tb : WS} {xs : List Str}
/-- the names within a suite -/
def Nm.su (n : Nm) (q : Addr × Xn × Addr) : Nm := { n with hot := true, ex := some q }
theorem Gd.suite {X : Cx} {W : WX} (g : Gd U k n X W) (hh : n.hot = false) {a dd : Addr} {x : Xn} {oe : Obj} {pn : List (Addr × Obj)} (hz : L2N.Zn (.ref (He.ga U.K x.c)) (some dd) oe) (hv : ∃ vs, oe.data = .fields vs) : Gd U k (n.su (a, x, dd)) (X.suite a ((a, oe) :: pn)) W0 :=
  ⟨g.eP, g.eW, g.eK, g.eM, g.eB, g.eN, g.eS, g.nd, fun h => (nomatch h), fun h => (nomatch h), g.hu, takes0N, fun h => (nomatch h), fun a' x' dd' h => by cases h; exact ⟨oe, hz, hv, List.mem_cons_self ..⟩, fun _ => ⟨⟨(a, oe), ⟨rfl, let ⟨vs, h⟩ := hv; ⟨vs, h, hz.2.2 vs h⟩⟩, List.mem_cons_self ..⟩, ⟨(g.room hh).dp, (g.room hh).un⟩⟩, g.stk, g.fn⟩
theorem Gd.tr {X : Cx} {W W' : WX} (g : Gd U k n X W) (hh : n.hot = false) (hx : n.ex = none) {pn : List (Addr × Obj)} {xe : Value → Shared → Prop} (tk : L2N.Takes (X.tr pn xe) W') (po : PassesOwn (model X.prog X.w) X.A X.env xe) : Gd U k n (X.tr pn xe) W' :=
  ⟨g.eP, g.eW, g.eK, g.eM, g.eB, g.eN, g.eS, g.nd, g.calm, g.room, g.hu, tk, fun _ => po, fun a x dd h => (by rw [hx] at h; cases h), fun h => (by rw [hh] at h; cases h), g.stk, g.fn⟩
/-- the clauses by form -/
inductive JHds (U : Ud) (k : Nat) (n : Nm) (xs : List Str) : List ExceptHandler → List (Str × Option Nat × SuD) → Prop
  | nil : JHds U k n xs [] []
  | bare {c : Str} {t : SuD} {b : Stmt} {bs : List Stmt} {p q : Pos} {hs : List ExceptHandler} {l : List (Str × Option Nat × SuD)} (hc : c ∈ xs) (hg : n.sc.names.lookup c = some .globalImplicit) (hd : (c == ("__debug__" : Str)) = false) (hm : GCl U c)
      (hu : ∀ a x dd, JSs U k (n.su (a, x, dd)) (b :: bs) (t x a dd)) (r : JHds U k n xs hs l) : JHds U k n xs (.ExceptHandler (some (.Name c p)) none (b :: bs) q :: hs) ((c, none, t) :: l)
  | named {c y : Str} {i : Nat} {t : SuD} {b : Stmt} {bs : List Stmt} {p q : Pos} {hs : List ExceptHandler} {l : List (Str × Option Nat × SuD)} (hc : c ∈ xs) (hg : n.sc.names.lookup c = some .globalImplicit) (hd : (c == ("__debug__" : Str)) = false) (hm : GCl U c)
      (hi : n.N[i]? = some y) (hy : n.sc.names.lookup y = some .local) (hu : ∀ a x dd, JSs U k (n.su (a, x, dd)) (b :: bs) (t x a dd)) (r : JHds U k n xs hs l) : JHds U k n xs (.ExceptHandler (some (.Name c p)) (some y) (b :: bs) q :: hs) ((c, some i, t) :: l)
theorem upS_to {X Y : Cx} {W : WX} {t : WS} {D : Ends} {σ : St} {H : Hp} (hK : Y.K = X.K) (hw : Y.w = X.w) (h : upS X W t D σ H) : upS Y W t D σ H := by
  obtain ⟨ρ, M, N, E0, r, m, z, g, xg⟩ := h
  have rm : ∀ {H' : Hp} {M' : MM}, RMx Y H' M' → RMx X H' M' := fun m' => by
    have m2 : RM Y.K Y.w _ _ := m'
    rw [hK, hw] at m2
    exact m2
  refine ⟨ρ, M, N, E0, by rw [hK]; exact r, by show RM Y.K Y.w H M; rw [hK, hw]; exact m, z, ⟨fun ρ' M' p σ' H' s' r' m' => g.nx ρ' M' p σ' H' s' (hK ▸ r') (rm m'), fun d M' p y H' s' r' m' => g.rt d M' p y H' s' (hK ▸ r') (rm m'), fun ρ' M' p σ' H' s' r' m' => g.bk ρ' M' p σ' H' s' (hK ▸ r') (rm m'), fun ρ' M' p σ' H' s' r' m' => g.ct ρ' M' p σ' H' s' (hK ▸ r') (rm m')⟩,
    fun x ρ' M' p cls d σ' H' s' r' rx m' => xg x ρ' M' p cls d σ' H' s' (hK ▸ r') (hK ▸ rx) (rm m')⟩
theorem su_ok {X : Cx} {W : WX} (g : Gd U k n X W) (hh : n.hot = false) {b : Stmt} {bs : List Stmt} {t : SuD} (hu : ∀ a x dd, JSs U k (n.su (a, x, dd)) (b :: bs) (t x a dd)) : SuOk X (b :: bs) (suT X t) := fun a oe cls d pn hz hv =>
  ⟨fun pins s σ H D I ⟨x, dd, h1, h2, h3⟩ => by
    subst h1 h2
    have hz' : L2N.Zn (.ref (He.ga U.K x.c)) (some dd) oe := by rw [← g.eK]; exact hz
    exact (hu a x dd _ W0 (g.suite hh (pn := pn) hz' hv)).run pins s σ H D I (upS_to (X := X) rfl rfl h3)⟩
theorem hds_ok {X : Cx} {W : WX} (g : Gd U k n X W) (hh : n.hot = false) {hs : List ExceptHandler} {l : List (Str × Option Nat × SuD)} (h : JHds U k n xs hs l) : Hds X hs (hdsL X l) ∧ ∀ q ∈ l, q.1 ∈ xs := by
  have cl : ∀ {c : Str}, n.sc.names.lookup c = some .globalImplicit → (c == ("__debug__" : Str)) = false → GCl U c → Names X c (.ref (He.ga X.K c)) := fun hg hd hm => ⟨g.gl hg, hd, .inl (by rw [g.eM, g.eK]; exact hm)⟩
  induction h with
  | nil => exact ⟨.nil, fun _ h => nomatch h⟩
  | bare hc hg hd hm hu r ih => exact ⟨.bare (cl hg hd hm) (su_ok g hh hu) ih.1, fun q hq => (List.mem_cons.mp hq).elim (fun e => e ▸ hc) (ih.2 q)⟩
  | named hc hg hd hm hi hy hu r ih => exact ⟨.named (cl hg hd hm) (g.ix hi) (by unfold PySem.Env.kindOf; rw [g.eS]; exact hy) (su_ok g hh hu) ih.1, fun q hq => (List.mem_cons.mp hq).elim (fun e => e ▸ hc) (ih.2 q)⟩
/-- try -/
theorem s_try {h0 : ExceptHandler} {hs : List ExceptHandler} {l : List (Str × Option Nat × SuD)} {pos : Pos} (T : XcK U.K xs) (hh : n.hot = false) (hx : n.ex = none) (ht : n.top = true) (hb : JSs U k n body tb) (hd : JHds U k n xs (h0 :: hs) l) :
    JS U k n (.Try body (h0 :: hs) [] [] pos) (wTry xs tb l) := fun X W g => by
  obtain ⟨h1, h2⟩ := hds_ok g hh hd
  obtain ⟨h3, h4⟩ := g.stk ht
  have T' : XcK X.K xs := by rw [g.eK]; exact T
  exact (ps_tryA (tb := fun W' => upS X W' tb) h3 h4 g.nm g.tk (fun W' pn xe tk po => (hb (X.tr pn xe) W' (g.tr hh hx tk po)).imp fun B σ H z => upS_to (X := X) rfl rfl z) h1).imp fun B σ H ⟨ρ, M, N, E0, r, m, z, gg, xg⟩ =>
    ⟨ρ, M, N, _, r, m, z, gg, go_hds T' h2 gg xg⟩
end
end Fg
/-! Fg14: what the head tells: defs, classes, errors. -/
namespace Fg
open PySem PySem.Spec L2
open PyProof.Rows hiding St
/-! ### an error class read off the written part -/
def initW? (fd : FuncData) : Option (InitW × Addr × Addr) := match fd with
  | { name := nm, qualname := q, params := { posonlyargs := [], args := [a1, a2], vararg := none, kwonlyargs := [], kw_defaults := [], kwarg := none, defaults := [] },
      body := .stmts [.Expr (.Call (.Attribute (.Call (.Name su p0) [] [] p1) ini p2) [.Constant (.str z) j p3] [] p4) p5, .Assign [.Attribute (.Name s1 p6) f p7] (.Name s2 p8) p9],
      scope := sc, globals := gl, closure := [(cl, cc)], defaults := .none, kwdefaults := _, doc := _, pyModule := _, annotations := _, code := .ref cda, closureTuple := _, builtins := bl } =>
    if nm = "__init__" ∧ su = "super" ∧ ini = "__init__" ∧ s1 = a1.arg ∧ s2 = a2.arg ∧ cl = "__class__" ∧ gl = mainGlobals ∧ bl = builtinsNs then some (⟨q, a1, a2, p0, p1, p2, p3, p4, p5, p6, p7, p8, p9, z, j, f, sc⟩, cc, cda) else none
  | _ => none
theorem initW?_ok {fd : FuncData} {W : InitW} {cc cda : Addr} (h : initW? fd = some (W, cc, cda)) : ∃ kV doc pm an ct, fd = PySem.W.ksFn "__init__" W.qual W.params W.body W.scope .none kV doc pm an (.ref cda) ct cc := by
  unfold initW? at h
  split at h
  · split at h
    · rename_i hc
      obtain ⟨rfl, rfl, rfl, rfl, rfl, rfl, rfl, rfl⟩ := hc
      cases h
      exact ⟨_, _, _, _, _, rfl⟩
    · cases h
  · cases h
def scB (sc : Scope) (a b : Str) : Bool := decide (sc.kind = .function) && (!sc.isCoroutine && (!sc.isGenerator && (sc.names.all (fun y => !decide (y.2 = .cell)) && (decide (sc.names.lookup a = some .local) && (decide (sc.names.lookup b = some .local) &&
  (decide (sc.names.lookup ("super" : Str) = some .globalImplicit) && (decide (sc.names.lookup ("__class__" : Str) = some .free) && (decide (a ≠ b) && (!(a == ("__debug__" : Str)) && !(b == ("__debug__" : Str)))))))))))
def clB (K : PySem.W.Frag) (C : Addr) (f : Str) : Bool := PySem.W.excInitIn K C PySem.ESX.exTail "Exception.__new__" && ((PySem.W.clsIn K C).any (·.hasDict) && (decide (PySem.W.findIn K (.ref C) "__setattr__" = some (some (.builtin "object.__setattr__"))) && (decide (PySem.W.findIn K (.ref C) f = some none) &&
  (decide (PySem.W.subIn K (.ref C) (.type "BaseException") = some true) && (decide (PySem.W.subIn K (.ref C) (.type "Exception") = some true) && (decide (PySem.W.mroIn K C (.ref C) = some true) && (decide (PySem.W.typeIn K (.ref C) = some (.type "type")) && (PySem.W.keepIn K (.ref C) &&
  (decide (PySem.W.ks_superIn K C C "__init__" = some (some (.builtin "Exception.__init__"))) && decide (PySem.W.nsIn K cStatics "thirdparty.any" = some none))))))))))
def cellB (K : PySem.W.Frag) (cc C : Addr) : Bool := match K.lookup cc with
  | some ⟨_, _, .cell (some (.ref D)), _⟩ => decide (D = C)
  | _ => false
def fileB (K : PySem.W.Frag) (cda : Addr) (file : Str) : Bool := match K.lookup cda with
  | some ⟨_, _, .fields vs, _⟩ => (match (vs[2]? : Option Value) with
    | some (Value.str fl _) => file == fl
    | _ => false)
  | _ => false
def exiB (K : PySem.W.Frag) (file c f : Str) : Bool := match K.lookup (He.ma K (He.ga K c) "__init__") with
  | some ⟨_, _, .func fd, _⟩ => (match initW? fd with
    | some (W, cc, cda) => decide (W.f = f) && (W.p2.endLine == W.p4.line && (scB W.scope W.sf.arg W.ar.arg && (clB K (He.ga K c) f && (cellB K cc (He.ga K c) && (fileB K cda file && (PySem.W.codeIn K (.ref cda) W.qual &&
      (decide (PySem.W.findIn K (.ref (He.ga K c)) "__init__" = some (some (.ref (He.ma K (He.ga K c) "__init__")))) && decide (PySem.W.typeIn K (.ref (He.ma K (He.ga K c) "__init__")) = some (.type "function")))))))))
    | none => false)
  | _ => false
theorem nb {a : Bool} (h : (!a) = true) : a = false := by cases a <;> simp_all
theorem exi_ok {P : Program} {K : PySem.W.Frag} {mg : Str → Option Value} {c f : Str} (h : exiB K P.main.file c f = true) (hs : mg "super" = none) (ht : (P.main.scope.names.lookup ("super" : Str)).isSome = false) : ∃ W : InitW, W.f = f ∧ ExI P K mg (He.ga K c) W := by
  unfold exiB at h
  split at h
  · rename_i oc od fd osl lk
    split at h
    · rename_i W cc cda hW
      obtain ⟨kV, doc, pm, an, ct, rfl⟩ := initW?_ok hW
      obtain ⟨h1, h⟩ := He.ba h
      obtain ⟨h2, h⟩ := He.ba h
      obtain ⟨h3, h⟩ := He.ba h
      obtain ⟨h4, h⟩ := He.ba h
      obtain ⟨h5, h⟩ := He.ba h
      obtain ⟨h6, h⟩ := He.ba h
      obtain ⟨h7, h⟩ := He.ba h
      obtain ⟨h8, h9⟩ := He.ba h
      obtain ⟨c1, h4⟩ := He.ba h4
      obtain ⟨c2, h4⟩ := He.ba h4
      obtain ⟨c3, h4⟩ := He.ba h4
      obtain ⟨c4, h4⟩ := He.ba h4
      obtain ⟨c5, h4⟩ := He.ba h4
      obtain ⟨c6, h4⟩ := He.ba h4
      obtain ⟨c7, h4⟩ := He.ba h4
      obtain ⟨c8, h4⟩ := He.ba h4
      obtain ⟨c9, h4⟩ := He.ba h4
      obtain ⟨c10, c11⟩ := He.ba h4
      obtain ⟨s1, h3⟩ := He.ba h3
      obtain ⟨s2, h3⟩ := He.ba h3
      obtain ⟨s3, h3⟩ := He.ba h3
      obtain ⟨s4, h3⟩ := He.ba h3
      obtain ⟨s5, h3⟩ := He.ba h3
      obtain ⟨s6, h3⟩ := He.ba h3
      obtain ⟨s7, h3⟩ := He.ba h3
      obtain ⟨s8, h3⟩ := He.ba h3
      obtain ⟨s9, h3⟩ := He.ba h3
      obtain ⟨s10, s11⟩ := He.ba h3
      have e1 : W.f = f := of_decide_eq_true h1
      obtain ⟨ocl, odl, osk, k5⟩ : ∃ ocl odl osk, K.lookup cc = some ⟨ocl, odl, .cell (some (.ref (He.ga K c))), osk⟩ := by
        unfold cellB at h5
        split at h5
        · rename_i o1 o2 D o3 e
          exact ⟨o1, o2, o3, (of_decide_eq_true h5) ▸ e⟩
        · cases h5
      obtain ⟨occ, odc, vs, osc, fl, tf, k6, k7, k8⟩ : ∃ occ odc vs osc fl tf, K.lookup cda = some ⟨occ, odc, .fields vs, osc⟩ ∧ vs[2]? = some (.str fl tf) ∧ ((P.main.file : Str) == fl) = true := by
        unfold fileB at h6
        split at h6
        · rename_i o1 o2 vs o3 e
          split at h6
          · rename_i fl tf e2
            exact ⟨o1, o2, vs, o3, fl, tf, e, e2, h6⟩
          · cases h6
        · cases h6
      refine ⟨W, e1, c1, c2, of_decide_eq_true c3, by rw [e1]; exact of_decide_eq_true c4, of_decide_eq_true c5, of_decide_eq_true c6, of_decide_eq_true c7, of_decide_eq_true c8, c9, of_decide_eq_true c10, hs, of_decide_eq_true c11, ht,
        of_decide_eq_true s1, nb s2, nb s3, fun y hy => of_decide_eq_false (nb (List.all_eq_true.mp s4 y hy)), of_decide_eq_true s5, of_decide_eq_true s6, of_decide_eq_true s7, of_decide_eq_true s8, of_decide_eq_true s9, nb s10, nb s11, h2, ?_⟩
      exact ⟨_, cc, cda, kV, doc, pm, ct, oc, occ, ocl, an, od, odc, odl, osl, osc, osk, vs, fl, tf, of_decide_eq_true h8, of_decide_eq_true h9, lk, h7, k5, k6, k7, k8⟩
    · cases h
  · cases h
/-! ### all error classes -/
def xcB (K : PySem.W.Frag) (c : Str) : Bool := xfB K (He.ga K c) && (xflds.all (fun f => decide (PySem.W.findIn K (.ref (He.ga K c)) f = some none)) && (decide (PySem.W.findIn K (.ref (He.ga K c)) "__class__" = some (some (.builtin "object.__class__"))) &&
  (decide (PySem.W.specialIn K (.builtin "object.__class__") "__get__" = some (some (.builtin "getset_descriptor.__get__"))) && (decide (PySem.W.takesIn K (.builtin "object.__class__") = some true) && decide (PySem.W.mroIn K (He.ga K c) (.type "object") = some true)))))
def xcAll (K : PySem.W.Frag) (xs : List Str) : Bool := xs.all fun c => xcB K c && ((xs.all fun d => decide (PySem.W.exmOne K (.ref (He.ga K c)) (.ref (He.ga K d)) = some (xsb c d)) && decide (PySem.W.kitOne K (.ref (He.ga K c)) (.ref (He.ga K d)) = some (xsb c d))) &&
  ((["ValueError", "LookupError", "ArithmeticError"] : List String).all fun T => decide (PySem.W.kitOne K (.ref (He.ga K c)) (.type T) = some false)))
theorem xc_ok {K : PySem.W.Frag} {xs : List Str} (h : xcAll K xs = true) : XcK K xs := by
  have q : ∀ c ∈ xs, _ := fun c hc => List.all_eq_true.mp h c hc
  have q1 : ∀ c ∈ xs, xcB K c = true := fun c hc => (He.ba (q c hc)).1
  have q2 : ∀ c ∈ xs, ∀ d ∈ xs, _ := fun c hc d hd => He.ba (List.all_eq_true.mp (He.ba (He.ba (q c hc)).2).1 d hd)
  have q3 : ∀ c ∈ xs, _ := fun c hc => List.all_eq_true.mp (He.ba (He.ba (q c hc)).2).2
  refine ⟨fun c hc => xfB_ok (He.ba (q1 c hc)).1, fun c hc f hf => of_decide_eq_true (List.all_eq_true.mp (He.ba (He.ba (q1 c hc)).2).1 f hf), fun c hc => ?_, fun c hc d hd => of_decide_eq_true (q2 c hc d hd).1, fun c hc d hd => of_decide_eq_true (q2 c hc d hd).2, fun c hc T hT => of_decide_eq_true (q3 c hc T hT)⟩
  obtain ⟨a1, z⟩ := He.ba (q1 c hc)
  obtain ⟨a2, z⟩ := He.ba z
  obtain ⟨a3, z⟩ := He.ba z
  obtain ⟨a4, z⟩ := He.ba z
  obtain ⟨a5, a6⟩ := He.ba z
  have F := xfB_ok a1
  exact ⟨F.ga, F.gg, F.exC, F.hdC, of_decide_eq_true a3, of_decide_eq_true a4, of_decide_eq_true a5, of_decide_eq_true a6⟩
/-! ### the hook -/
structure Hd where
  n : Nat
  fa : List He.Fa
  fn : List He.DefD
  xs : List Str
  xi : List (Str × Str)
  file : Str
def asF (g : Addr → Option Obj) : Nat → List Addr
  | 0 => [mainGlobals, cStatics]
  | n + 1 => He.growD g (asF g n)
def Hd.more (h : Hd) (K : PySem.W.Frag) : Bool := xcAll K h.xs && h.xi.all fun q => exiB K h.file q.1 q.2
abbrev AlF : Type := He.AlD × Bool
def Hd.obs (h : Hd) (g : Addr → Option Obj) : AlF := (He.obsD h.fa h.fn (He.frG g (asF g h.n)), h.more (He.frG g (asF g h.n)))
def Hd.says (h : Hd) (K : PySem.W.Frag) : Prop := He.SaysD h.fa h.fn K ∧ h.more K = true
def Hd.hook (h : Hd) : PySem.W.Hook where
  α := AlF
  obs := fun s => h.obs s.heap.get?
  val := fun _ => (He.valD h.fn, true)
  says := fun _ hp => ∃ K : PySem.W.Frag, K.In hp ∧ h.says K
  of := fun _ s e => ⟨He.frG s.heap.get? (asF s.heap.get? h.n), He.frG_in, congrArg (fun z : AlF => z.1) e, congrArg (fun z : AlF => z.2) e⟩
  keeps := fun _ _ _ ⟨K, inn, c⟩ k => ⟨K, PySem.W.Frag.In.keeps inn k, c⟩
theorem Hd.obs_eq (h : Hd) (s : PySem.W.SharedT) : h.obs (HandSHeadRun.getT s) = h.hook.obs s.abs := by
  have e : HandSHeadRun.getT s = s.abs.heap.get? := funext (HandSHeadRun.getT_eq s)
  rw [e] <;> rfl
end Fg
/-! Fg15: the forms with one Boolean side condition each, for printed proofs. -/
namespace Fg
open PySem PySem.Spec L2
open PyProof.Rows hiding St
def visB (sc : Scope) (x : Str) : Bool := match sc.names.lookup x with
  | some .local => true
  | some .cell => true
  | some .free => true
  | _ => false
theorem vis_ok {sc : Scope} {x : Str} (h : visB sc x = true) : Vis sc x := by
  unfold visB at h
  split at h
  · exact .inl (by assumption)
  · exact .inr (.inl (by assumption))
  · exact .inr (.inr (by assumption))
  · cases h
def dbg (x : Str) : Bool := !(x == ("__debug__" : Str))
theorem dbg_ok {x : Str} (h : dbg x = true) : (x == ("__debug__" : Str)) = false := nb h
def vB (n : Nm) (i : Nat) (x : Str) : Bool := decide (n.N[i]? = some x) && (visB n.sc x && (dbg x && !(x == ("__classdict__" : Str))))
def gB (n : Nm) (x : Str) : Bool := decide (n.sc.names.lookup x = some .globalImplicit) && dbg x
def stoB (n : Nm) (i : Nat) (x : Str) : Bool := decide (n.N[i]? = some x) && (match n.sc.names.lookup x with
  | some .local => true
  | some .cell => n.F x
  | _ => false)
theorem sto_ok {n : Nm} {i : Nat} {x : Str} (h : stoB n i x = true) : n.N[i]? = some x ∧ Sto n x := by
  obtain ⟨h1, h2⟩ := He.ba h
  refine ⟨of_decide_eq_true h1, ?_⟩
  split at h2
  · exact .inl (by assumption)
  · exact .inr ⟨by assumption, h2⟩
  · cases h2
/-- what the head tells of the module -/
structure Fct (h : Hd) (U : Ud) : Prop where
  K : U.K.In U.base
  G : U.base.Ns mainGlobals U.mg
  says : h.says U.K
  file : U.P.main.file = h.file
  top : (U.P.main.scope.names.lookup ("super" : Str)).isSome = false
section
variable {hd : Hd} {U : Ud}
theorem Fct.glo (F : Fct hd U) (i : Nat) {x : Str} (h : hd.fa[i]? = some (.glo x)) : U.mg x = some (.ref (He.ga U.K x)) := He.glo_ok F.K F.G (F.says.1.fact i h)
theorem Fct.free (F : Fct hd U) (i : Nat) {x : Str} (h : hd.fa[i]? = some (.free x)) : U.mg x = none := He.free_ok F.K F.G (F.says.1.fact i h)
theorem Fct.int (F : Fct hd U) (i : Nat) {x : Str} {j : Int} (h : hd.fa[i]? = some (.int x j)) : GC U x (.int j) := by
  obtain ⟨t, e⟩ := He.int_ok F.K F.G (F.says.1.fact i h)
  exact ⟨_, .int j, e, ⟨t, rfl⟩, fun _ => .int j⟩
theorem Fct.str (F : Fct hd U) (i : Nat) {x z : Str} (h : hd.fa[i]? = some (.str x z)) : GC U x (.str z) := by
  obtain ⟨t, e⟩ := He.str_ok F.K F.G (F.says.1.fact i h)
  exact ⟨_, .str z, e, ⟨t, rfl⟩, fun _ => .str z⟩
theorem Fct.xc (F : Fct hd U) : XcK U.K hd.xs := xc_ok (He.ba F.says.2).1
theorem Fct.exi (F : Fct hd U) {c f : Str} (i : Nat) (h : hd.xi[i]? = some (c, f)) (hs : U.mg "super" = none) : ∃ W : InitW, W.f = f ∧ ExI U.P U.K U.mg (He.ga U.K c) W := by
  have q := List.all_eq_true.mp (He.ba F.says.2).2 (c, f) (List.mem_of_getElem? h)
  rw [← F.file] at q
  exact exi_ok q hs F.top
/-- a global def keeps what its body does -/
theorem Fct.fn (F : Fct hd U) {k : Nat} {N ps : List Str} {w : WS} (i j : Nat) {d : He.DefD} {x : Str} (h : hd.fn[i]? = some d) (ha : d.at_ = (x, none)) (hf : d.dfl = [] ∧ d.kwd = []) (hg : hd.fa[j]? = some (.glo x)) (S : FnScope N ps d.scope)
    (hb : ∀ (kV doc pm : Value) (an : Option Addr) (cdv ct : Value) (us : List Value), us.length = ps.length → bindArgs (PySem.W.fnOf d.name d.qual d.params d.body d.scope .none kV doc pm an cdv ct) ⟨us, []⟩ = pure (ps.zip us))
    (hk : JSs U k ⟨N, d.scope, fun _ => true, false, none, true⟩ d.body w) : FnHas U.P U.w U.K U.mg U.base (k + 1) x (spW N ps.length w) := by
  obtain ⟨fd, D⟩ := F.says.1.def_ i h
  have e1 : d.dvs U.K = [] := by unfold He.DefD.dvs; rw [hf.1]; rfl
  have e2 : d.kws U.K = [] := by unfold He.DefD.kws; rw [hf.2]; rfl
  rw [e1, e2, ha] at D
  exact ⟨_, F.glo j hg, fn_at D S hb hk⟩
/-- .. that never is called -/
theorem Fct.fn0 (F : Fct hd U) {k : Nat} {ps : List Str} (i j : Nat) {d : He.DefD} {x : Str} (h : hd.fn[i]? = some d) (ha : d.at_ = (x, none)) (hf : d.dfl = [] ∧ d.kwd = []) (hg : hd.fa[j]? = some (.glo x))
    (hb : ∀ (kV doc pm : Value) (an : Option Addr) (cdv ct : Value) (us : List Value), us.length = ps.length → bindArgs (PySem.W.fnOf d.name d.qual d.params d.body d.scope .none kV doc pm an cdv ct) ⟨us, []⟩ = pure (ps.zip us)) :
    FnHas U.P U.w U.K U.mg U.base k x (fun _ _ _ _ => False) := by
  obtain ⟨fd, D⟩ := F.says.1.def_ i h
  have e1 : d.dvs U.K = [] := by unfold He.DefD.dvs; rw [hf.1]; rfl
  have e2 : d.kws U.K = [] := by unfold He.DefD.kws; rw [hf.2]; rfl
  rw [e1, e2, ha] at D
  refine ⟨_, F.glo j hg, fd, ps, ⟨fun vs H Q E z => ?_, fun A outer s H args us vs Q E _ _ _ _ z => ?_⟩, D.kp, D.bindsN hb⟩
  · obtain ⟨_, _, _, _, _, _, z, _⟩ := z
    exact z.elim
  · obtain ⟨_, _, _, _, _, _, z, _⟩ := z
    exact z.elim
end
section
variable {U : Ud} {k : Nat} {n : Nm} {e a b c tg iter elt : Expr} {es : List Expr} {pos pos' p apos : Pos} {x m : Str} {wa wb wc w : WE} {ws : WA} {g : WG} {wi : WI} {t u : WS} {sts body : List Stmt}
theorem m_var (i : Nat) (h : vB n i x = true) : JE U k n (.Name x pos) (wVar i) := by
  obtain ⟨h1, h⟩ := He.ba h
  obtain ⟨h2, h⟩ := He.ba h
  obtain ⟨h3, h4⟩ := He.ba h
  exact n_var i (of_decide_eq_true h1) (vis_ok h2) (dbg_ok h3) (nb h4)
theorem m_gc {d : D} (f : GC U x d) (h : gB n x = true) : JE U k n (.Name x pos) (wCst d) := n_gc f (of_decide_eq_true (He.ba h).1) (dbg_ok (He.ba h).2)
def tyB (n : Nm) (x : Str) (T : String) : Bool := gB n x && (decide (bootBuiltins x = some (.type T)) && decide (x ≠ "__name__"))
theorem m_ty (T : String) (f : U.mg x = none) (h : tyB n x T = true) : JE U k n (.Name x pos) (wCst (.ty T)) := by
  obtain ⟨h1, h⟩ := He.ba h
  obtain ⟨h2, h3⟩ := He.ba h
  exact n_ty (of_decide_eq_true (He.ba h1).1) f (of_decide_eq_true h2) (of_decide_eq_true h3) (dbg_ok (He.ba h1).2)
def caB (n : Nm) (x : Str) (es : List Expr) : Bool := gB n x && (es.all noStar && !n.hot)
theorem m_call {sp : SpD} {j : Nat} (f : FnHas U.P U.w U.K U.mg U.base j x sp) (hj : j ≤ k) (h : caB n x (e :: es) = true) (ha : JA U k n (e :: es) ws) : JE U k n (.Call (.Name x p) (e :: es) [] pos) (wCall sp ws) := by
  obtain ⟨h1, h⟩ := He.ba h
  obtain ⟨h2, h3⟩ := He.ba h
  exact n_call f (nb h3) hj (of_decide_eq_true (He.ba h1).1) (dbg_ok (He.ba h1).2) ha h2
theorem m_call0 {sp : SpD} {j : Nat} (f : FnHas U.P U.w U.K U.mg U.base j x sp) (hj : j ≤ k) (h : caB n x [] = true) : JE U k n (.Call (.Name x p) [] [] pos) (wCall sp wNil) := by
  obtain ⟨h1, h⟩ := He.ba h
  exact n_call0 f (nb (He.ba h).2) hj (of_decide_eq_true (He.ba h1).1) (dbg_ok (He.ba h1).2)
def bfB (n : Nm) (x : Str) (v : Value) (es : List Expr) : Bool := gB n x && (decide (bootBuiltins x = some v) && (decide (x ≠ "__name__") && es.all noStar))
theorem m_blt {id : String} {o : CD} (hc : ∀ X W, Gd U k n X W → CallR X (.builtin id) (upC X o)) (f : U.mg x = none) (h : bfB n x (.builtin id) (e :: es) = true) (ha : JA U k n (e :: es) ws) : JE U k n (.Call (.Name x p) (e :: es) [] pos) (wCl o ws) := by
  obtain ⟨h1, h⟩ := He.ba h
  obtain ⟨h2, h⟩ := He.ba h
  obtain ⟨h3, h4⟩ := He.ba h
  exact n_blt hc (of_decide_eq_true (He.ba h1).1) f (of_decide_eq_true h2) (of_decide_eq_true h3) (dbg_ok (He.ba h1).2) ha h4
theorem m_bty {T : String} {o : CD} (hc : ∀ X W, Gd U k n X W → CallR X (.type T) (upC X o)) (f : U.mg x = none) (h : bfB n x (.type T) (e :: es) = true) (ha : JA U k n (e :: es) ws) : JE U k n (.Call (.Name x p) (e :: es) [] pos) (wCl o ws) := by
  obtain ⟨h1, h⟩ := He.ba h
  obtain ⟨h2, h⟩ := He.ba h
  obtain ⟨h3, h4⟩ := He.ba h
  exact n_bty hc (of_decide_eq_true (He.ba h1).1) f (of_decide_eq_true h2) (of_decide_eq_true h3) (dbg_ok (He.ba h1).2) ha h4
theorem f_abs : ∀ X W, Gd U k n X W → CallR X (.builtin "abs") (upC X cAbs) := fun _ _ _ => cr_cAbs
theorem f_len : ∀ X W, Gd U k n X W → CallR X (.builtin "len") (upC X cLen) := fun _ _ _ => cr_cLen
theorem f_isi : ∀ X W, Gd U k n X W → CallR X (.builtin "isinstance") (upC X cIsi) := fun _ _ _ => cr_cIsi
theorem f_int : ∀ X W, Gd U k n X W → CallR X (.type "int") (upC X cInt) := fun _ _ _ => cr_cInt
theorem f_str : ∀ X W, Gd U k n X W → CallR X (.type "str") (upC X cStr) := fun _ _ _ => cr_cStr
theorem f_list : ∀ X W, Gd U k n X W → CallR X (.type "list") (upC X cList) := fun _ _ _ => cr_cList
theorem f_tuple : ∀ X W, Gd U k n X W → CallR X (.type "tuple") (upC X cTuple) := fun _ _ _ => cr_cTuple
theorem f_max (h : n.hot = false) : ∀ X W, Gd U k n X W → CallR X (.builtin "max") (upC X cMax) := fun _ _ g => cr_cMax (g.calm h)
theorem f_min (h : n.hot = false) : ∀ X W, Gd U k n X W → CallR X (.builtin "min") (upC X cMin) := fun _ _ g => cr_cMin (g.calm h)
theorem f_all (h : n.hot = false) : ∀ X W, Gd U k n X W → CallR X (.builtin "all") (upC X cAll) := fun _ _ g => cr_cAll (g.calm h)
theorem f_any (h : n.hot = false) : ∀ X W, Gd U k n X W → CallR X (.builtin "any") (upC X cAny) := fun _ _ g => cr_cAny (g.calm h)
theorem f_sum (h : n.hot = false) : ∀ X W, Gd U k n X W → CallR X (.builtin "sum") (upC X cSum) := fun _ _ g => cr_cSum (g.calm h)
theorem m_acons (ha : JE U k n e wa) (hr : JA U k n es ws) (h : noStar e = true) : JA U k n (e :: es) (wCons wa ws) := a_cons ha hr h
theorem m_rng1 (f : U.mg "range" = none) (h : caB n "range" [a] = true) (ha : JA U k n [a] ws) : JI U k n tg (.Call (.Name "range" p) [a] [] pos) (wRng1 ws) := by
  obtain ⟨h1, h⟩ := He.ba h
  obtain ⟨h2, h3⟩ := He.ba h
  rw [List.all_cons, Bool.and_eq_true] at h2
  exact i_rng1 (of_decide_eq_true (He.ba h1).1) f ha h2.1
theorem m_rng2 (f : U.mg "range" = none) (h : caB n "range" [a, b] = true) (ha : JA U k n [a, b] ws) : JI U k n tg (.Call (.Name "range" p) [a, b] [] pos) (wRng2 ws) := by
  obtain ⟨h1, h⟩ := He.ba h
  obtain ⟨h2, h3⟩ := He.ba h
  rw [List.all_cons, List.all_cons, Bool.and_eq_true, Bool.and_eq_true] at h2
  exact i_rng2 (of_decide_eq_true (He.ba h1).1) f ha h2.1 h2.2.1
theorem m_set (i : Nat) (h : (stoB n i x && !isComp e) = true) (he : JE U k n e w) : JS U k n (.Assign [.Name x pos'] e pos) (wAsg w (gNm i)) := by
  obtain ⟨h1, h2⟩ := He.ba h
  exact s_set (sto_ok h1).1 (sto_ok h1).2 he (nb h2)
theorem m_gnm (i : Nat) {R : SR} (h : stoB n i x = true) (hR : ∀ σ v, R σ (σ.set i v)) : JG U k n R (.Name x pos) (gNm i) := g_nm (sto_ok h).1 (sto_ok h).2 hR
theorem m_for (h : (!n.hot && !isSet iter) = true) (hi : JI U k n tg iter wi) (hg : JG U k n anyR tg g) (hb : JSs U k n body t) : JS U k n (.For tg iter body [] pos) (wFor wi g t) := s_for (nb (He.ba h).1) hi hg hb (nb (He.ba h).2)
section
variable {scope : Scope} {own : List (Str × Nat)} {tt : WB}
theorem m_lc (own : List (Str × Nat)) (h : (!n.hot && (blkC n.N n.sc scope own && !isSet iter)) = true) (hi : JI U k n tg iter wi) (hg : JG U k (n.blk scope) (ownR (own.map (·.2))) tg g) (ht : JTs U k (n.blk scope) es tt) (he : JE U k (n.blk scope) elt w) :
    JE U k n (.ListComp elt [⟨tg, iter, es, 0⟩] scope pos) (wLc wi (own.map (·.2)) g tt w) := n_lc (nb (He.ba h).1) (He.ba (He.ba h).2).1 hi hg ht he (nb (He.ba (He.ba h).2).2)
/-- whether name = [..] is stored ahead of the block's end or behind it, the same -/
theorem m_slc (own : List (Str × Nat)) (i : Nat) {py spos : Pos} (h : ((!n.hot && (blkC n.N n.sc scope own && !isSet iter)) && stoB n i x) = true) (hi : JI U k n tg iter wi) (hg : JG U k (n.blk scope) (ownR (own.map (·.2))) tg g)
    (ht : JTs U k (n.blk scope) es tt) (he : JE U k (n.blk scope) elt w) : JS U k n (.Assign [.Name x py] (.ListComp elt [⟨tg, iter, es, 0⟩] scope pos) spos) (wAsg (wLc wi (own.map (·.2)) g tt w) (gNm i)) := by
  obtain ⟨h, h3⟩ := He.ba h
  obtain ⟨s1, s2⟩ := sto_ok h3
  cases q : swB n.sc scope x py pos with
  | false => exact s_lc' s1 s2 q (m_lc own h hi hg ht he)
  | true =>
    have hl : n.sc.names.lookup x = some .local := by
      unfold swB at q
      simp only [Bool.and_eq_true, beq_iff_eq] at q
      exact q.1.1.2
    exact s_lc (nb (He.ba h).1) s1 hl q (He.ba (He.ba h).2).1 hi hg ht he (nb (He.ba (He.ba h).2).2)
end
end
end Fg
/-! Fg16: a list comprehension within an except suite; isinstance of the caught error. -/
namespace Fg
open PySem PySem.Spec L2
open PyProof.Rows hiding St
open L2H (HotC Hot1 PIH TurnH)
abbrev blkP (X : Cx) (s : Shared) (H : Hp) (scope : Scope) (cenv : PySem.Env) (fp : List Addr) (p : Addr × Obj) : Cx := { X.blk s H scope cenv fp with pn := [p] }
abbrev Loc3 := List (Str × Addr)
section
variable {X : Cx} {pins : List (Addr × Obj)} {σ : St} {H : Hp} {s : Shared} {p : Addr × Obj} {scope : Scope} {own : List (Str × Nat)} {fp : List Addr}
abbrev cloC (X : Cx) (s : Shared) (scope : Scope) : Loc3 := cellsFrom (s.heap.objs.size + 1) scope.names (cloFrom X.env.cells scope.names [])
abbrev envC (X : Cx) (s : Shared) (scope : Scope) : PySem.Env := compEnvC scope (cloC X s scope) s.heap.objs.size X.env
abbrev heapC (s : Shared) (scope : Scope) : Shared := { s with heap := pushCells (s.heap.push { cls := .type "dict", data := .dict #[] }) scope.names }
theorem heapC_keeps {b : Addr} {o : Obj} (e : s.heap.get? b = some o) : (heapC s scope).heap.get? b = some o := pushCells_keeps _ _ _ _ (Heap.get?_push_of_some _ e)
theorem blkP_start (I : Inv X pins σ H s) (hm : p ∈ X.pn) (ok : BlkOk X.N X.env.scope scope own) (hN : X.N.Nodup) (hfp : ∀ b ∈ fp, FpOk X pins H b ∧ b < s.heap.objs.size) :
    Inv (blkP X s H scope (envC X s scope) fp p) [] (wipe σ (own.map (·.2))) H (heapC s scope) := by
  have B := block_start I ok hN hfp
  obtain ⟨g1, g2, g3, g4, g5⟩ := I.pin p (List.mem_append_left _ hm)
  have k := B.ok
  refine ⟨⟨k.mod, k.kind, k.glob, k.blt, k.above, k.inj, k.has, k.cab, k.hd, k.frames, k.stk, k.exf, k.bs, k.bsz, k.noex, k.exfs, k.funs, k.frf⟩, B.os, B.bare, B.base, B.loc, B.cell, B.free, B.freeC, fun r hr => ?_, B.hok, B.len⟩
  have er : r = p := by simpa using hr
  subst er
  refine ⟨heapC_keeps g1, g2, Nat.ne_of_lt (Heap.lt_size g1), fun hf => ?_, g5⟩
  rcases I.ok.stk with e | ⟨e, f⟩
  · exact g4 (by show r.1 ∈ frs X.outer; rw [← e]; exact hf)
  · have hf : r.1 ∈ frs X.stack := hf
    rw [e] at hf
    unfold frs at hf
    rw [List.filterMap_cons, f] at hf
    rcases List.mem_cons.mp hf with z | z
    · exact g3 z
    · exact g4 z
variable {elt tg iter : Expr} {ifs : List Expr} {pos : Pos} {wi : TI} {g : TG} {tt : TT} {te : TE} {Q : VK}
theorem lc_hot (hp : Hot1 X.A p) (hm : p ∈ X.pn) (hN : X.N.Nodup) (I : Inv X pins σ H s) (hi : PIH X tg iter wi) (ok : BlkOk X.N X.env.scope scope own)
    (hg : ∀ (s : Shared) (H : Hp) (C : Addr) (cl : Loc3) (fp : List Addr), PG (blkP X s H scope (compEnvC scope cl C X.env) fp p) tg g) (ht : ∀ (s : Shared) (H : Hp) (C : Addr) (cl : Loc3) (fp : List Addr), PTs (blkP X s H scope (compEnvC scope cl C X.env) fp p) ifs tt)
    (he : ∀ (s : Shared) (H : Hp) (C : Addr) (cl : Loc3) (fp : List Addr), PE (blkP X s H scope (compEnvC scope cl C X.env) fp p) elt te) (hs : ∀ x, foldedSetIterable iter X.env x = pure x) (h : tLc wi g tt te (own.map (·.2)) σ H Q) :
    wpAny (model X.prog X.w) X.A (eval (.ListComp elt [⟨tg, iter, ifs, 0⟩] scope pos) X.env) (EP X pins σ Q) X.xe s := by
  have cellOf : ∀ y ∈ scope.names, y.2 = .free → ∃ c, X.env.cells.lookup y.1 = some c := fun y hy e => (ok.free y hy e).elim (fun k => I.ok.has _ (.inl k)) fun k => I.ok.has _ (.inr k)
  rw [eval_ListComp]
  refine wpAny_comprehension_free (use := none) rfl hs (closure_ok cellOf) ok.kind (fun y hy e => (ok.uniq y hy).trans (by rw [e])) (thn (hi.run pins s σ H _ I h) fun xv s1 hx => thn hx fun itv s2 h2 => ?_)
  obtain ⟨it, fp, tn, J, H2, rfl, I2, T, st2, f2, q⟩ := h2
  refine wpAny_newObj_type (newEnv_comp ?_) (Nat.zero_le sizeLine)
  have fresh : H2 s2.heap.objs.size = none := I2.hok.fresh (Nat.le_refl _)
  obtain ⟨Wm, ⟨m0, w0⟩, turn⟩ := q _ fresh
  generalize eD : s2.heap.objs.size = D at *
  generalize e3 : ({ s2 with heap := s2.heap.push { cls := .type "list", data := .seq ([] : List Value).toArray } } : Shared) = s3
  have p3 : s3.heap = s2.heap.push { cls := .type "list", data := .seq ([] : List Value).toArray } := by rw [← e3]
  have I3 : Inv X pins σ (upd H2 D (.lst [])) s3 := by
    subst e3 eD
    exact I2.laid (t' := s2.toks) (fun b o e => Heap.get?_push_of_some _ e) (Nat.le_refl _) ⟨Nat.zero_le _, [], 0, .nil, Heap.get?_push_size _ rfl⟩
  have fr3 : ∀ b ∈ fp, FpOk X pins (upd H2 D (.lst [])) b ∧ b < s3.heap.objs.size := fun b hb => by
    obtain ⟨o, e, _⟩ := T.obj _ _ st2 b hb
    have hl := Heap.lt_size e
    have z := f2 b hb
    exact ⟨⟨by rw [upd_ne (by rw [← eD]; exact Nat.ne_of_lt hl)]; exact z.1, z.2⟩, by rw [p3, Heap.size_push]; exact Nat.lt_succ_of_lt hl⟩
  generalize eH : upd H2 D (.lst []) = H3 at *
  have I4 := blkP_start I3 hm ok hN fr3
  have Lg := hg s3 H3 s3.heap.objs.size (cloC X s3 scope) fp
  have Lt := ht s3 H3 s3.heap.objs.size (cloC X s3 scope) fp
  have Le := he s3 H3 s3.heap.objs.size (cloC X s3 scope) fp
  have st4 : tn 0 (heapC s3 scope).heap := T.keep _ _ _ st2 fun b _ o e => heapC_keeps (by rw [p3]; exact Heap.get?_push_of_some _ e)
  have hotY : HotC (blkP X s3 H3 scope (envC X s3 scope) fp p) := ⟨p, hp, List.mem_singleton.mpr rfl⟩
  have hpn : ∀ b ∈ fp, p.1 ≠ b := fun b hb => (fr3 b hb).1.2.2.2.2.2 p (List.mem_append_left _ hm)
  have fpY : ∀ {σ' : St} {H' : Hp} {s' : Shared}, Inv (blkP X s3 H3 scope (envC X s3 scope) fp p) [] σ' H' s' → (∀ b ∈ fp, H' b = none) → ∀ b ∈ fp, FpOk (blkP X s3 H3 scope (envC X s3 scope) fp p) [] H' b := fun {σ' H' s'} K n b hb =>
    ⟨n b hb, (K.ok.exf b hb).1, K.ok.exfs b hb, .inl hb, fun x c e => (K.ok.exf b hb).2 x c e, fun r hr => by
      have er : r = p := by simpa using hr
      rw [er]; exact hpn b hb⟩
  show codeAny _ _ (.compStart _ 0 (.ref it) (.ref D) (envC X s3 scope)) (compPost _ _ _ none _ (.ref D) s3.heap.objs.size) (heapC s3 scope)
  have loop : codeAny (model X.prog X.w) X.A (.compLoop (.ListComp elt [⟨tg, iter, ifs, 0⟩] scope pos) 0 (.ref it) (.ref D) (envC X s3 scope)) (compPost (model X.prog X.w) X.A X.xe none (EP X pins σ Q) (.ref D) s3.heap.objs.size) (heapC s3 scope) := by
    refine compLoop_any (fun m s' => ∃ i H', Inv (blkP X s3 H3 scope (envC X s3 scope) fp p) [] (wipe σ (own.map (·.2))) H' s' ∧ tn i s'.heap ∧ (∀ b ∈ fp, H' b = none) ∧ Wm i m H') ?_ m0 ⟨0, H3, I4, st4, fun b hb => (fr3 b hb).1.1, w0⟩
    rintro m s5 ⟨i, H5, I5, st5, n5, w5⟩
    rcases turn i m H5 w5 with ⟨stop, qq⟩ | ⟨go, Nx, hNx, step⟩
    · refine thnF (T.done (blkP X s3 H3 scope (envC X s3 scope) fp p) rfl rfl rfl hotY i [] s5 _ H5 (fun _ _ => False) I5 (fpY I5 n5) st5 stop) fun r s6 ⟨hr, I6⟩ => ?_
      subst hr
      have I7 : Inv X pins σ H5 s6 := I3.call' (ch := fp) I6.os I6.base I6.hok I6.bare fun b hb => let z := (fr3 b hb).1.2; ⟨z.2.2.1, z.1, z.2.2.2.1, z.2.2.2.2⟩
      have nC : H5 s3.heap.objs.size = none := I6.free
      obtain ⟨mm, hn, _⟩ := I6.loc
      obtain ⟨a0, a1, a2, a3, a4, a5⟩ := I3.fpOk (Nat.le_refl _) nC
      exact ⟨mm, hn, fun h'' sb => ⟨.ref D, H5, I7.turned (t' := s6.toks) (fun b o hb e => (sb.2 b hb).trans e) a0 a1 a3 a4 a5, rfl, qq⟩⟩
    · refine thnF (T.item (blkP X s3 H3 scope (envC X s3 scope) fp p) rfl rfl rfl hotY i [] s5 _ H5 (fun _ _ => False) I5 (fpY I5 n5) st5 go) fun r s6 ⟨u, hr, h6⟩ => ?_
      subst hr
      refine thnF h6 fun _ s7 ⟨x, H7, I7, r7, yl7, st7, n7⟩ => ?_
      have I7' := I7.pinned (fpY I7 n7) (T.obj _ _ st7)
      refine thnF (Lg.run _ s7 _ H7 x u _ I7' r7 (step x H7 yl7)) fun _ s8 ⟨σ8, H8, I8, hw8, q8⟩ => ?_
      have close : ∀ {s' : Shared} {H' : Hp}, Inv (blkP X s3 H3 scope (envC X s3 scope) fp p) ([] ++ pinsAt fp s7.heap) σ8 H' s' → Nx H' → ∃ m', m' < m ∧ ∃ i H', Inv (blkP X s3 H3 scope (envC X s3 scope) fp p) [] (wipe σ (own.map (·.2))) H' s' ∧ tn i s'.heap ∧ (∀ b ∈ fp, H' b = none) ∧ Wm i m' H' := fun {s' H'} K nx => by
        obtain ⟨m', lt, w'⟩ := hNx H' nx
        have kp : ∀ b ∈ fp, ∀ o, s7.heap.get? b = some o → s'.heap.get? b = some o ∧ H' b = none := fun b hb o e =>
          let z := K.pin (b, o) (List.mem_append_right _ (List.mem_append_right _ (mem_pinsAt hb e))); ⟨z.1, z.2.1⟩
        refine ⟨m', lt, i + 1, H', (K.unpinned (pins := [])).weak (by rw [← hw8, wipe_length]) (fun j v e => ?_), T.keep _ _ _ st7 fun b hb o e => (kp b hb o e).1, fun b hb => ?_, w'⟩
        · rw [← hw8] at e; exact (wipe_some e).1
        · obtain ⟨o, e, _⟩ := T.obj _ _ st7 b hb
          exact (kp b hb o e).2
      refine thnF (Lt.run _ s8 σ8 H8 _ I8 q8) fun b s9 ⟨H9, I9, q9⟩ => ?_
      cases b with
      | false => exact close I9 q9
      | true => exact thnF (Le.run _ s9 σ8 H9 _ I9 q9) fun z s10 ⟨yv, H10, I10, r10, acc, hD, hz, nx⟩ => app_ok (X := blkP X s3 H3 scope (envC X s3 scope) fp p) I10 hD hz r10 fun s11 I11 => close I11 nx
  refine codeAny_compStart_list loop ?_
  exact T.self X.A 0 _ _ _ st4 loop
end
theorem PIH_imp {X : Cx} {tg e : Expr} {t t' : TI} (h : PIH X tg e t) (q : ∀ σ H R, t' σ H R → t σ H R) : PIH X tg e t' := ⟨fun pins s σ H R I z => h.run pins s σ H R I (q σ H R z)⟩
def JIH (U : Ud) (k : Nat) (n : Nm) (tg e : Expr) (w : WI) : Prop := ∀ X W, Gd U k n X W → PIH X tg e (upI X W w)
/-- a block within a suite -/
def Nm.blkH (n : Nm) (scope : Scope) : Nm := ⟨n.N, relS scope n.sc, fun x => scope.names.lookup x == some .cell, true, none, false⟩
section
variable {U : Ud} {k : Nat} {n : Nm} {a elt tg iter : Expr} {es : List Expr} {pos p : Pos} {ws : WA} {wi : WI} {g : WG} {tt : WB} {w : WE} {scope : Scope} {own : List (Str × Nat)}
theorem Gd.blkH {X : Cx} {W : WX} (g : Gd U k n X W) (hh : n.hot = true) {p : Addr × Obj} (hp : Hot1 X.A p) (s : Shared) (H : Hp) (scope : Scope) (C : Addr) (cl : Loc3) (fp : List Addr) : Gd U k (n.blkH scope) (blkP X s H scope (compEnvC scope cl C X.env) fp p) W0 := by
  have e : (compEnvC scope cl C X.env).scope = relS scope X.env.scope := rfl
  exact ⟨g.eP, g.eW, g.eK, g.eM, g.eB, g.eN, by rw [e, g.eS]; rfl, g.nd, fun h => (nomatch h), fun h => (nomatch h), g.hu, takes0N, fun h => (nomatch h), fun _ _ _ h => (nomatch h), fun _ => ⟨⟨p, hp, List.mem_singleton.mpr rfl⟩, (g.hotc hh).2⟩, fun h => (nomatch h), fun _ h => h⟩
theorem h_rng1 (f : U.mg "range" = none) (hg : gB n "range" = true) (hs : noStar a = true) (ha : JA U k n [a] ws) : JIH U k n tg (.Call (.Name "range" p) [a] [] pos) (wRng1 ws) := fun X W g =>
  PIH_imp (L2H.pi_range1H (g.gl (of_decide_eq_true (He.ba hg).1)) (g.mgN f) (ha X W g) (star_cons hs)) rng1_up
theorem n_lcH (hh : n.hot = true) (ok : blkC n.N n.sc scope own = true) (hi : JIH U k n tg iter wi) (hg : JG U k (n.blkH scope) (ownR (own.map (·.2))) tg g) (ht : JTs U k (n.blkH scope) es tt) (he : JE U k (n.blkH scope) elt w) (hs : isSet iter = false) :
    JE U k n (.ListComp elt [⟨tg, iter, es, 0⟩] scope pos) (wLc wi (own.map (·.2)) g tt w) := fun X W g' => by
  obtain ⟨⟨p, hp, hm⟩, _⟩ := g'.hotc hh
  have hb : BlkOk X.N X.env.scope scope own := by have := blkOk_by ok; rw [← g'.eN, ← g'.eS] at this; exact this
  refine ⟨fun pins s σ H Q I z => ?_⟩
  exact lc_hot (g := upGR X W0 (ownR (own.map fun (p : Str × Nat) => p.2)) g) (tt := upB X W0 tt) (te := upE X W0 w) hp hm g'.nm I (hi X W g') hb (fun s H C cl fp => hg _ _ (g'.blkH hh hp s H scope C cl fp)) (fun s H C cl fp => ht _ _ (g'.blkH hh hp s H scope C cl fp)) (fun s H C cl fp => he _ _ (g'.blkH hh hp s H scope C cl fp)) (fold_no hs) (tLc_of z)
end
end Fg
/-! Fg17: isinstance of the caught error. -/
namespace Fg
open PySem PySem.Spec L2
open PyProof.Rows hiding St
section
variable {prog : Program} {w : World} {A : Around} {E : Value → Shared → Prop} {s : Shared} {K : PySem.W.Frag} {x D : Addr} {ox : Obj} {od : Option Obj}
theorem err_find (F : ExcC K D) : PySem.W.findObj K D od "__class__" = some (.bind (.builtin "getset_descriptor.__get__") (.builtin "object.__class__")) := by
  obtain ⟨cd, hc, _⟩ := PySem.W.any_some F.hd
  have e : PySem.W.findObj K D od "__class__" = (PySem.W.clsIn K D).bind fun cd => _ := rfl
  rw [e, hc, Option.bind_some, F.ha, Option.bind_some]
  simp [F.hn, F.ht]
theorem err_class {Q : Option Value → Shared → Prop} (F : ExcC K D) (X : K.In s.heap) (I : PySem.W.InstAt s.heap x ox D od) (h : Q (some (.ref D)) { s with toks := s.toks + 1 }) : wpAny (model prog w) A (getAttr? (.ref x) "__class__") Q E s := by
  have fo := err_find (od := od) F
  obtain ⟨hp, g, d, t, os⟩ := s
  have ty := I.type (M := model prog w)
  have up : PySem.W.Looks (model prog w) hp (isInstance (.ref x) (.type "BaseException")) true := ty.andThen (PySem.W.looks_subIn X F.hs)
  have n0 : (Value.builtin "BaseException.__getattribute__" == Value.builtin "object.__getattribute__") = false := by decide +kernel
  have n1 : (onTheHeap (Value.ref D) && Value.builtin "BaseException.__getattribute__" == Value.builtin "object.__getattribute__") = false := by rw [n0]; rfl
  have n2 : (false && onTheHeap (Value.builtin "BaseException.__getattribute__")) = false := rfl
  have inner : ∀ {R : Result → Shared → Prop}, R (.ok (.ret (.ref D))) ⟨hp, g, d, t + 1, os⟩ → codeAny (model prog w) A (.call (.builtin "BaseException.__getattribute__") ⟨[.ref x, .str "__class__" t], []⟩) R ⟨hp, g, d, t + 1, os⟩ := fun {R} q => by
    refine codeAny_call_builtin PySem.F.excAttr_ValueError.ga.plain PySem.F.entry_bexc_ga (@PySem.W.check_slot (model prog w) _ _ ⟨hp, g, d, t + 1, os⟩ "BaseException.__getattribute__" "BaseException" "__getattribute__" (.ref x) [.str "__class__" t] [] _ (by decide +kernel) (by decide +kernel) up (PySem.F.args_bexc_ga (.ref x) (.str "__class__" t)) ?_)
    unfold Builtin.«object.__getattribute__»
    refine wpAny_bind (wpAny_of_eq (a := ((Value.ref x : Value), [Value.str "__class__" t])) (by first | rfl | (simp only [slotArgs]; rfl)) (wpAny_bind (wpAny_pure (wpAny_bind (ty.at (wpAny_bind ((PySem.W.looks_find X I fo).at ?_)))))))
    show wpAny (model prog w) _ (holding [Value.builtin "object.__class__"] (call (.builtin "getset_descriptor.__get__") [.builtin "object.__class__", .ref x, .ref D]) >>= ret) _ _ _
    exact wpAny_bind (wpAny_holding (wpAny_call (PySem.W.class_get (s := ⟨hp, g, d, t + 1, os⟩) (ox := ox) (od := od) X I F.hm (wpAny_pure q))))
  unfold getAttr? getAttrBy? getAttrBy
  refine wpAny_bind (wpAny_mkText (wpAny_bind (wpAny_attempt (wpAny_holding (wpAny_bind (ty.at (wpAny_bind ((PySem.W.looks_findIn X F.hg).at ?_))))))))
  show wpAny (model prog w) _ (if (onTheHeap (Value.ref D) && Value.builtin "BaseException.__getattribute__" == Value.builtin "object.__getattribute__") = true then _ else _) _ _ _
  rw [n1, if_neg Bool.false_ne_true]
  unfold getAttrByItsOwn hookBefore
  refine wpAny_bind ?_
  rw [if_pos (show onTheHeap (Value.ref D) = true from rfl)]
  refine (PySem.W.looks_findIn X F.hk).at (wpAny_bind (wpAny_attempt (wpAny_holding ?_)))
  unfold callGetattribute boundAndCalled
  rw [n2, if_neg Bool.false_ne_true, PySem.F.excAttr_ValueError.ga.bind (.ref x)]
  refine wpAny_bind (wpAny_pure ?_)
  show wpAny (model prog w) _ (call (.builtin "BaseException.__getattribute__") [.ref x, .str "__class__" t]) _ _ _
  refine wpAny_call (inner ?_)
  show wpAny _ _ (handedOut (.ref D)) _ _ _
  rw [PySem.W.handedOut_of (v := .ref D) rfl]
  first
    | exact wpAny_pure (wpAny_pure h)
    | exact wpAny_pure h
    | exact wpAny_pure (wpAny_bind (wpAny_pure (wpAny_pure h)))
theorem err_kit (F : ExcC K D) : PySem.W.KitX K (.ref x) (.ref D) (fun h => ∃ ox od, PySem.W.InstAt h x ox D od) := by
  have cl : ∀ {h : Heap}, K.In h → ∃ o cd, h.get? D = some o ∧ o.data = .cls cd := fun X => by
    obtain ⟨cd, hc, _⟩ := PySem.W.any_some F.hd
    unfold PySem.W.clsIn at hc
    split at hc
    · rename_i c' d' cd' sl' ho
      exact ⟨_, _, X _ _ ho, rfl⟩
    · cases hc
  refine ⟨fun M h _ ⟨_, _, I⟩ => I.type, fun M h X _ => ?_, fun h tp dd its n sl X htp => Bool.eq_false_iff.mpr fun q => ?_, fun X ⟨_, _, I⟩ k => err_class F X I k⟩
  · obtain ⟨o, cd, h1, h2⟩ := cl X
    intro A' Q' E' s' k q
    unfold isType loadHead
    exact wpAny_bind (wpAny_loadPart (k _ _ h1) (by rw [h2]; exact wpAny_pure q))
  · obtain ⟨o, cd, h1, h2⟩ := cl X
    have e : D = tp := Value.ref.inj (beq_iff_eq.mp q)
    rw [e, htp] at h1
    cases h1
    cases h2
end
/-- a class as the text names it -/
inductive Cn where
  | own (c : Str)
  | blt (T : String)
def aliens : List String := ["ValueError", "LookupError", "ArithmeticError"]
def Cn.v (K : PySem.W.Frag) : Cn → V
  | .own c => .ref (He.ga K c)
  | .blt T => .ty T
def Cn.u (K : PySem.W.Frag) : Cn → Value
  | .own c => .ref (He.ga K c)
  | .blt T => .type T
def Cn.ok (xs : List Str) : Cn → Bool
  | .own c => xs.contains c
  | .blt T => aliens.contains T
def Cn.b (c0 : Str) : Cn → Bool
  | .own d => xsb c0 d
  | .blt _ => false
section
variable {K : PySem.W.Frag} {xs : List Str} {c0 : Str}
theorem cn_rel {c : Cn} {u : Value} (h : RelV (c.v K) u) : u = c.u K := by cases c <;> exact h
theorem cn_one (T : XcK K xs) (h0 : c0 ∈ xs) {c : Cn} (h : c.ok xs = true) : PySem.W.kitOne K (.ref (He.ga K c0)) (c.u K) = some (c.b c0) := by
  cases c with
  | own d => exact T.kit _ h0 _ (by simpa [Cn.ok] using h)
  | blt t => exact T.alien _ h0 _ (by simpa [Cn.ok, aliens] using h)
theorem cn_any (T : XcK K xs) (h0 : c0 ∈ xs) : ∀ {cs : List Cn}, cs.all (Cn.ok xs) = true → PySem.W.kitAny K (.ref (He.ga K c0)) (cs.map (Cn.u K)) = some (cs.any (Cn.b c0))
  | [], _ => rfl
  | c :: cs, h => by
    rw [List.all_cons, Bool.and_eq_true] at h
    rw [List.map_cons]
    unfold PySem.W.kitAny
    rw [cn_one T h0 h.1, List.any_cons]
    cases c.b c0 with
    | true => rfl
    | false => exact cn_any T h0 h.2
theorem cn_vals : ∀ {cs : List Cn} {us : List Value}, Vals (cs.map (Cn.v K)) us → us = cs.map (Cn.u K)
  | [], _, .nil => rfl
  | c :: cs, _, .cons r t => by rw [cn_rel r, cn_vals t]; rfl
end
section
variable {U : Ud} {k : Nat} {n : Nm} {e : Expr} {es : List Expr} {pos p : Pos} {c : Str} {wa : WE}
/-- names of classes -/
inductive CnEs (U : Ud) (n : Nm) : List Expr → List Cn → Prop
  | nil : CnEs U n [] []
  | own {c : Str} {p : Pos} {es : List Expr} {cs : List Cn} (hm : GCl U c) (hg : gB n c = true) (r : CnEs U n es cs) : CnEs U n (.Name c p :: es) (.own c :: cs)
  | blt {c : Str} {T : String} {p : Pos} {es : List Expr} {cs : List Cn} (hm : U.mg c = none) (hg : tyB n c T = true) (r : CnEs U n es cs) : CnEs U n (.Name c p :: es) (.blt T :: cs)
def tVs (vs : List V) : TA := fun _ H Q => Q vs H
theorem cn_pa {X : Cx} {W : WX} (g : Gd U k n X W) {es : List Expr} {cs : List Cn} (h : CnEs U n es cs) : PA X es (tVs (cs.map (Cn.v X.K))) := by
  induction h with
  | nil => exact pa_nil
  | own hm hg r ih => exact pa_cons (pe_glob (v := .ref _) (g.gl (of_decide_eq_true (He.ba hg).1)) (by rw [g.eM, g.eK]; exact hm) rfl (dbg_ok (He.ba hg).2)) ih (star_cons rfl)
  | @blt c T p es cs hm hg r ih =>
    obtain ⟨h1, h2⟩ := He.ba hg
    obtain ⟨h3, h4⟩ := He.ba h2
    exact pa_cons (pe_bltn (v := .ty T) (g.gl (of_decide_eq_true (He.ba h1).1)) (g.mgN hm) (of_decide_eq_true h3) rfl (of_decide_eq_true h4) (dbg_ok (He.ba h1).2)) ih (star_cons rfl)
def wXIs (xs : List Str) (ad : Addr) (x : Xn) (dd : Addr) (cs : List Cn) (wa : WE) : WE := fun ρ M Q E => wa ρ M (fun o M1 => o = .ref ad ∧ x.c ∈ xs ∧ (∃ f v, M1 dd = some (.xd f v)) ∧ Q (.bl (cs.any (Cn.b x.c))) M1) E
def isB (n : Nm) (xs : List Str) (cs : List Cn) (e : Expr) : Bool := bfB n "isinstance" (.builtin "isinstance") [e] && cs.all (Cn.ok xs)
theorem err_inst {X : Cx} {pins : List (Addr × Obj)} {σ : St} {H : Hp} {s : Shared} {ad dd : Addr} {oe : Obj} {C : Addr} {vs : Array Value} {fs : List (Str × V)} (I : Inv X pins σ H s) (hz : L2N.Zn (.ref C) (some dd) oe) (hv : oe.data = .fields vs) (hp : (ad, oe) ∈ X.pn) (hx : H dd = some (.xd fs)) :
    ∃ od, PySem.W.InstAt s.heap ad oe C od := by
  obtain ⟨hget, _⟩ := I.pin (ad, oe) (List.mem_append_left _ hp)
  obtain ⟨mA, hns, hr⟩ : ObjOk X.prog X.w H s.heap dd (.xd fs) := I.hok dd _ hx
  obtain ⟨od, ho, hl⟩ := lookIn_ns hns
  exact ⟨some od, hget, hz.1, by unfold PySem.W.notCls; rw [hv] <;> rfl, by rw [hz.2.1]; exact ho⟩
/-- isinstance(e, C) -/
theorem n_xis1 {xs : List Str} {ad dd : Addr} {x : Xn} {e2 : Expr} {cn : Cn} (T : XcK U.K xs) (hx : n.ex = some (ad, x, dd)) (f : U.mg "isinstance" = none) (hb : isB n xs [cn] e = true) (hs2 : noStar e2 = true) (hc : CnEs U n [e2] [cn]) (ha : JE U k n e wa) :
    JE U k n (.Call (.Name "isinstance" p) [e, e2] [] pos) (wXIs xs ad x dd [cn] wa) := fun X W g => by
  obtain ⟨b1, b2⟩ := He.ba hb
  obtain ⟨h1, h⟩ := He.ba b1
  obtain ⟨h2, h⟩ := He.ba h
  obtain ⟨h3, h4⟩ := He.ba h
  rw [List.all_cons, Bool.and_eq_true] at h4 b2
  obtain ⟨oe, hz, ⟨vs, hv⟩, hp⟩ := g.xc ad x dd hx
  have T' : XcK X.K xs := by rw [g.eK]; exact T
  rw [← g.eK] at hz
  have cr : CallR X (.builtin "isinstance") fun vs H Q => vs = [.ref ad, cn.v X.K] ∧ x.c ∈ xs ∧ (∃ fs, H dd = some (.xd fs)) ∧ Q (.bl (cn.b x.c)) H := fun pins s σ H vs us Q I r ⟨e1, hm, ⟨fs, hx1⟩, q⟩ => by
    subst e1
    cases r with
    | cons r1 r2 => cases r2 with
      | cons r2 r3 =>
        cases r3
        obtain rfl := cn_rel r2
        cases r1
        obtain ⟨od, J⟩ := err_inst I hz hv hp hx1
        exact PySem.W.kia_one (err_kit (T'.isC _ hm)) I.kIn ⟨_, _, J⟩ (cn_one T' hm b2.1) (fun z => nomatch z) fun tk => ⟨.bl _, H, I.kept (t' := tk) fun _ _ z => z, rfl, q⟩
  refine (pe_callB cr (g.gl (of_decide_eq_true (He.ba h1).1)) (g.mgN f) (of_decide_eq_true h2) (pa_cons (ha X W g) (cn_pa g hc) (star_cons h4.1)) (of_decide_eq_true h3) (dbg_ok (He.ba h1).2) (star_cons h4.1) (star_plain (by rw [List.all_cons, hs2]; rfl))).imp fun σ H Q z => ?_
  obtain ⟨ρ, M, Q0, E0, r, m, t, q, xg⟩ := z
  exact ⟨ρ, M, _, E0, r, m, t, fun d M1 t1 y H1 s1 rd m1 => by
    obtain ⟨rfl, h5, ⟨f1, v1, h7⟩, h6⟩ := t1
    cases rd
    obtain ⟨y1, h8, _⟩ := m1 dd _ h7
    exact ⟨rfl, h5, ⟨_, h8⟩, q _ M1 (by simpa using h6) _ H1 s1 (.bl _) m1⟩, xg⟩
/-- isinstance(e, (C, ..)) -/
theorem n_xis2 {xs : List Str} {ad dd : Addr} {x : Xn} {cs : List Cn} {tp : Pos} {kk : Nat} (T : XcK U.K xs) (hx : n.ex = some (ad, x, dd)) (f : U.mg "isinstance" = none) (hb : isB n xs cs e = true) (hz : cs.length ≤ 100) (hc : CnEs U n es cs) (ha : JE U k n e wa) :
    JE U k n (.Call (.Name "isinstance" p) [e, .Tuple es kk tp] [] pos) (wXIs xs ad x dd cs wa) := fun X W g => by
  obtain ⟨b1, b2⟩ := He.ba hb
  obtain ⟨h1, h⟩ := He.ba b1
  obtain ⟨h2, h⟩ := He.ba h
  obtain ⟨h3, h4⟩ := He.ba h
  rw [List.all_cons, Bool.and_eq_true] at h4
  obtain ⟨oe, hz', ⟨vs, hv⟩, hp⟩ := g.xc ad x dd hx
  have T' : XcK X.K xs := by rw [g.eK]; exact T
  rw [← g.eK] at hz'
  have cr : CallR X (.builtin "isinstance") fun vs H Q => ∃ q, vs = [.ref ad, .ref q] ∧ H q = some (.tup (cs.map (Cn.v X.K))) ∧ x.c ∈ xs ∧ (∃ fs, H dd = some (.xd fs)) ∧ Q (.bl (cs.any (Cn.b x.c))) H := fun pins s σ H vs us Q I r ⟨q0, e1, hq, hm, ⟨fs, hx1⟩, q⟩ => by
    subst e1
    cases r with
    | cons r1 r2 => cases r2 with
      | cons r2 r3 =>
        cases r3
        cases r2
        cases r1
        obtain ⟨od, J⟩ := err_inst I hz' hv hp hx1
        obtain ⟨_, its, rv, ⟨o, g1, g2, m, g3⟩⟩ : ObjOk X.prog X.w H s.heap q0 (.tup _) := I.hok q0 _ hq
        obtain rfl := cn_vals rv
        obtain ⟨oc, od2, dt, sl⟩ := o
        dsimp only at g2 g3
        subst g2 g3
        exact PySem.W.kia_tup (err_kit (T'.isC _ hm)) I.kIn ⟨_, _, J⟩ g1 (cn_any T' hm b2) (fun z => nomatch z) fun tk => ⟨.bl _, H, I.kept (t' := tk) fun _ _ z => z, rfl, q⟩
  refine (pe_callB cr (g.gl (of_decide_eq_true (He.ba h1).1)) (g.mgN f) (of_decide_eq_true h2) (pa_cons (ha X W g) (pa_cons (pe_tup (cn_pa g hc)) pa_nil (star_cons rfl)) (star_cons h4.1)) (of_decide_eq_true h3) (dbg_ok (He.ba h1).2) (star_cons h4.1) (star_plain rfl)).imp fun σ H Q z => ?_
  obtain ⟨ρ, M, Q0, E0, r, m, t, q, xg⟩ := z
  exact ⟨ρ, M, _, E0, r, m, t, fun d M1 t1 y H1 s1 rd m1 => by
    obtain ⟨rfl, h5, ⟨f1, v1, h7⟩, h6⟩ := t1
    cases rd
    obtain ⟨y1, h8, _⟩ := m1 dd _ h7
    refine ⟨by rw [List.length_map, sizeLine_eq]; omega, fun q0 hq => ⟨q0, rfl, upd_same, h5, ⟨[(f1, y1)], ?_⟩, q _ M1 h6 _ _ (s1.trans (Stb.new hq)) (.bl _) (m1.laid hq)⟩⟩
    · rw [upd_ne (fun z => by rw [z, hq] at h8; cases h8)]
      exact h8, xg⟩
end
end Fg
/-! Fg18: a law's end. -/
namespace Fg
open PySem PySem.Spec L2
open PyProof.Rows hiding St
/-- what a def lets out, in any world -/
def CXa (P : Program) : CXT := fun outer H s E u s' => ∃ w, L2N.CX P w outer H s E u s'
theorem fn_any {P : Program} {w : World} {K : PySem.W.Frag} {mg : Str → Option Value} {base : Heap} {k : Nat} {f : Addr} {fd : FuncData} {ps : List Str} {sp : Sp} (F : FnOk P w K mg base (L2N.CX P w) k f fd ps sp) : FnOk P w K mg base (CXa P) k f fd ps sp :=
  ⟨F.len, fun A outer s H args us vs Q E hr e0 hb hv hs => codeAny_mono (F.run A outer s H args us vs Q E hr e0 hb hv hs) fun r s' z => by
    cases r with
    | error e => exact ⟨w, z⟩
    | ok fl => cases fl <;> exact z⟩
/-- the script as data -/
def script (ns : List Int) : D := .rol (ns.map D.int)
theorem walk_law {l : PySem.W.OpenLaw} {hd : Hd} {k i j : Nat} {x : Str} {N : List Str} {wl : WS} {q : Program} {loose : List Str} {XP : (Str → Option Value) → Heap → Prop} {dr : DefRec} {d : He.DefD}
    (hn : l.most = some 63) (hdf : dr.params.defaults = []) (hr : Room (k + 1) callerA) (hdn : dr.name = ("law" : Str)) (hfn : hd.fn[i]? = some d) (ha : d.at_ = (("law" : Str), none)) (hdk : d.dfl = [] ∧ d.kwd = []) (hgl : hd.fa[j]? = some (.glo "law"))
    (S : FnScope N [x] d.scope) (hb : ∀ (kV doc pm : Value) (an : Option Addr) (cdv ct : Value) (us : List Value), us.length = 1 → bindArgs (PySem.W.fnOf d.name d.qual d.params d.body d.scope .none kV doc pm an cdv ct) ⟨us, []⟩ = pure ([x].zip us))
    (hfile : l.prog.main.file = hd.file) (htop : (l.prog.main.scope.names.lookup ("super" : Str)).isSome = false) (hk : ∀ U, Fct hd U → JSs U k ⟨N, d.scope, fun _ => true, false, none, true⟩ d.body wl)
    (law : ∀ ns : List Int, ns.length ≤ 63 → spW N 1 wl [script ns] (fun _ => none) (fun d _ => d = .bl true) noX) :
    PySem.W.WalkO q loose XP hd.hook.says l.row.toRowW dr [] (fun f vs => PySem.call f vs) := by
  refine L2.walk_ofE (l := l) (n := 63) (k := k + 1) (x := x) (CX := CXa l.prog) hn (by rw [sizeLine_eq]; decide) hdf hr ?_ ?_
  · intro w mg fa h Y G hmg
    obtain ⟨K, KX, c⟩ := Y
    obtain ⟨fd, FD⟩ := c.1.def_ i hfn
    have e1 : d.dvs K = [] := by unfold He.DefD.dvs; rw [hdk.1]; rfl
    have e2 : d.kws K = [] := by unfold He.DefD.kws; rw [hdk.2]; rfl
    rw [e1, e2, ha] at FD
    have efa : fa = He.fAd K (("law" : Str), none) := by
      rw [hdn] at hmg
      have z := hmg.symm.trans (He.glo_ok KX G (c.1.fact j hgl))
      injection z with z
      injection z
    subst efa
    have bA := FunD.bindsA (ps := [x]) FD hb
    refine ⟨K, fd, upSp K w (spW N 1 wl), KX, fun s v => bA s [v] rfl, fun H a ns hl hO hS => ?_, fun base KB GB => ?_⟩
    · have hz : Fz K H a (ns.map V.int) := by
        rcases hS with (h | ⟨o, h⟩) | h
        · rcases hO a with z | ⟨o, xs, z⟩
          · rw [z] at h; cases h
          · rw [z] at h; cases h
        · exact .inl ⟨o, h⟩
        · exact .inr h
      exact ⟨[script ns], fun _ => none, fun d _ => d = .bl true, noX, .cons (.rol hz RDs.ints) .nil, fun a o e => (nomatch e), law ns hl, fun d M' e y H' _ r _ => (by subst e; cases r; rfl), fun _ _ z => z.elim⟩
    · have U : Fct hd ⟨l.prog, w, K, mg, base⟩ := ⟨KB, GB, c, hfile, htop⟩
      exact fn_any (fn_okD (U := ⟨l.prog, w, K, mg, base⟩) (ps := [x]) FD S (hk _ U))
  · intro H s e s' ⟨w, a, B, H', cls, d, _, _, _, _, _, _, _, z⟩
    exact z
end Fg
namespace FgL
open PySem PySem.Spec L2 Fg
open PyProof.Rows hiding St
def top (i : Nat) : Stmt := PySem.Challenge.pw_figurehold_k00_errors.main.body.getD i (.Pass ⟨0, 0, 0, 0⟩)
abbrev s_flow_l : Stmt := top 13
def d_flow_l : He.DefD := ⟨("_law_flow", none), "_law_flow", "_law_flow", defArgs s_flow_l, defBody s_flow_l, defScope s_flow_l, [], []⟩
abbrev s_load_l : Stmt := top 14
def d_load_l : He.DefD := ⟨("_law_load", none), "_law_load", "_law_load", defArgs s_load_l, defBody s_load_l, defScope s_load_l, [], []⟩
abbrev s_draw_l : Stmt := top 15
def d_draw_l : He.DefD := ⟨("_law_draw", none), "_law_draw", "_law_draw", defArgs s_draw_l, defBody s_draw_l, defScope s_draw_l, [], []⟩
abbrev s_pick_l : Stmt := top 16
def d_pick_l : He.DefD := ⟨("_law_pick", none), "_law_pick", "_law_pick", defArgs s_pick_l, defBody s_pick_l, defScope s_pick_l, [], []⟩
abbrev s_same_l : Stmt := top 17
def d_same_l : He.DefD := ⟨("_law_same", none), "_law_same", "_law_same", defArgs s_same_l, defBody s_same_l, defScope s_same_l, [], []⟩
abbrev s_raise_l : Stmt := top 18
def d_raise_l : He.DefD := ⟨("_law_raise", none), "_law_raise", "_law_raise", defArgs s_raise_l, defBody s_raise_l, defScope s_raise_l, [], []⟩
abbrev s_kept_l : Stmt := top 19
def d_kept_l : He.DefD := ⟨("_law_kept", none), "_law_kept", "_law_kept", defArgs s_kept_l, defBody s_kept_l, defScope s_kept_l, [], []⟩
abbrev s_classes_l : Stmt := top 20
def d_classes_l : He.DefD := ⟨("_law_classes", none), "_law_classes", "_law_classes", defArgs s_classes_l, defBody s_classes_l, defScope s_classes_l, [], []⟩
abbrev s_given_l : Stmt := top 21
def d_given_l : He.DefD := ⟨("_law_given", none), "_law_given", "_law_given", defArgs s_given_l, defBody s_given_l, defScope s_given_l, [], []⟩
abbrev s_law : Stmt := top 22
def d_law : He.DefD := ⟨("law", none), "law", "law", defArgs s_law, defBody s_law, defScope s_law, [], []⟩
def xs : List Str := ["FigureError", "BadValue", "BadStep", "BadClaim", "BadPoint", "BadPaper", "BadLine", "Impossible", "Broken", "TooMany", "NothingThere"]
def fa : List He.Fa := [.free "list", .free "int", .glo "_law_flow", .free "abs", .free "len", .glo "_law_load", .free "max", .glo "_law_draw", .glo "_law_pick", .free "bool", .free "isinstance", .free "str", .free "tuple", .free "range", .free "all", .glo "_law_same", .free "super", .free "super", .glo "NothingThere", .free "super", .glo "TooMany", .free "super", .glo "Broken", .free "super", .glo "Impossible", .free "super", .glo "BadPoint", .free "super", .glo "BadLine", .free "super", .glo "BadPaper", .free "super", .glo "BadClaim", .free "super", .glo "BadStep", .free "super", .glo "BadValue", .glo "_law_raise", .glo "_law_kept", .free "ArithmeticError", .free "LookupError", .free "ValueError", .glo "FigureError", .glo "_law_classes", .glo "_law_given", .glo "law"]
def hd : Hd := ⟨6, fa, [d_flow_l, d_load_l, d_draw_l, d_pick_l, d_same_l, d_raise_l, d_kept_l, d_classes_l, d_given_l, d_law], xs, [("NothingThere", "word"), ("TooMany", "word"), ("Broken", "name"), ("Impossible", "name"), ("BadPoint", "name"), ("BadLine", "at"), ("BadPaper", "at"), ("BadClaim", "at"), ("BadStep", "at"), ("BadValue", "at")], PySem.Challenge.pw_figurehold_k00_errors.main.file⟩
/-! _law_flow -/
def w_flow_l_2 : WS :=
  (wSeq (wRet (wLst (wCons (wCl cList (wCons (wVar 0) wNil)) (wCons (wCst (.int 0)) (wCons (wCst (.int 0)) (wCons (wCst (.int 0)) (wCons (wVar 1) (wCons (wCst (.int 0)) wNil))))))))
  wNext)
def w_flow_l_1 : WS :=
  (wSeq (wFor (wWalk (wVar 0)) (gNm 2) (wSeq (wAsg (wOp dMod (wCl cInt (wCons (wOp dAdd (wOp dMul (wVar 1) (wCst (.int 31))) (wCl cInt (wCons (wVar 2) wNil))) wNil)) (wCst (.int 2147483647))) (gNm 1))
  wNext))
  w_flow_l_2)
def w_flow_l : WS :=
  (wSeq (wAsg (wCst (.int 1)) (gNm 1))
  w_flow_l_1)
def sp_flow_l : SpD := spW ["_law_script", "_law_mixed", "_law_cell"] 1 w_flow_l
theorem k_flow_l {U : Ud} (F : Fct hd U) : JSs U 0 ⟨["_law_script", "_law_mixed", "_law_cell"], d_flow_l.scope, fun _ => true, false, none, true⟩ d_flow_l.body w_flow_l :=
  (s_cons (m_set 1 (by decide +kernel) n_int)
  (s_cons (m_for (by decide +kernel) (i_walk (m_var 0 (by decide +kernel))) (m_gnm 2 (by decide +kernel) (fun _ _ => trivial)) (s_cons (m_set 1 (by decide +kernel) (n_bin b_mod (m_bty f_int (F.free 1 rfl) (by decide +kernel) (m_acons (n_bin b_add (n_bin b_mul (m_var 1 (by decide +kernel)) n_int) (m_bty f_int (F.free 1 rfl) (by decide +kernel) (m_acons (m_var 2 (by decide +kernel)) a_nil (by decide +kernel)))) a_nil (by decide +kernel))) n_int))
  s_nil))
  (s_cons (s_ret (n_lst (m_acons (m_bty f_list (F.free 0 rfl) (by decide +kernel) (m_acons (m_var 0 (by decide +kernel)) a_nil (by decide +kernel))) (m_acons n_int (m_acons n_int (m_acons n_int (m_acons (m_var 1 (by decide +kernel)) (m_acons n_int a_nil (by decide +kernel)) (by decide +kernel)) (by decide +kernel)) (by decide +kernel)) (by decide +kernel)) (by decide +kernel))))
  s_nil)))
theorem h_flow_l {U : Ud} (F : Fct hd U) : FnHas U.P U.w U.K U.mg U.base 1 "_law_flow" sp_flow_l := F.fn (N := ["_law_script", "_law_mixed", "_law_cell"]) (ps := ["_law_script"]) 0 2 rfl rfl ⟨rfl, rfl⟩ rfl ⟨rfl, rfl, rfl, by decide +kernel, rfl, by decide +kernel, by decide +kernel⟩ (fun _ _ _ _ _ _ us hl => match us, hl with | [_], _ => rfl) (k_flow_l F)
/-! _law_load -/
def w_load_l_6 : WS :=
  (wSeq (wIfS (wBl (wOp dEq (wOp dIx (wVar 0) (wCst (.int 5))) (wCst (.int 1)))) (wSeq (wAsg (wOp dMod (wCl cInt (wCons (wOp dIx (wVar 0) (wCst (.int 2))) wNil)) (wCst (.int 2147483629))) (gSubD (wVar 0) (wCst (.int 2))))
  (wSeq (wAsg (wCst (.int 6)) (gSubD (wVar 0) (wCst (.int 3))))
  wNext)) wNext)
  wNext)
def w_load_l_5 : WS :=
  (wSeq (wAsg (wOp dMod (wCl cInt (wCons (wVar 1) wNil)) (wCst (.int 2))) (gSubD (wVar 0) (wCst (.int 5))))
  w_load_l_6)
def w_load_l_4 : WS :=
  (wSeq (wAsg (wCst (.int 60)) (gSubD (wVar 0) (wCst (.int 3))))
  w_load_l_5)
def w_load_l_3 : WS :=
  (wSeq (wAsg (wOp dDiv (wCl cAbs (wCons (wVar 1) wNil)) (wCst (.int 2))) (gSubD (wVar 0) (wCst (.int 2))))
  w_load_l_4)
def w_load_l_2 : WS :=
  (wSeq (wAsg (wOp dAdd (wOp dIx (wVar 0) (wCst (.int 1))) (wCst (.int 1))) (gSubD (wVar 0) (wCst (.int 1))))
  w_load_l_3)
def w_load_l_1 : WS :=
  (wSeq (wAsg (wCl cInt (wCons (wOp dIx (wOp dIx (wVar 0) (wCst (.int 0))) (wOp dIx (wVar 0) (wCst (.int 1)))) wNil)) (gNm 1))
  w_load_l_2)
def w_load_l : WS :=
  (wSeq (wIfS (wBl (wOp dGe (wOp dIx (wVar 0) (wCst (.int 1))) (wCl cLen (wCons (wOp dIx (wVar 0) (wCst (.int 0))) wNil)))) (wSeq (wAsg (wCst (.int 40503)) (gSubD (wVar 0) (wCst (.int 2))))
  (wSeq (wAsg (wCst (.int 1000)) (gSubD (wVar 0) (wCst (.int 3))))
  (wSeq (wAsg (wCst (.int 1)) (gSubD (wVar 0) (wCst (.int 5))))
  (wSeq wRetN
  wNext)))) wNext)
  w_load_l_1)
def sp_load_l : SpD := spW ["_law_flow_here", "_law_cell"] 1 w_load_l
theorem k_load_l {U : Ud} (F : Fct hd U) : JSs U 0 ⟨["_law_flow_here", "_law_cell"], d_load_l.scope, fun _ => true, false, none, true⟩ d_load_l.body w_load_l :=
  (s_cons (s_if (t_cmp c_ge (n_ix (m_var 0 (by decide +kernel)) n_int (fun _ _ => rfl)) (m_blt f_len (F.free 4 rfl) (by decide +kernel) (m_acons (n_ix (m_var 0 (by decide +kernel)) n_int (fun _ _ => rfl)) a_nil (by decide +kernel))) (by decide +kernel)) (s_cons (s_asg n_int (g_sub (m_var 0 (by decide +kernel)) n_int (fun _ _ => rfl)) (fun _ => rfl) (fun _ => rfl) (fun _ => rfl))
  (s_cons (s_asg n_int (g_sub (m_var 0 (by decide +kernel)) n_int (fun _ _ => rfl)) (fun _ => rfl) (fun _ => rfl) (fun _ => rfl))
  (s_cons (s_asg n_int (g_sub (m_var 0 (by decide +kernel)) n_int (fun _ _ => rfl)) (fun _ => rfl) (fun _ => rfl) (fun _ => rfl))
  (s_cons s_retN
  s_nil)))) s_nil)
  (s_cons (m_set 1 (by decide +kernel) (m_bty f_int (F.free 1 rfl) (by decide +kernel) (m_acons (n_ix (n_ix (m_var 0 (by decide +kernel)) n_int (fun _ _ => rfl)) (n_ix (m_var 0 (by decide +kernel)) n_int (fun _ _ => rfl)) (fun _ _ => rfl)) a_nil (by decide +kernel))))
  (s_cons (s_asg (n_bin b_add (n_ix (m_var 0 (by decide +kernel)) n_int (fun _ _ => rfl)) n_int) (g_sub (m_var 0 (by decide +kernel)) n_int (fun _ _ => rfl)) (fun _ => rfl) (fun _ => rfl) (fun _ => rfl))
  (s_cons (s_asg (n_bin b_div (m_blt f_abs (F.free 3 rfl) (by decide +kernel) (m_acons (m_var 1 (by decide +kernel)) a_nil (by decide +kernel))) n_int) (g_sub (m_var 0 (by decide +kernel)) n_int (fun _ _ => rfl)) (fun _ => rfl) (fun _ => rfl) (fun _ => rfl))
  (s_cons (s_asg n_int (g_sub (m_var 0 (by decide +kernel)) n_int (fun _ _ => rfl)) (fun _ => rfl) (fun _ => rfl) (fun _ => rfl))
  (s_cons (s_asg (n_bin b_mod (m_bty f_int (F.free 1 rfl) (by decide +kernel) (m_acons (m_var 1 (by decide +kernel)) a_nil (by decide +kernel))) n_int) (g_sub (m_var 0 (by decide +kernel)) n_int (fun _ _ => rfl)) (fun _ => rfl) (fun _ => rfl) (fun _ => rfl))
  (s_cons (s_if (t_cmp c_eq (n_ix (m_var 0 (by decide +kernel)) n_int (fun _ _ => rfl)) n_int (by decide +kernel)) (s_cons (s_asg (n_bin b_mod (m_bty f_int (F.free 1 rfl) (by decide +kernel) (m_acons (n_ix (m_var 0 (by decide +kernel)) n_int (fun _ _ => rfl)) a_nil (by decide +kernel))) n_int) (g_sub (m_var 0 (by decide +kernel)) n_int (fun _ _ => rfl)) (fun _ => rfl) (fun _ => rfl) (fun _ => rfl))
  (s_cons (s_asg n_int (g_sub (m_var 0 (by decide +kernel)) n_int (fun _ _ => rfl)) (fun _ => rfl) (fun _ => rfl) (fun _ => rfl))
  s_nil)) s_nil)
  s_nil)))))))
theorem h_load_l {U : Ud} (F : Fct hd U) : FnHas U.P U.w U.K U.mg U.base 1 "_law_load" sp_load_l := F.fn (N := ["_law_flow_here", "_law_cell"]) (ps := ["_law_flow_here"]) 1 5 rfl rfl ⟨rfl, rfl⟩ rfl ⟨rfl, rfl, rfl, by decide +kernel, rfl, by decide +kernel, by decide +kernel⟩ (fun _ _ _ _ _ _ us hl => match us, hl with | [_], _ => rfl) (k_load_l F)
/-! _law_draw -/
def w_draw_l_6 : WS :=
  (wSeq (wRet (wVar 2))
  wNext)
def w_draw_l_5 : WS :=
  (wSeq (wIfS (wBl (wOp dEq (wOp dIx (wVar 0) (wCst (.int 2))) (wCst (.int 0)))) (wSeq (wAsg (wCst (.int 0)) (gSubD (wVar 0) (wCst (.int 3))))
  wNext) wNext)
  w_draw_l_6)
def w_draw_l_4 : WS :=
  (wSeq (wAsg (wOp dDiv (wOp dIx (wVar 0) (wCst (.int 2))) (wCl cMax (wCons (wCst (.int 1)) (wCons (wVar 1) wNil)))) (gSubD (wVar 0) (wCst (.int 2))))
  w_draw_l_5)
def w_draw_l_3 : WS :=
  (wSeq (wAsg (wOp dMod (wCl cInt (wCons (wOp dIx (wVar 0) (wCst (.int 2))) wNil)) (wCl cMax (wCons (wCst (.int 1)) (wCons (wVar 1) wNil)))) (gNm 2))
  w_draw_l_4)
def w_draw_l_2 : WS :=
  (wSeq (wIfS (wBl (wOp dEq (wOp dIx (wVar 0) (wCst (.int 5))) (wCst (.int 1)))) (wSeq (wAsg (wOp dMod (wCl cInt (wCons (wOp dAdd (wOp dAdd (wOp dMul (wOp dIx (wVar 0) (wCst (.int 4))) (wCst (.int 48271))) (wOp dIx (wVar 0) (wCst (.int 2)))) (wCst (.int 12345))) wNil)) (wCst (.int 2147483647))) (gSubD (wVar 0) (wCst (.int 4))))
  (wSeq (wRet (wOp dMod (wCl cInt (wCons (wOp dDiv (wOp dIx (wVar 0) (wCst (.int 4))) (wCst (.int 7))) wNil)) (wCl cMax (wCons (wCst (.int 1)) (wCons (wVar 1) wNil)))))
  wNext)) wNext)
  w_draw_l_3)
def w_draw_l_1 : WS :=
  (wSeq (wAsg (wOp dSub (wOp dIx (wVar 0) (wCst (.int 3))) (wCst (.int 1))) (gSubD (wVar 0) (wCst (.int 3))))
  w_draw_l_2)
def w_draw_l : WS :=
  (wSeq (wIfS (wBl (wOp dEq (wOp dIx (wVar 0) (wCst (.int 3))) (wCst (.int 0)))) (wSeq (wDrop (wCall sp_load_l (wCons (wVar 0) wNil)))
  wNext) wNext)
  w_draw_l_1)
def sp_draw_l : SpD := spW ["_law_flow_here", "_law_many", "_law_drawn"] 2 w_draw_l
theorem k_draw_l {U : Ud} (F : Fct hd U) : JSs U 1 ⟨["_law_flow_here", "_law_many", "_law_drawn"], d_draw_l.scope, fun _ => true, false, none, true⟩ d_draw_l.body w_draw_l :=
  (s_cons (s_if (t_cmp c_eq (n_ix (m_var 0 (by decide +kernel)) n_int (fun _ _ => rfl)) n_int (by decide +kernel)) (s_cons (s_expr (m_call (h_load_l F) (by decide) (by decide +kernel) (m_acons (m_var 0 (by decide +kernel)) a_nil (by decide +kernel))) rfl)
  s_nil) s_nil)
  (s_cons (s_asg (n_bin b_sub (n_ix (m_var 0 (by decide +kernel)) n_int (fun _ _ => rfl)) n_int) (g_sub (m_var 0 (by decide +kernel)) n_int (fun _ _ => rfl)) (fun _ => rfl) (fun _ => rfl) (fun _ => rfl))
  (s_cons (s_if (t_cmp c_eq (n_ix (m_var 0 (by decide +kernel)) n_int (fun _ _ => rfl)) n_int (by decide +kernel)) (s_cons (s_asg (n_bin b_mod (m_bty f_int (F.free 1 rfl) (by decide +kernel) (m_acons (n_bin b_add (n_bin b_add (n_bin b_mul (n_ix (m_var 0 (by decide +kernel)) n_int (fun _ _ => rfl)) n_int) (n_ix (m_var 0 (by decide +kernel)) n_int (fun _ _ => rfl))) n_int) a_nil (by decide +kernel))) n_int) (g_sub (m_var 0 (by decide +kernel)) n_int (fun _ _ => rfl)) (fun _ => rfl) (fun _ => rfl) (fun _ => rfl))
  (s_cons (s_ret (n_bin b_mod (m_bty f_int (F.free 1 rfl) (by decide +kernel) (m_acons (n_bin b_div (n_ix (m_var 0 (by decide +kernel)) n_int (fun _ _ => rfl)) n_int) a_nil (by decide +kernel))) (m_blt (f_max rfl) (F.free 6 rfl) (by decide +kernel) (m_acons n_int (m_acons (m_var 1 (by decide +kernel)) a_nil (by decide +kernel)) (by decide +kernel)))))
  s_nil)) s_nil)
  (s_cons (m_set 2 (by decide +kernel) (n_bin b_mod (m_bty f_int (F.free 1 rfl) (by decide +kernel) (m_acons (n_ix (m_var 0 (by decide +kernel)) n_int (fun _ _ => rfl)) a_nil (by decide +kernel))) (m_blt (f_max rfl) (F.free 6 rfl) (by decide +kernel) (m_acons n_int (m_acons (m_var 1 (by decide +kernel)) a_nil (by decide +kernel)) (by decide +kernel)))))
  (s_cons (s_asg (n_bin b_div (n_ix (m_var 0 (by decide +kernel)) n_int (fun _ _ => rfl)) (m_blt (f_max rfl) (F.free 6 rfl) (by decide +kernel) (m_acons n_int (m_acons (m_var 1 (by decide +kernel)) a_nil (by decide +kernel)) (by decide +kernel)))) (g_sub (m_var 0 (by decide +kernel)) n_int (fun _ _ => rfl)) (fun _ => rfl) (fun _ => rfl) (fun _ => rfl))
  (s_cons (s_if (t_cmp c_eq (n_ix (m_var 0 (by decide +kernel)) n_int (fun _ _ => rfl)) n_int (by decide +kernel)) (s_cons (s_asg n_int (g_sub (m_var 0 (by decide +kernel)) n_int (fun _ _ => rfl)) (fun _ => rfl) (fun _ => rfl) (fun _ => rfl))
  s_nil) s_nil)
  (s_cons (s_ret (m_var 2 (by decide +kernel)))
  s_nil)))))))
theorem h_draw_l {U : Ud} (F : Fct hd U) : FnHas U.P U.w U.K U.mg U.base 2 "_law_draw" sp_draw_l := F.fn (N := ["_law_flow_here", "_law_many", "_law_drawn"]) (ps := ["_law_flow_here", "_law_many"]) 2 7 rfl rfl ⟨rfl, rfl⟩ rfl ⟨rfl, rfl, rfl, by decide +kernel, rfl, by decide +kernel, by decide +kernel⟩ (fun _ _ _ _ _ _ us hl => match us, hl with | [_, _], _ => rfl) (k_draw_l F)
/-! _law_pick -/
def w_pick_l : WS :=
  (wSeq (wRet (wOp dIx (wVar 1) (wCall sp_draw_l (wCons (wVar 0) (wCons (wCl cLen (wCons (wVar 1) wNil)) wNil)))))
  wNext)
def sp_pick_l : SpD := spW ["_law_flow_here", "_law_things"] 2 w_pick_l
theorem k_pick_l {U : Ud} (F : Fct hd U) : JSs U 2 ⟨["_law_flow_here", "_law_things"], d_pick_l.scope, fun _ => true, false, none, true⟩ d_pick_l.body w_pick_l :=
  (s_cons (s_ret (n_ix (m_var 1 (by decide +kernel)) (m_call (h_draw_l F) (by decide) (by decide +kernel) (m_acons (m_var 0 (by decide +kernel)) (m_acons (m_blt f_len (F.free 4 rfl) (by decide +kernel) (m_acons (m_var 1 (by decide +kernel)) a_nil (by decide +kernel))) a_nil (by decide +kernel)) (by decide +kernel))) (fun _ _ => rfl)))
  s_nil)
theorem h_pick_l {U : Ud} (F : Fct hd U) : FnHas U.P U.w U.K U.mg U.base 3 "_law_pick" sp_pick_l := F.fn (N := ["_law_flow_here", "_law_things"]) (ps := ["_law_flow_here", "_law_things"]) 3 8 rfl rfl ⟨rfl, rfl⟩ rfl ⟨rfl, rfl, rfl, by decide +kernel, rfl, by decide +kernel, by decide +kernel⟩ (fun _ _ _ _ _ _ us hl => match us, hl with | [_, _], _ => rfl) (k_pick_l F)
/-! _law_same -/
def w_same_l_4 (sp : SpD) : WS :=
  (wSeq (wRet (wAndV (wCl cIsi (wCons (wVar 0) (wCons (wCst (.ty "int")) wNil))) (wAndV (wNotV (wCl cIsi (wCons (wVar 0) (wCons (wCst (.ty "bool")) wNil)))) (wOp dEq (wVar 0) (wVar 1)))))
  wNext)
def w_same_l_3 (sp : SpD) : WS :=
  (wSeq (wIfS (wTru (wCl cIsi (wCons (wVar 1) (wCons (wCst (.ty "bool")) wNil)))) (wSeq (wRet (wAndV (wCl cIsi (wCons (wVar 0) (wCons (wCst (.ty "bool")) wNil))) (wOp dEq (wVar 0) (wVar 1))))
  wNext) wNext)
  (w_same_l_4 sp))
def w_same_l_2 (sp : SpD) : WS :=
  (wSeq (wIfS (wTru (wCl cIsi (wCons (wVar 1) (wCons (wCst (.ty "str")) wNil)))) (wSeq (wRet (wAndV (wCl cIsi (wCons (wVar 0) (wCons (wCst (.ty "str")) wNil))) (wOp dEq (wVar 0) (wVar 1))))
  wNext) wNext)
  (w_same_l_3 sp))
def w_same_l_1 (sp : SpD) : WS :=
  (wSeq (wIfS (wBl (wOp dIs (wVar 1) (wCst .non))) (wSeq (wRet (wOp dIs (wVar 0) (wCst .non)))
  wNext) wNext)
  (w_same_l_2 sp))
def w_same_l (sp : SpD) : WS :=
  (wSeq (wIfS (wOrB (wTru (wCl cIsi (wCons (wVar 1) (wCons (wCst (.ty "tuple")) wNil)))) (wTru (wCl cIsi (wCons (wVar 1) (wCons (wCst (.ty "list")) wNil))))) (wSeq (wIfS (wOrB (wBl (wOp dNe (wCl cIsi (wCons (wVar 1) (wCons (wCst (.ty "tuple")) wNil))) (wCl cIsi (wCons (wVar 0) (wCons (wCst (.ty "tuple")) wNil))))) (wBl (wOp dNe (wCl cIsi (wCons (wVar 1) (wCons (wCst (.ty "list")) wNil))) (wCl cIsi (wCons (wVar 0) (wCons (wCst (.ty "list")) wNil)))))) (wSeq (wRet (wCst (.bl false)))
  wNext) wNext)
  (wSeq (wRet (wAndV (wOp dEq (wCl cLen (wCons (wVar 0) wNil)) (wCl cLen (wCons (wVar 1) wNil))) (wCl cAll (wCons (wLc (wRng1 (wCons (wCl cLen (wCons (wVar 1) wNil)) wNil)) [2] (gNm 2) wYes (wCall sp (wCons (wOp dIx (wVar 0) (wVar 2)) (wCons (wOp dIx (wVar 1) (wVar 2)) wNil)))) wNil))))
  wNext)) wNext)
  (w_same_l_1 sp))
def sp_same_l : Nat → SpD
  | 0 => fun _ _ _ _ => False
  | d + 1 => spW ["_law_actual", "_law_due", "_law_k"] 2 (w_same_l (sp_same_l d))
theorem k_same_l {U : Ud} (F : Fct hd U) (d : Nat) (hr : FnHas U.P U.w U.K U.mg U.base (0 + d) "_law_same" (sp_same_l d)) : JSs U (0 + d) ⟨["_law_actual", "_law_due", "_law_k"], d_same_l.scope, fun _ => true, false, none, true⟩ d_same_l.body (w_same_l (sp_same_l d)) := by
  generalize sp_same_l d = sp at *
  exact (s_cons (s_if (t_w (w_or (t_val (m_blt f_isi (F.free 10 rfl) (by decide +kernel) (m_acons (m_var 1 (by decide +kernel)) (m_acons (m_ty "tuple" (F.free 12 rfl) (by decide +kernel)) a_nil (by decide +kernel)) (by decide +kernel))) (fun _ _ => rfl)) (w_or1 (t_val (m_blt f_isi (F.free 10 rfl) (by decide +kernel) (m_acons (m_var 1 (by decide +kernel)) (m_acons (m_ty "list" (F.free 0 rfl) (by decide +kernel)) a_nil (by decide +kernel)) (by decide +kernel))) (fun _ _ => rfl))))) (s_cons (s_if (t_w (w_or (t_cmp c_ne (m_blt f_isi (F.free 10 rfl) (by decide +kernel) (m_acons (m_var 1 (by decide +kernel)) (m_acons (m_ty "tuple" (F.free 12 rfl) (by decide +kernel)) a_nil (by decide +kernel)) (by decide +kernel))) (m_blt f_isi (F.free 10 rfl) (by decide +kernel) (m_acons (m_var 0 (by decide +kernel)) (m_acons (m_ty "tuple" (F.free 12 rfl) (by decide +kernel)) a_nil (by decide +kernel)) (by decide +kernel))) (by decide +kernel)) (w_or1 (t_cmp c_ne (m_blt f_isi (F.free 10 rfl) (by decide +kernel) (m_acons (m_var 1 (by decide +kernel)) (m_acons (m_ty "list" (F.free 0 rfl) (by decide +kernel)) a_nil (by decide +kernel)) (by decide +kernel))) (m_blt f_isi (F.free 10 rfl) (by decide +kernel) (m_acons (m_var 0 (by decide +kernel)) (m_acons (m_ty "list" (F.free 0 rfl) (by decide +kernel)) a_nil (by decide +kernel)) (by decide +kernel))) (by decide +kernel))))) (s_cons (s_ret n_bl)
  s_nil) s_nil)
  (s_cons (s_ret (n_and (n_cmp c_eq (m_blt f_len (F.free 4 rfl) (by decide +kernel) (m_acons (m_var 0 (by decide +kernel)) a_nil (by decide +kernel))) (m_blt f_len (F.free 4 rfl) (by decide +kernel) (m_acons (m_var 1 (by decide +kernel)) a_nil (by decide +kernel))) (by decide +kernel)) (n_one (m_blt (f_all rfl) (F.free 14 rfl) (by decide +kernel) (m_acons (m_lc [("_law_k", 2)] (by decide +kernel) (m_rng1 (F.free 13 rfl) (by decide +kernel) (m_acons (m_blt f_len (F.free 4 rfl) (by decide +kernel) (m_acons (m_var 1 (by decide +kernel)) a_nil (by decide +kernel))) a_nil (by decide +kernel))) (m_gnm 2 (by decide +kernel) (fun σ v => ownR_set (by decide) σ _)) ts_nil (m_call hr (Nat.le_refl _) (by decide +kernel) (m_acons (n_ix (m_var 0 (by decide +kernel)) (m_var 2 (by decide +kernel)) (fun _ _ => rfl)) (m_acons (n_ix (m_var 1 (by decide +kernel)) (m_var 2 (by decide +kernel)) (fun _ _ => rfl)) a_nil (by decide +kernel)) (by decide +kernel)))) a_nil (by decide +kernel))))))
  s_nil)) s_nil)
  (s_cons (s_if (t_cmp c_is (m_var 1 (by decide +kernel)) n_non (by decide +kernel)) (s_cons (s_ret (n_cmp c_is (m_var 0 (by decide +kernel)) n_non (by decide +kernel)))
  s_nil) s_nil)
  (s_cons (s_if (t_val (m_blt f_isi (F.free 10 rfl) (by decide +kernel) (m_acons (m_var 1 (by decide +kernel)) (m_acons (m_ty "str" (F.free 11 rfl) (by decide +kernel)) a_nil (by decide +kernel)) (by decide +kernel))) (fun _ _ => rfl)) (s_cons (s_ret (n_and (m_blt f_isi (F.free 10 rfl) (by decide +kernel) (m_acons (m_var 0 (by decide +kernel)) (m_acons (m_ty "str" (F.free 11 rfl) (by decide +kernel)) a_nil (by decide +kernel)) (by decide +kernel))) (n_one (n_cmp c_eq (m_var 0 (by decide +kernel)) (m_var 1 (by decide +kernel)) (by decide +kernel)))))
  s_nil) s_nil)
  (s_cons (s_if (t_val (m_blt f_isi (F.free 10 rfl) (by decide +kernel) (m_acons (m_var 1 (by decide +kernel)) (m_acons (m_ty "bool" (F.free 9 rfl) (by decide +kernel)) a_nil (by decide +kernel)) (by decide +kernel))) (fun _ _ => rfl)) (s_cons (s_ret (n_and (m_blt f_isi (F.free 10 rfl) (by decide +kernel) (m_acons (m_var 0 (by decide +kernel)) (m_acons (m_ty "bool" (F.free 9 rfl) (by decide +kernel)) a_nil (by decide +kernel)) (by decide +kernel))) (n_one (n_cmp c_eq (m_var 0 (by decide +kernel)) (m_var 1 (by decide +kernel)) (by decide +kernel)))))
  s_nil) s_nil)
  (s_cons (s_ret (n_and (m_blt f_isi (F.free 10 rfl) (by decide +kernel) (m_acons (m_var 0 (by decide +kernel)) (m_acons (m_ty "int" (F.free 1 rfl) (by decide +kernel)) a_nil (by decide +kernel)) (by decide +kernel))) (n_and (n_not (m_blt f_isi (F.free 10 rfl) (by decide +kernel) (m_acons (m_var 0 (by decide +kernel)) (m_acons (m_ty "bool" (F.free 9 rfl) (by decide +kernel)) a_nil (by decide +kernel)) (by decide +kernel)))) (n_one (n_cmp c_eq (m_var 0 (by decide +kernel)) (m_var 1 (by decide +kernel)) (by decide +kernel))))))
  s_nil)))))
theorem h_same_l {U : Ud} (F : Fct hd U) : ∀ d, FnHas U.P U.w U.K U.mg U.base (0 + d) "_law_same" (sp_same_l d)
  | 0 => F.fn0 (ps := ["_law_actual", "_law_due"]) 4 15 rfl rfl ⟨rfl, rfl⟩ rfl (fun _ _ _ _ _ _ us hl => match us, hl with | [_, _], _ => rfl)
  | d + 1 => F.fn (N := ["_law_actual", "_law_due", "_law_k"]) (ps := ["_law_actual", "_law_due"]) 4 15 rfl rfl ⟨rfl, rfl⟩ rfl ⟨rfl, rfl, rfl, by decide +kernel, rfl, by decide +kernel, by decide +kernel⟩ (fun _ _ _ _ _ _ us hl => match us, hl with | [_, _], _ => rfl) (k_same_l F d (h_same_l F d))
/-! _law_raise -/
def w_raise_l_9 : WS :=
  (wSeq (wRaise "NothingThere" "word" (wVar 1))
  wNext)
def w_raise_l_8 : WS :=
  (wSeq (wIfS (wBl (wOp dEq (wVar 0) (wCst (.int 8)))) (wSeq (wRaise "TooMany" "word" (wVar 1))
  wNext) wNext)
  w_raise_l_9)
def w_raise_l_7 : WS :=
  (wSeq (wIfS (wBl (wOp dEq (wVar 0) (wCst (.int 7)))) (wSeq (wRaise "Broken" "name" (wVar 1))
  wNext) wNext)
  w_raise_l_8)
def w_raise_l_6 : WS :=
  (wSeq (wIfS (wBl (wOp dEq (wVar 0) (wCst (.int 6)))) (wSeq (wRaise "Impossible" "name" (wVar 1))
  wNext) wNext)
  w_raise_l_7)
def w_raise_l_5 : WS :=
  (wSeq (wIfS (wBl (wOp dEq (wVar 0) (wCst (.int 5)))) (wSeq (wRaise "BadPoint" "name" (wVar 1))
  wNext) wNext)
  w_raise_l_6)
def w_raise_l_4 : WS :=
  (wSeq (wIfS (wBl (wOp dEq (wVar 0) (wCst (.int 4)))) (wSeq (wRaise "BadLine" "at" (wVar 1))
  wNext) wNext)
  w_raise_l_5)
def w_raise_l_3 : WS :=
  (wSeq (wIfS (wBl (wOp dEq (wVar 0) (wCst (.int 3)))) (wSeq (wRaise "BadPaper" "at" (wVar 1))
  wNext) wNext)
  w_raise_l_4)
def w_raise_l_2 : WS :=
  (wSeq (wIfS (wBl (wOp dEq (wVar 0) (wCst (.int 2)))) (wSeq (wRaise "BadClaim" "at" (wVar 1))
  wNext) wNext)
  w_raise_l_3)
def w_raise_l_1 : WS :=
  (wSeq (wIfS (wBl (wOp dEq (wVar 0) (wCst (.int 1)))) (wSeq (wRaise "BadStep" "at" (wVar 1))
  wNext) wNext)
  w_raise_l_2)
def w_raise_l : WS :=
  (wSeq (wIfS (wBl (wOp dEq (wVar 0) (wCst (.int 0)))) (wSeq (wRaise "BadValue" "at" (wVar 1))
  wNext) wNext)
  w_raise_l_1)
def sp_raise_l : SpD := spW ["_law_kind", "_law_given_here"] 2 w_raise_l
theorem k_raise_l {U : Ud} (F : Fct hd U) : JSs U 1 ⟨["_law_kind", "_law_given_here"], d_raise_l.scope, fun _ => true, false, none, true⟩ d_raise_l.body w_raise_l :=
  (s_cons (s_if (t_cmp c_eq (m_var 0 (by decide +kernel)) n_int (by decide +kernel)) (s_cons (by obtain ⟨I, e1, T⟩ := F.exi (c := "BadValue") (f := "at") 9 rfl (F.free 17 rfl); exact s_raise T e1 (by decide) rfl (by decide +kernel) (F.glo 36 rfl) (by decide +kernel) (m_var 1 (by decide +kernel)) (by decide +kernel))
  s_nil) s_nil)
  (s_cons (s_if (t_cmp c_eq (m_var 0 (by decide +kernel)) n_int (by decide +kernel)) (s_cons (by obtain ⟨I, e1, T⟩ := F.exi (c := "BadStep") (f := "at") 8 rfl (F.free 17 rfl); exact s_raise T e1 (by decide) rfl (by decide +kernel) (F.glo 34 rfl) (by decide +kernel) (m_var 1 (by decide +kernel)) (by decide +kernel))
  s_nil) s_nil)
  (s_cons (s_if (t_cmp c_eq (m_var 0 (by decide +kernel)) n_int (by decide +kernel)) (s_cons (by obtain ⟨I, e1, T⟩ := F.exi (c := "BadClaim") (f := "at") 7 rfl (F.free 17 rfl); exact s_raise T e1 (by decide) rfl (by decide +kernel) (F.glo 32 rfl) (by decide +kernel) (m_var 1 (by decide +kernel)) (by decide +kernel))
  s_nil) s_nil)
  (s_cons (s_if (t_cmp c_eq (m_var 0 (by decide +kernel)) n_int (by decide +kernel)) (s_cons (by obtain ⟨I, e1, T⟩ := F.exi (c := "BadPaper") (f := "at") 6 rfl (F.free 17 rfl); exact s_raise T e1 (by decide) rfl (by decide +kernel) (F.glo 30 rfl) (by decide +kernel) (m_var 1 (by decide +kernel)) (by decide +kernel))
  s_nil) s_nil)
  (s_cons (s_if (t_cmp c_eq (m_var 0 (by decide +kernel)) n_int (by decide +kernel)) (s_cons (by obtain ⟨I, e1, T⟩ := F.exi (c := "BadLine") (f := "at") 5 rfl (F.free 17 rfl); exact s_raise T e1 (by decide) rfl (by decide +kernel) (F.glo 28 rfl) (by decide +kernel) (m_var 1 (by decide +kernel)) (by decide +kernel))
  s_nil) s_nil)
  (s_cons (s_if (t_cmp c_eq (m_var 0 (by decide +kernel)) n_int (by decide +kernel)) (s_cons (by obtain ⟨I, e1, T⟩ := F.exi (c := "BadPoint") (f := "name") 4 rfl (F.free 17 rfl); exact s_raise T e1 (by decide) rfl (by decide +kernel) (F.glo 26 rfl) (by decide +kernel) (m_var 1 (by decide +kernel)) (by decide +kernel))
  s_nil) s_nil)
  (s_cons (s_if (t_cmp c_eq (m_var 0 (by decide +kernel)) n_int (by decide +kernel)) (s_cons (by obtain ⟨I, e1, T⟩ := F.exi (c := "Impossible") (f := "name") 3 rfl (F.free 17 rfl); exact s_raise T e1 (by decide) rfl (by decide +kernel) (F.glo 24 rfl) (by decide +kernel) (m_var 1 (by decide +kernel)) (by decide +kernel))
  s_nil) s_nil)
  (s_cons (s_if (t_cmp c_eq (m_var 0 (by decide +kernel)) n_int (by decide +kernel)) (s_cons (by obtain ⟨I, e1, T⟩ := F.exi (c := "Broken") (f := "name") 2 rfl (F.free 17 rfl); exact s_raise T e1 (by decide) rfl (by decide +kernel) (F.glo 22 rfl) (by decide +kernel) (m_var 1 (by decide +kernel)) (by decide +kernel))
  s_nil) s_nil)
  (s_cons (s_if (t_cmp c_eq (m_var 0 (by decide +kernel)) n_int (by decide +kernel)) (s_cons (by obtain ⟨I, e1, T⟩ := F.exi (c := "TooMany") (f := "word") 1 rfl (F.free 17 rfl); exact s_raise T e1 (by decide) rfl (by decide +kernel) (F.glo 20 rfl) (by decide +kernel) (m_var 1 (by decide +kernel)) (by decide +kernel))
  s_nil) s_nil)
  (s_cons (by obtain ⟨I, e1, T⟩ := F.exi (c := "NothingThere") (f := "word") 0 rfl (F.free 17 rfl); exact s_raise T e1 (by decide) rfl (by decide +kernel) (F.glo 18 rfl) (by decide +kernel) (m_var 1 (by decide +kernel)) (by decide +kernel))
  s_nil))))))))))
theorem h_raise_l {U : Ud} (F : Fct hd U) : FnHas U.P U.w U.K U.mg U.base 2 "_law_raise" sp_raise_l := F.fn (N := ["_law_kind", "_law_given_here"]) (ps := ["_law_kind", "_law_given_here"]) 5 37 rfl rfl ⟨rfl, rfl⟩ rfl ⟨rfl, rfl, rfl, by decide +kernel, rfl, by decide +kernel, by decide +kernel⟩ (fun _ _ _ _ _ _ us hl => match us, hl with | [_, _], _ => rfl) (k_raise_l F)
/-! _law_kept -/
def w_kept_l_1 : WS :=
  (wSeq (wRet (wTup (wCons (wCst (.int 10)) wNil)))
  wNext)
def w_kept_l : WS :=
  (wSeq (wTry xs (wSeq (wDrop (wCall sp_raise_l (wCons (wVar 0) (wCons (wVar 1) wNil))))
  wNext) [("BadValue", some 2, fun x a dd => (wSeq (wRet (wTup (wCons (wCst (.int 0)) (wCons (wXAtt xs "at" a x dd (wVar 2)) wNil))))
  wNext)), ("BadStep", some 2, fun x a dd => (wSeq (wRet (wTup (wCons (wCst (.int 1)) (wCons (wXAtt xs "at" a x dd (wVar 2)) wNil))))
  wNext)), ("BadClaim", some 2, fun x a dd => (wSeq (wRet (wTup (wCons (wCst (.int 2)) (wCons (wXAtt xs "at" a x dd (wVar 2)) wNil))))
  wNext)), ("BadPaper", some 2, fun x a dd => (wSeq (wRet (wTup (wCons (wCst (.int 3)) (wCons (wXAtt xs "at" a x dd (wVar 2)) wNil))))
  wNext)), ("BadLine", some 2, fun x a dd => (wSeq (wRet (wTup (wCons (wCst (.int 4)) (wCons (wXAtt xs "at" a x dd (wVar 2)) wNil))))
  wNext)), ("BadPoint", some 2, fun x a dd => (wSeq (wRet (wTup (wCons (wCst (.int 5)) (wCons (wXAtt xs "name" a x dd (wVar 2)) wNil))))
  wNext)), ("Impossible", some 2, fun x a dd => (wSeq (wRet (wTup (wCons (wCst (.int 6)) (wCons (wXAtt xs "name" a x dd (wVar 2)) wNil))))
  wNext)), ("Broken", some 2, fun x a dd => (wSeq (wRet (wTup (wCons (wCst (.int 7)) (wCons (wXAtt xs "name" a x dd (wVar 2)) wNil))))
  wNext)), ("TooMany", some 2, fun x a dd => (wSeq (wRet (wTup (wCons (wCst (.int 8)) (wCons (wXAtt xs "word" a x dd (wVar 2)) wNil))))
  wNext)), ("NothingThere", some 2, fun x a dd => (wSeq (wRet (wTup (wCons (wCst (.int 9)) (wCons (wXAtt xs "word" a x dd (wVar 2)) wNil))))
  wNext))])
  w_kept_l_1)
def sp_kept_l : SpD := spW ["_law_kind", "_law_given_here", "e"] 2 w_kept_l
theorem k_kept_l {U : Ud} (F : Fct hd U) : JSs U 2 ⟨["_law_kind", "_law_given_here", "e"], d_kept_l.scope, fun _ => true, false, none, true⟩ d_kept_l.body w_kept_l :=
  (s_cons (s_try F.xc rfl rfl rfl (s_cons (s_expr (m_call (h_raise_l F) (by decide) (by decide +kernel) (m_acons (m_var 0 (by decide +kernel)) (m_acons (m_var 1 (by decide +kernel)) a_nil (by decide +kernel)) (by decide +kernel))) rfl)
  s_nil) (.named (by decide +kernel) (by decide +kernel) (by decide +kernel) (F.glo 36 rfl) (by decide +kernel) (by decide +kernel) (fun a x dd => (s_cons (s_ret (n_tup (m_acons n_int (m_acons (n_xatt F.xc rfl (m_var 2 rfl) rfl) a_nil rfl) rfl)))
  s_nil)) (.named (by decide +kernel) (by decide +kernel) (by decide +kernel) (F.glo 34 rfl) (by decide +kernel) (by decide +kernel) (fun a x dd => (s_cons (s_ret (n_tup (m_acons n_int (m_acons (n_xatt F.xc rfl (m_var 2 rfl) rfl) a_nil rfl) rfl)))
  s_nil)) (.named (by decide +kernel) (by decide +kernel) (by decide +kernel) (F.glo 32 rfl) (by decide +kernel) (by decide +kernel) (fun a x dd => (s_cons (s_ret (n_tup (m_acons n_int (m_acons (n_xatt F.xc rfl (m_var 2 rfl) rfl) a_nil rfl) rfl)))
  s_nil)) (.named (by decide +kernel) (by decide +kernel) (by decide +kernel) (F.glo 30 rfl) (by decide +kernel) (by decide +kernel) (fun a x dd => (s_cons (s_ret (n_tup (m_acons n_int (m_acons (n_xatt F.xc rfl (m_var 2 rfl) rfl) a_nil rfl) rfl)))
  s_nil)) (.named (by decide +kernel) (by decide +kernel) (by decide +kernel) (F.glo 28 rfl) (by decide +kernel) (by decide +kernel) (fun a x dd => (s_cons (s_ret (n_tup (m_acons n_int (m_acons (n_xatt F.xc rfl (m_var 2 rfl) rfl) a_nil rfl) rfl)))
  s_nil)) (.named (by decide +kernel) (by decide +kernel) (by decide +kernel) (F.glo 26 rfl) (by decide +kernel) (by decide +kernel) (fun a x dd => (s_cons (s_ret (n_tup (m_acons n_int (m_acons (n_xatt F.xc rfl (m_var 2 rfl) rfl) a_nil rfl) rfl)))
  s_nil)) (.named (by decide +kernel) (by decide +kernel) (by decide +kernel) (F.glo 24 rfl) (by decide +kernel) (by decide +kernel) (fun a x dd => (s_cons (s_ret (n_tup (m_acons n_int (m_acons (n_xatt F.xc rfl (m_var 2 rfl) rfl) a_nil rfl) rfl)))
  s_nil)) (.named (by decide +kernel) (by decide +kernel) (by decide +kernel) (F.glo 22 rfl) (by decide +kernel) (by decide +kernel) (fun a x dd => (s_cons (s_ret (n_tup (m_acons n_int (m_acons (n_xatt F.xc rfl (m_var 2 rfl) rfl) a_nil rfl) rfl)))
  s_nil)) (.named (by decide +kernel) (by decide +kernel) (by decide +kernel) (F.glo 20 rfl) (by decide +kernel) (by decide +kernel) (fun a x dd => (s_cons (s_ret (n_tup (m_acons n_int (m_acons (n_xatt F.xc rfl (m_var 2 rfl) rfl) a_nil rfl) rfl)))
  s_nil)) (.named (by decide +kernel) (by decide +kernel) (by decide +kernel) (F.glo 18 rfl) (by decide +kernel) (by decide +kernel) (fun a x dd => (s_cons (s_ret (n_tup (m_acons n_int (m_acons (n_xatt F.xc rfl (m_var 2 rfl) rfl) a_nil rfl) rfl)))
  s_nil)) (.nil))))))))))))
  (s_cons (s_ret (n_tup (m_acons n_int a_nil (by decide +kernel))))
  s_nil))
theorem h_kept_l {U : Ud} (F : Fct hd U) : FnHas U.P U.w U.K U.mg U.base 3 "_law_kept" sp_kept_l := F.fn (N := ["_law_kind", "_law_given_here", "e"]) (ps := ["_law_kind", "_law_given_here"]) 6 38 rfl rfl ⟨rfl, rfl⟩ rfl ⟨rfl, rfl, rfl, by decide +kernel, rfl, by decide +kernel, by decide +kernel⟩ (fun _ _ _ _ _ _ us hl => match us, hl with | [_, _], _ => rfl) (k_kept_l F)
/-! _law_classes -/
def w_classes_l_1 : WS :=
  (wSeq (wRet (wCst (.bl false)))
  wNext)
def w_classes_l : WS :=
  (wSeq (wTry xs (wSeq (wDrop (wCall sp_raise_l (wCons (wVar 0) (wCons (wVar 1) wNil))))
  wNext) [("FigureError", some 2, fun x a dd => (wSeq (wAsg (wLst (wCons (wXIs xs a x dd [.own "BadValue"] (wVar 2)) (wCons (wXIs xs a x dd [.own "BadStep"] (wVar 2)) (wCons (wXIs xs a x dd [.own "BadClaim"] (wVar 2)) (wCons (wXIs xs a x dd [.own "BadPaper"] (wVar 2)) wNil))))) (gNm 3))
  (wSeq (wAsg (wOp dAdd (wVar 3) (wLst (wCons (wXIs xs a x dd [.own "BadLine"] (wVar 2)) (wCons (wXIs xs a x dd [.own "BadPoint"] (wVar 2)) (wCons (wXIs xs a x dd [.own "Impossible"] (wVar 2)) wNil))))) (gNm 3))
  (wSeq (wAsg (wOp dAdd (wVar 3) (wLst (wCons (wXIs xs a x dd [.own "Broken"] (wVar 2)) (wCons (wXIs xs a x dd [.own "TooMany"] (wVar 2)) (wCons (wXIs xs a x dd [.own "NothingThere"] (wVar 2)) wNil))))) (gNm 3))
  (wSeq (wIfS (wTru (wXIs xs a x dd [.blt "ValueError", .blt "LookupError", .blt "ArithmeticError"] (wVar 2))) (wSeq (wRet (wCst (.bl false)))
  wNext) wNext)
  (wSeq (wRet (wOp dEq (wVar 3) (wLc (wRng1 (wCons (wCst (.int 10)) wNil)) [4] (gNm 4) wYes (wOp dEq (wVar 4) (wVar 0)))))
  wNext))))))])
  w_classes_l_1)
def sp_classes_l : SpD := spW ["_law_kind", "_law_given_here", "e", "_law_found", "_law_k"] 2 w_classes_l
theorem k_classes_l {U : Ud} (F : Fct hd U) : JSs U 2 ⟨["_law_kind", "_law_given_here", "e", "_law_found", "_law_k"], d_classes_l.scope, fun _ => true, false, none, true⟩ d_classes_l.body w_classes_l :=
  (s_cons (s_try F.xc rfl rfl rfl (s_cons (s_expr (m_call (h_raise_l F) (by decide) (by decide +kernel) (m_acons (m_var 0 (by decide +kernel)) (m_acons (m_var 1 (by decide +kernel)) a_nil (by decide +kernel)) (by decide +kernel))) rfl)
  s_nil) (.named (by decide +kernel) (by decide +kernel) (by decide +kernel) (F.glo 42 rfl) (by decide +kernel) (by decide +kernel) (fun a x dd => (s_cons (m_set 3 rfl (n_lst (m_acons (n_xis1 F.xc rfl (F.free 10 rfl) rfl rfl (.own (F.glo 36 rfl) rfl (.nil)) (m_var 2 rfl)) (m_acons (n_xis1 F.xc rfl (F.free 10 rfl) rfl rfl (.own (F.glo 34 rfl) rfl (.nil)) (m_var 2 rfl)) (m_acons (n_xis1 F.xc rfl (F.free 10 rfl) rfl rfl (.own (F.glo 32 rfl) rfl (.nil)) (m_var 2 rfl)) (m_acons (n_xis1 F.xc rfl (F.free 10 rfl) rfl rfl (.own (F.glo 30 rfl) rfl (.nil)) (m_var 2 rfl)) a_nil rfl) rfl) rfl) rfl)))
  (s_cons (m_set 3 rfl (n_bin b_add (m_var 3 rfl) (n_lst (m_acons (n_xis1 F.xc rfl (F.free 10 rfl) rfl rfl (.own (F.glo 28 rfl) rfl (.nil)) (m_var 2 rfl)) (m_acons (n_xis1 F.xc rfl (F.free 10 rfl) rfl rfl (.own (F.glo 26 rfl) rfl (.nil)) (m_var 2 rfl)) (m_acons (n_xis1 F.xc rfl (F.free 10 rfl) rfl rfl (.own (F.glo 24 rfl) rfl (.nil)) (m_var 2 rfl)) a_nil rfl) rfl) rfl))))
  (s_cons (m_set 3 rfl (n_bin b_add (m_var 3 rfl) (n_lst (m_acons (n_xis1 F.xc rfl (F.free 10 rfl) rfl rfl (.own (F.glo 22 rfl) rfl (.nil)) (m_var 2 rfl)) (m_acons (n_xis1 F.xc rfl (F.free 10 rfl) rfl rfl (.own (F.glo 20 rfl) rfl (.nil)) (m_var 2 rfl)) (m_acons (n_xis1 F.xc rfl (F.free 10 rfl) rfl rfl (.own (F.glo 18 rfl) rfl (.nil)) (m_var 2 rfl)) a_nil rfl) rfl) rfl))))
  (s_cons (s_if (t_val (n_xis2 F.xc rfl (F.free 10 rfl) rfl (by decide) (.blt (F.free 41 rfl) rfl (.blt (F.free 40 rfl) rfl (.blt (F.free 39 rfl) rfl (.nil)))) (m_var 2 rfl)) (fun _ _ => rfl)) (s_cons (s_ret n_bl)
  s_nil) s_nil)
  (s_cons (s_ret (n_cmp c_eq (m_var 3 rfl) (n_lcH (own := [("_law_k", 4)]) rfl rfl (h_rng1 (F.free 13 rfl) rfl rfl (m_acons n_int a_nil rfl)) (m_gnm 4 rfl (fun σ v => ownR_set (by decide) σ _)) ts_nil (n_cmp c_eq (m_var 4 rfl) (m_var 0 rfl) rfl) rfl) rfl))
  s_nil)))))) (.nil)))
  (s_cons (s_ret n_bl)
  s_nil))
theorem h_classes_l {U : Ud} (F : Fct hd U) : FnHas U.P U.w U.K U.mg U.base 3 "_law_classes" sp_classes_l := F.fn (N := ["_law_kind", "_law_given_here", "e", "_law_found", "_law_k"]) (ps := ["_law_kind", "_law_given_here"]) 7 43 rfl rfl ⟨rfl, rfl⟩ rfl ⟨rfl, rfl, rfl, by decide +kernel, rfl, by decide +kernel, by decide +kernel⟩ (fun _ _ _ _ _ _ us hl => match us, hl with | [_, _], _ => rfl) (k_classes_l F)
/-! _law_given -/
def w_given_l_3 : WS :=
  (wSeq (wRet (wVar 2))
  wNext)
def w_given_l_2 : WS :=
  (wSeq (wIfS (wBl (wOp dGt (wVar 1) (wCst (.int 5)))) (wSeq (wRet (wCall sp_pick_l (wCons (wVar 0) (wCons (wLst (wCons (wCst (.str "a")) (wCons (wCst (.str "mid")) (wCons (wCst (.str "terms")) (wCons (wCst (.str "figures")) (wCons (wCst (.str "points")) (wCons (wCst (.str "undo")) (wCons (wCst (.str "x_a")) (wCons (wCst (.str "")) wNil))))))))) wNil))))
  wNext) wNext)
  w_given_l_3)
def w_given_l_1 : WS :=
  (wSeq (wIfS (wBl (wOp dEq (wVar 1) (wCst (.int 5)))) (wSeq (wRet (wCall sp_pick_l (wCons (wVar 0) (wCons (wLst (wCons (wVar 2) (wCons (wCst .non) (wCons (wCst (.str "a")) (wCons (wCst (.str "")) (wCons (wTup wNil) (wCons (wTup (wCons (wVar 2) (wCons (wCst (.str "b")) wNil))) (wCons (wLst (wCons (wVar 2) wNil)) (wCons (wLst wNil) (wCons (wLst (wCons (wCst (.str "c")) (wCons (wTup (wCons (wCst .non) wNil)) wNil))) (wCons (wCst (.bl true)) (wCons (wCst (.bl false)) wNil)))))))))))) wNil))))
  wNext) wNext)
  w_given_l_2)
def w_given_l : WS :=
  (wSeq (wAsg (wCall sp_pick_l (wCons (wVar 0) (wCons (wLst (wCons (wCst (.int 0)) (wCons (wCst (.int 1)) (wCons (wUn dNeg (wCst (.int 1))) (wCons (wCall sp_draw_l (wCons (wVar 0) (wCons (wCst (.int 100)) wNil))) (wCons (wCall sp_draw_l (wCons (wVar 0) (wCons (wOp dPow (wCst (.int 10)) (wCst (.int 30))) wNil))) (wCons (wOp dSub (wCst (.int 0)) (wCall sp_draw_l (wCons (wVar 0) (wCons (wOp dPow (wCst (.int 10)) (wCst (.int 9))) wNil)))) wNil))))))) wNil))) (gNm 2))
  w_given_l_1)
def sp_given_l : SpD := spW ["_law_flow_here", "_law_kind", "_law_number"] 2 w_given_l
theorem k_given_l {U : Ud} (F : Fct hd U) : JSs U 3 ⟨["_law_flow_here", "_law_kind", "_law_number"], d_given_l.scope, fun _ => true, false, none, true⟩ d_given_l.body w_given_l :=
  (s_cons (m_set 2 (by decide +kernel) (m_call (h_pick_l F) (by decide) (by decide +kernel) (m_acons (m_var 0 (by decide +kernel)) (m_acons (n_lst (m_acons n_int (m_acons n_int (m_acons (n_neg n_int) (m_acons (m_call (h_draw_l F) (by decide) (by decide +kernel) (m_acons (m_var 0 (by decide +kernel)) (m_acons n_int a_nil (by decide +kernel)) (by decide +kernel))) (m_acons (m_call (h_draw_l F) (by decide) (by decide +kernel) (m_acons (m_var 0 (by decide +kernel)) (m_acons (n_bin b_pow n_int n_int) a_nil (by decide +kernel)) (by decide +kernel))) (m_acons (n_bin b_sub n_int (m_call (h_draw_l F) (by decide) (by decide +kernel) (m_acons (m_var 0 (by decide +kernel)) (m_acons (n_bin b_pow n_int n_int) a_nil (by decide +kernel)) (by decide +kernel)))) a_nil (by decide +kernel)) (by decide +kernel)) (by decide +kernel)) (by decide +kernel)) (by decide +kernel)) (by decide +kernel))) a_nil (by decide +kernel)) (by decide +kernel))))
  (s_cons (s_if (t_cmp c_eq (m_var 1 (by decide +kernel)) n_int (by decide +kernel)) (s_cons (s_ret (m_call (h_pick_l F) (by decide) (by decide +kernel) (m_acons (m_var 0 (by decide +kernel)) (m_acons (n_lst (m_acons (m_var 2 (by decide +kernel)) (m_acons n_non (m_acons n_str (m_acons n_str (m_acons (n_tup a_nil) (m_acons (n_tup (m_acons (m_var 2 (by decide +kernel)) (m_acons n_str a_nil (by decide +kernel)) (by decide +kernel))) (m_acons (n_lst (m_acons (m_var 2 (by decide +kernel)) a_nil (by decide +kernel))) (m_acons (n_lst a_nil) (m_acons (n_lst (m_acons n_str (m_acons (n_tup (m_acons n_non a_nil (by decide +kernel))) a_nil (by decide +kernel)) (by decide +kernel))) (m_acons n_bl (m_acons n_bl a_nil (by decide +kernel)) (by decide +kernel)) (by decide +kernel)) (by decide +kernel)) (by decide +kernel)) (by decide +kernel)) (by decide +kernel)) (by decide +kernel)) (by decide +kernel)) (by decide +kernel)) (by decide +kernel))) a_nil (by decide +kernel)) (by decide +kernel))))
  s_nil) s_nil)
  (s_cons (s_if (t_cmp c_gt (m_var 1 (by decide +kernel)) n_int (by decide +kernel)) (s_cons (s_ret (m_call (h_pick_l F) (by decide) (by decide +kernel) (m_acons (m_var 0 (by decide +kernel)) (m_acons (n_lst (m_acons n_str (m_acons n_str (m_acons n_str (m_acons n_str (m_acons n_str (m_acons n_str (m_acons n_str (m_acons n_str a_nil (by decide +kernel)) (by decide +kernel)) (by decide +kernel)) (by decide +kernel)) (by decide +kernel)) (by decide +kernel)) (by decide +kernel)) (by decide +kernel))) a_nil (by decide +kernel)) (by decide +kernel))))
  s_nil) s_nil)
  (s_cons (s_ret (m_var 2 (by decide +kernel)))
  s_nil))))
theorem h_given_l {U : Ud} (F : Fct hd U) : FnHas U.P U.w U.K U.mg U.base 4 "_law_given" sp_given_l := F.fn (N := ["_law_flow_here", "_law_kind", "_law_number"]) (ps := ["_law_flow_here", "_law_kind"]) 8 44 rfl rfl ⟨rfl, rfl⟩ rfl ⟨rfl, rfl, rfl, by decide +kernel, rfl, by decide +kernel, by decide +kernel⟩ (fun _ _ _ _ _ _ us hl => match us, hl with | [_, _], _ => rfl) (k_given_l F)
/-! law -/
def w_law_2 : WS :=
  (wSeq (wRet (wCst (.bl true)))
  wNext)
def w_law_1 : WS :=
  (wSeq (wFor (wRng1 (wCons (wCst (.int 10)) wNil)) (gNm 2) (wSeq (wFor (wRng1 (wCons (wCst (.int 2)) wNil)) (gNm 3) (wSeq (wAsg (wCall sp_given_l (wCons (wVar 1) (wCons (wVar 2) wNil))) (gNm 4))
  (wSeq (wIfS (wOrB (wNotB (wTru (wCall (sp_same_l 4) (wCons (wCall sp_kept_l (wCons (wVar 2) (wCons (wVar 4) wNil))) (wCons (wTup (wCons (wVar 2) (wCons (wVar 4) wNil))) wNil))))) (wNotB (wTru (wCall sp_classes_l (wCons (wVar 2) (wCons (wVar 4) wNil)))))) (wSeq (wRet (wCst (.bl false)))
  wNext) wNext)
  wNext)))
  wNext))
  w_law_2)
def w_law : WS :=
  (wSeq (wAsg (wCall sp_flow_l (wCons (wVar 0) wNil)) (gNm 1))
  w_law_1)
def sp_law : SpD := spW ["_law_script", "_law_flow_here", "_law_kind", "_law_turn", "_law_given_here"] 1 w_law
theorem k_law {U : Ud} (F : Fct hd U) : JSs U 4 ⟨["_law_script", "_law_flow_here", "_law_kind", "_law_turn", "_law_given_here"], d_law.scope, fun _ => true, false, none, true⟩ d_law.body w_law :=
  (s_cons (m_set 1 (by decide +kernel) (m_call (h_flow_l F) (by decide) (by decide +kernel) (m_acons (m_var 0 (by decide +kernel)) a_nil (by decide +kernel))))
  (s_cons (m_for (by decide +kernel) (m_rng1 (F.free 13 rfl) (by decide +kernel) (m_acons n_int a_nil (by decide +kernel))) (m_gnm 2 (by decide +kernel) (fun _ _ => trivial)) (s_cons (m_for (by decide +kernel) (m_rng1 (F.free 13 rfl) (by decide +kernel) (m_acons n_int a_nil (by decide +kernel))) (m_gnm 3 (by decide +kernel) (fun _ _ => trivial)) (s_cons (m_set 4 (by decide +kernel) (m_call (h_given_l F) (by decide) (by decide +kernel) (m_acons (m_var 1 (by decide +kernel)) (m_acons (m_var 2 (by decide +kernel)) a_nil (by decide +kernel)) (by decide +kernel))))
  (s_cons (s_if (t_w (w_or (t_not (t_val (m_call (h_same_l F 4) (by decide) (by decide +kernel) (m_acons (m_call (h_kept_l F) (by decide) (by decide +kernel) (m_acons (m_var 2 (by decide +kernel)) (m_acons (m_var 4 (by decide +kernel)) a_nil (by decide +kernel)) (by decide +kernel))) (m_acons (n_tup (m_acons (m_var 2 (by decide +kernel)) (m_acons (m_var 4 (by decide +kernel)) a_nil (by decide +kernel)) (by decide +kernel))) a_nil (by decide +kernel)) (by decide +kernel))) (fun _ _ => rfl))) (w_or1 (t_not (t_val (m_call (h_classes_l F) (by decide) (by decide +kernel) (m_acons (m_var 2 (by decide +kernel)) (m_acons (m_var 4 (by decide +kernel)) a_nil (by decide +kernel)) (by decide +kernel))) (fun _ _ => rfl)))))) (s_cons (s_ret n_bl)
  s_nil) s_nil)
  s_nil)))
  s_nil))
  (s_cons (s_ret n_bl)
  s_nil)))
theorem h_law {U : Ud} (F : Fct hd U) : FnHas U.P U.w U.K U.mg U.base 5 "law" sp_law := F.fn (N := ["_law_script", "_law_flow_here", "_law_kind", "_law_turn", "_law_given_here"]) (ps := ["_law_script"]) 9 45 rfl rfl ⟨rfl, rfl⟩ rfl ⟨rfl, rfl, rfl, by decide +kernel, rfl, by decide +kernel, by decide +kernel⟩ (fun _ _ _ _ _ _ us hl => match us, hl with | [_], _ => rfl) (k_law F)
end FgL
namespace FgL
open PySem PySem.Spec L2 Fg
open PyProof.Rows hiding St
theorem at_lt {ds : List D} {i : Int} {d : D} (h0 : 0 ≤ i) (h : ds[i.toNat]? = some d) : atI ds i = some d := by
  have hl : i.toNat < ds.length := (List.getElem?_eq_some_iff.mp h).1
  unfold atI ixN
  rw [if_pos h0, if_pos (by omega)]
  exact h
theorem log_lt {i : Int} {n : Nat} (h : i.natAbs < 2 ^ n) (hn : 0 < n) : i.natAbs.log2 < n := by
  by_cases z : i.natAbs = 0
  · rw [z]; simpa using hn
  · exact (Nat.log2_lt z).mpr h
theorem mulW {i j : Int} (h1 : i.natAbs < 2 ^ 200) (h2 : j.natAbs < 2 ^ 200) : CMulW i j := by
  have a := log_lt h1 (by decide)
  have b := log_lt h2 (by decide)
  unfold CMulW
  omega
theorem flow_loop {d0 : D} {ds : List D} {M : MM} {N : EndsD} {E : QS} (hi : itemsOf M d0 = some ds) (hN : ∀ mx c, 0 ≤ mx → mx < 2147483647 → N.nx [some d0, some (.int mx), c] M) : ∀ (ns : List Int) (mx : Int) (c : Option D), 0 ≤ mx → mx < 2147483647 →
    loopD (fun M' => itemsOf M' d0 = some ds) (gNm 2) (wSeq (wAsg (wOp dMod (wCl cInt (wCons (wOp dAdd (wOp dMul (wVar 1) (wCst (.int 31))) (wCl cInt (wCons (wVar 2) wNil))) wNil)) (wCst (.int 2147483647))) (gNm 1)) wNext) (ns.map D.int) [some d0, some (.int mx), c] M N E
  | [], mx, c, h1, h2 => ⟨hi, hN mx c h1 h2⟩
  | x :: ns, mx, c, h1, h2 => by
    refine ⟨hi, ?_⟩
    simp only [gNm, wSeq, wAsg, wOp, wCl, wCons, wNil, wVar, wCst, wNext, cInt, dMod, dAdd, dMul, List.set_cons_zero, List.set_cons_succ, List.getElem?_cons_zero, List.getElem?_cons_succ, Option.some.injEq]
    refine ⟨?_, by decide, ?_⟩
    · exact mulW (by omega) (by decide)
    · exact flow_loop hi hN ns _ _ (Int.emod_nonneg _ (by decide)) (Int.emod_lt_of_pos _ (by decide))
/-- the flow at p -/
def FS (M : MM) (p : Addr) (ns : List Int) : Prop := ∃ (q : Addr) (i a c mx e : Int), M p = some (.lst [.ref q, .int i, .int a, .int c, .int mx, .int e]) ∧ M q = some (.lst (ns.map D.int)) ∧ q ≠ p ∧ 0 ≤ i ∧ 0 ≤ mx ∧ mx < 2147483647
def Fr (p : Addr) (M M' : MM) : Prop := ∀ x, x ≠ p → M' x = M x
theorem Fr.up {p : Addr} {M : MM} {o : MO} : Fr p M (up M p o) := fun x h => up_ne h
theorem ix6 (a b c d e f : D) : atI [a, b, c, d, e, f] 0 = some a ∧ atI [a, b, c, d, e, f] 1 = some b ∧ atI [a, b, c, d, e, f] 2 = some c ∧ atI [a, b, c, d, e, f] 3 = some d ∧ atI [a, b, c, d, e, f] 4 = some e ∧ atI [a, b, c, d, e, f] 5 = some f := ⟨rfl, rfl, rfl, rfl, rfl, rfl⟩
theorem nx6 : ixN 6 0 = some 0 ∧ ixN 6 1 = some 1 ∧ ixN 6 2 = some 2 ∧ ixN 6 3 = some 3 ∧ ixN 6 4 = some 4 ∧ ixN 6 5 = some 5 := ⟨rfl, rfl, rfl, rfl, rfl, rfl⟩
theorem p_load {M : MM} {p : Addr} {ns : List Int} {Q : QD} {E : QX} (h : FS M p ns) (k : ∀ M', FS M' p ns → Fr p M M' → Q .non M') : sp_load_l [.ref p] M Q E := by
  obtain ⟨q, i, a, c, mx, e, hp, hq, hn, h0, h1, h2⟩ := h
  refine ⟨rfl, ?_⟩
  show w_load_l [some (.ref p), none] M _ _
  have fin : ∀ a' c' e' i', 0 ≤ i' → FS (up M p (.lst [.ref q, .int i', .int a', .int c', .int mx, .int e'])) p ns := fun a' c' e' i' hi => ⟨q, i', a', c', mx, e', up_same, by rw [up_ne hn]; exact hq, hn, hi, h1, h2⟩
  simp only [w_load_l, w_load_l_1, w_load_l_2, w_load_l_3, w_load_l_4, w_load_l_5, w_load_l_6, wSeq, wIfS, wBl, wOp, wCl, wCons, wNil, wVar, wCst, wAsg, gNm, gSubD, wRetN, wNext, wDrop, dIx, dGe, dOrd, dSetI, cLen, lenD, hp, hq, up_same, up_ne hn, up_up, List.set_cons_zero, List.set_cons_succ, List.getElem?_cons_zero, List.getElem?_cons_succ,
    D.int.injEq, exists_eq_left', ix6, nx6, Option.some.injEq, List.cons.injEq, and_true, exists_and_left, List.length_cons, List.length_nil, Nat.zero_add, Nat.reduceAdd, List.length_map, decide_eq_true_eq]
  split
  · exact k _ (fin _ _ _ _ h0) Fr.up
  · rename_i hlt
    have hx : i.toNat < ns.length := by omega
    refine ⟨.int ns[i.toNat], at_lt h0 (by rw [List.getElem?_map, List.getElem?_eq_getElem hx]; rfl), ?_⟩
    have cd : ∀ z : Int, CDivW z 2 := fun z => ⟨by decide, by decide⟩
    simp only [cInt, cAbs, dAdd, dDiv, dMod, dEq, hp, hq, up_same, up_ne hn, up_up, List.set_cons_zero, List.set_cons_succ, D.int.injEq, exists_eq_left', ix6, nx6, Option.some.injEq, List.cons.injEq, and_true, exists_and_left, List.length_cons, List.length_nil, Nat.zero_add, Nat.reduceAdd, decide_eq_true_eq, cd, true_and]
    refine ⟨by decide, ?_⟩
    split
    · exact ⟨by decide, k _ (fin _ _ _ _ (by omega)) Fr.up⟩
    · exact k _ (fin _ _ _ _ (by omega)) Fr.up
theorem Fr.trans {p : Addr} {M M1 M2 : MM} (a : Fr p M M1) (b : Fr p M1 M2) : Fr p M M2 := fun x h => (b x h).trans (a x h)
theorem Fr.refl (p : Addr) (M : MM) : Fr p M M := fun _ _ => rfl
theorem p_draw {M : MM} {p : Addr} {ns : List Int} {m : Int} {Q : QD} {E : QX} (h : FS M p ns) (hm : m.natAbs.log2 < 8000) (k : ∀ r M', 0 ≤ r → (r < m ∨ r = 0) → FS M' p ns → Fr p M M' → Q (.int r) M') : sp_draw_l [.ref p, .int m] M Q E := by
  refine ⟨rfl, ?_⟩
  show w_draw_l [some (.ref p), some (.int m), none] M _ _
  have tail : ∀ M', FS M' p ns → Fr p M M' → w_draw_l_1 [some (.ref p), some (.int m), none] M' { nx := fun _ M' => Q .non M', rt := Q } (fun x _ M' => E x M') := fun M' hf fr => by
    obtain ⟨q, i, a, c, mx, e, hp, hq, hn, h0, h1, h2⟩ := hf
    have big : 0 < (if m > 1 then m else 1) ∧ (if m > 1 then m else 1).natAbs.log2 < 9000 := by
      split
      · exact ⟨by omega, by omega⟩
      · exact ⟨by decide, by decide⟩
    have less : ∀ z : Int, 0 ≤ z % (if m > 1 then m else 1) ∧ (z % (if m > 1 then m else 1) < m ∨ z % (if m > 1 then m else 1) = 0) := fun z => by
      have g1 := Int.emod_nonneg z (Int.ne_of_gt big.1)
      have g2 := Int.emod_lt_of_pos z big.1
      refine ⟨g1, ?_⟩
      split at g1 <;> split at g2 <;> split <;> omega
    have mw : CMulW mx 48271 := mulW (by omega) (by decide)
    have cd7 : ∀ z : Int, CDivW z 7 := fun z => ⟨by decide, by decide⟩
    have cdm : ∀ z : Int, CDivW z (if m > 1 then m else 1) := fun z => big
    obtain ⟨md, hmd⟩ : ∃ md, md = (if m > 1 then m else 1) := ⟨_, rfl⟩
    rw [← hmd] at big
    simp only [← hmd] at less cdm
    simp only [w_draw_l_1, w_draw_l_2, w_draw_l_3, w_draw_l_4, w_draw_l_5, w_draw_l_6, wSeq, wIfS, wBl, wOp, wCl, wCons, wNil, wVar, wCst, wAsg, gNm, gSubD, wRet, wNext, wDrop, dIx, dEq, dSetI, dSub, dMod, dDiv, dMul, dAdd, cInt, cMax, hp, hq, up_same, up_ne hn, up_up, List.set_cons_zero, List.set_cons_succ, List.getElem?_cons_zero, List.getElem?_cons_succ,
      D.int.injEq, exists_eq_left', ix6, nx6, Option.some.injEq, List.cons.injEq, and_true, exists_and_left, List.length_cons, List.length_nil, Nat.zero_add, Nat.reduceAdd, decide_eq_true_eq, mw, cd7, cdm, true_and, big.1, exists_eq', and_assoc, ← hmd]
    have fin : ∀ a' c' mx', 0 ≤ mx' → mx' < 2147483647 → FS (up M' p (.lst [.ref q, .int i, .int a', .int c', .int mx', .int e])) p ns := fun a' c' mx' g1 g2 => ⟨q, i, a', c', mx', e, up_same, by rw [up_ne hn]; exact hq, hn, h0, g1, g2⟩
    split
    · exact ⟨by decide, k _ _ (less _).1 (less _).2 (fin _ _ _ (Int.emod_nonneg _ (by decide)) (Int.emod_lt_of_pos _ (by decide))) (fr.trans Fr.up)⟩
    · split
      · exact k _ _ (less _).1 (less _).2 (fin _ _ _ h1 h2) (fr.trans Fr.up)
      · exact k _ _ (less _).1 (less _).2 (fin _ _ _ h1 h2) (fr.trans Fr.up)
  obtain ⟨q, i, a, c, mx, e, hp, hq, hn, h0, h1, h2⟩ := id h
  simp only [w_draw_l, wSeq, wIfS, wBl, wOp, wCl, wCons, wNil, wVar, wCst, wNext, wDrop, wCall, dIx, dEq, hp, List.getElem?_cons_zero, List.getElem?_cons_succ, D.int.injEq, exists_eq_left', exists_and_left, ix6, Option.some.injEq, decide_eq_true_eq]
  split
  · exact p_load h fun M' hf fr => tail M' hf fr
  · exact tail M h (Fr.refl p M)
/-- a value that is drawn from a list -/
theorem p_pick {M : MM} {p t : Addr} {ns : List Int} {ds : List D} {Q : QD} {E : QX} (h : FS M p ns) (ht : M t = some (.lst ds)) (hne : t ≠ p) (h1 : 0 < ds.length) (h2 : ds.length < 1000) (k : ∀ d M', d ∈ ds → FS M' p ns → Fr p M M' → Q d M') : sp_pick_l [.ref p, .ref t] M Q E := by
  refine ⟨rfl, ?_⟩
  show w_pick_l [some (.ref p), some (.ref t)] M _ _
  simp only [w_pick_l, wSeq, wRet, wOp, wCl, wCons, wNil, wVar, wCall, cLen, lenD, ht, List.getElem?_cons_zero, List.getElem?_cons_succ, exists_eq_left', Option.some.injEq, List.cons.injEq, and_true]
  refine ⟨_, ds.length, rfl, by simp only [ht], p_draw h (Nat.lt_of_lt_of_le (Nat.lt_of_le_of_lt (Nat.log2_le_self _) (by omega : ((ds.length : Int)).natAbs < 8000)) (Nat.le_refl _)) fun r M' r0 r1 hf fr => ?_⟩
  have hM : M' t = some (.lst ds) := (fr t hne).trans ht
  have hl : r.toNat < ds.length := by omega
  simp only [dIx, hM]
  exact ⟨r, ds[r.toNat], rfl, at_lt r0 (List.getElem?_eq_getElem hl), k _ M' (List.getElem_mem hl) hf fr⟩
theorem p_flow {M : MM} {ns : List Int} {Q : QD} {E : QX} (hl : ns.length ≤ 63) (k : ∀ p M', M p = none → FS M' p ns → (∀ x o, M x = some o → M' x = some o) → Q (.ref p) M') : sp_flow_l [script ns] M Q E := by
  refine ⟨rfl, ?_⟩
  show w_flow_l [some (script ns), none, none] M _ _
  have hi : itemsOf M (script ns) = some (ns.map D.int) := rfl
  simp only [w_flow_l, wSeq, wAsg, wCst, gNm, w_flow_l_1, wFor, wWalk, wVar, List.set_cons_zero, List.set_cons_succ, List.getElem?_cons_zero]
  refine ⟨ns.map D.int, hi, flow_loop hi (fun mx c g1 g2 => ?_) ns 1 none (by decide) (by decide)⟩
  simp only [w_flow_l_2, wSeq, wRet, wLst, wCons, wCl, wVar, wCst, wNil, cList, List.getElem?_cons_zero, List.getElem?_cons_succ]
  refine ⟨_, _, rfl, hi, fun q hq => ⟨by simp [sizeLine_eq], fun p hp => ?_⟩⟩
  have hpq : p ≠ q := fun z => by rw [z, up_same] at hp; cases hp
  have hp' : M p = none := by rw [up_ne hpq] at hp; exact hp
  refine k p _ hp' ⟨q, 0, 0, 0, mx, 0, up_same, by rw [up_ne (Ne.symm hpq), up_same], Ne.symm hpq, by decide, g1, g2⟩ fun x o hx => ?_
  rw [up_ne (fun z => by rw [z, hp'] at hx; cases hx), up_ne (fun z => by rw [z, hq] at hx; cases hx)]
  exact hx
end FgL
namespace FgL
open PySem PySem.Spec L2 Fg
open PyProof.Rows hiding St
/-- nothing that was there is changed -/
def Ext (M M' : MM) : Prop := ∀ a o, M a = some o → M' a = some o
theorem Ext.refl (M : MM) : Ext M M := fun _ _ h => h
theorem Ext.trans {M M1 M2 : MM} (a : Ext M M1) (b : Ext M1 M2) : Ext M M2 := fun x o h => b x o (a x o h)
theorem Ext.up {M : MM} {p : Addr} {o : MO} (h : M p = none) : Ext M (up M p o) := fun x u e => by rw [up_ne (fun z => by rw [z, h] at e; cases e)]; exact e
theorem Ext.up2 {M M' : MM} {p : Addr} {o : MO} (h : M p = none) (e : Ext M M') : Ext M (Fg.up M' p o) := fun x u q => by rw [up_ne (fun z => by rw [z, h] at q; cases q)]; exact e x u q
theorem FS.ext {M M' : MM} {p : Addr} {ns : List Int} (h : FS M p ns) (e : Ext M M') : FS M' p ns := by
  obtain ⟨q, i, a, c, mx, e', hp, hq, r⟩ := h
  exact ⟨q, i, a, c, mx, e', e _ _ hp, e _ _ hq, r⟩
/-- a value that the law hands about: n deep at most -/
def good : Nat → MM → D → Prop
  | n, M, .non => True
  | n, M, .bl _ => True
  | n, M, .int _ => True
  | n, M, .str _ => True
  | n + 1, M, .tup ds => ds.length < 1000 ∧ ∀ d ∈ ds, good n M d
  | n + 1, M, .ref p => ∃ ds, M p = some (.lst ds) ∧ ds.length < 1000 ∧ ∀ d ∈ ds, good n M d
  | _, _, _ => False
theorem good.ext {M M' : MM} (e : Ext M M') : ∀ {n : Nat} {d : D}, good n M d → good n M' d
  | n, .non, _ => by cases n <;> trivial
  | n, .bl _, _ => by cases n <;> trivial
  | n, .int _, _ => by cases n <;> trivial
  | n, .str _, _ => by cases n <;> trivial
  | n + 1, .tup ds, h => ⟨h.1, fun d hd => good.ext e (h.2 d hd)⟩
  | n + 1, .ref p, h => by
    obtain ⟨ds, h1, h2, h3⟩ := h
    exact ⟨ds, e _ _ h1, h2, fun d hd => good.ext e (h3 d hd)⟩
  | 0, .tup _, h => h.elim
  | 0, .ref _, h => h.elim
  | 0, .rol _, h => h.elim
  | n + 1, .rol _, h => h.elim
  | 0, .ty _, h => h.elim
  | n + 1, .ty _, h => h.elim
/-- [f of each], the turns by a call that answers True -/
theorem all_loop {te : WE} {p : Addr} {ρ0 : En} {i : Nat} {K : MM → Prop} {M0 : MM} (h0 : M0 p = none) : ∀ (is : List D) (m : Nat) (M : MM),
    (∀ d ∈ is, ∀ (M1 : MM) (Q : QD), Ext M0 M1 → (∀ M2, Ext M1 M2 → Q (.bl true) M2) → te (ρ0.set i (some d)) M1 Q noX) → Ext M0 M → M p = some (.lst (List.replicate m (.bl true))) → m + is.length < 10000 →
    (∀ M2, Ext M0 M2 → M2 p = some (.lst (List.replicate (m + is.length) (.bl true))) → K M2) → lcD (fun _ => True) p ρ0 (gNm i) wYes te is (List.replicate m (.bl true)) M K
  | [], m, M, _, e, hp, _, k => ⟨trivial, hp, k M e hp⟩
  | d :: is, m, M, h, e, hp, hl, k => by
    refine ⟨trivial, ?_⟩
    show te (ρ0.set i (some d)) M _ noX
    refine h d (List.mem_cons_self ..) M _ e fun M2 e2 => ⟨e2 _ _ hp, ?_, ?_⟩
    · rw [List.length_replicate, sizeLine_eq]
      simp only [List.length_cons] at hl
      omega
    · have er : List.replicate m (D.bl true) ++ [.bl true] = List.replicate (m + 1) (.bl true) := (List.replicate_succ' ..).symm
      rw [er]
      refine all_loop h0 is (m + 1) _ (fun d hd => h d (List.mem_cons_of_mem _ hd)) (Ext.up2 h0 (e.trans e2)) up_same (by simp only [List.length_cons] at hl; omega) fun M3 e3 h3 => k M3 e3 ?_
      rw [h3, List.length_cons]
      congr 3
      omega
theorem upTo_mem {n : Nat} {d : D} (h : d ∈ Fg.upTo 0 n) : ∃ i : Nat, i < n ∧ d = .int i := by
  unfold Fg.upTo at h
  obtain ⟨i, h1, h2⟩ := List.mem_map.mp h
  exact ⟨i, List.mem_range.mp h1, by rw [← h2]; simp⟩
theorem at_nat {ds : List D} {i : Nat} (h : i < ds.length) : atI ds (i : Int) = some ds[i] := at_lt (by omega) (by simp [h])
theorem isT : isTy "NoneType" "tuple" = false ∧ isTy "NoneType" "list" = false ∧ isTy "NoneType" "str" = false ∧ isTy "NoneType" "bool" = false ∧ isTy "NoneType" "int" = false ∧ isTy "bool" "tuple" = false ∧ isTy "bool" "list" = false ∧ isTy "bool" "str" = false ∧ isTy "bool" "bool" = true ∧ isTy "bool" "int" = true ∧ isTy "int" "tuple" = false ∧ isTy "int" "list" = false ∧ isTy "int" "str" = false ∧ isTy "int" "bool" = false ∧ isTy "int" "int" = true ∧ isTy "str" "tuple" = false ∧ isTy "str" "list" = false ∧ isTy "str" "str" = true ∧ isTy "str" "bool" = false ∧ isTy "str" "int" = false ∧ isTy "list" "tuple" = false ∧ isTy "list" "list" = true ∧ isTy "list" "str" = false ∧ isTy "list" "bool" = false ∧ isTy "list" "int" = false ∧ isTy "tuple" "tuple" = true ∧ isTy "tuple" "list" = false ∧ isTy "tuple" "str" = false ∧ isTy "tuple" "bool" = false ∧ isTy "tuple" "int" = false := by decide
theorem knT : knownTy "tuple" = true ∧ knownTy "list" = true ∧ knownTy "str" = true ∧ knownTy "bool" = true ∧ knownTy "int" = true := by decide
theorem same_atom {sp : SpD} {d : D} {M : MM} {Q : QD} {E : QS} (h : good 0 M d) (k : Q (.bl true) M) : w_same_l sp [some d, some d, none] M { nx := fun _ M' => Q .non M', rt := Q } E := by
  have go : ∀ t, tyOf M d = some t → (t = "NoneType" ∨ t = "bool" ∨ t = "int" ∨ t = "str") → True := fun _ _ _ => trivial
  cases d with
  | non =>
    simp only [w_same_l, w_same_l_1, wSeq, wIfS, wOrB, Fg.wTru, wBl, wRet, wOp, wCl, wCons, wNil, wVar, wCst, wNext, cIsi, dIs, Fg.isNon, tyOf, truD, isT, knT, List.getElem?_cons_zero, List.getElem?_cons_succ, exists_eq_left', Option.some.injEq, true_and, Bool.false_eq_true, if_false, if_true]
    exact k
  | bl b =>
    simp only [w_same_l, w_same_l_1, w_same_l_2, w_same_l_3, wSeq, wIfS, wOrB, Fg.wTru, wBl, wRet, wOp, wCl, wCons, wNil, wVar, wCst, wNext, wAndV, dEq, cIsi, dIs, Fg.isNon, tyOf, truD, isT, knT, List.getElem?_cons_zero, List.getElem?_cons_succ, exists_eq_left', Option.some.injEq, true_and, Bool.false_eq_true, if_false, if_true, beq_self_eq_true]
    exact k
  | int i =>
    simp only [w_same_l, w_same_l_1, w_same_l_2, w_same_l_3, w_same_l_4, wSeq, wIfS, wOrB, Fg.wTru, wBl, wRet, wOp, wCl, wCons, wNil, wVar, wCst, wNext, wAndV, wNotV, dEq, cIsi, dIs, Fg.isNon, tyOf, truD, isT, knT, List.getElem?_cons_zero, List.getElem?_cons_succ, exists_eq_left', Option.some.injEq, true_and, Bool.false_eq_true, if_false, if_true, Bool.not_false, decide_true]
    exact k
  | str x =>
    simp only [w_same_l, w_same_l_1, w_same_l_2, wSeq, wIfS, wOrB, Fg.wTru, wBl, wRet, wOp, wCl, wCons, wNil, wVar, wCst, wNext, wAndV, dEq, cIsi, dIs, Fg.isNon, tyOf, truD, isT, knT, List.getElem?_cons_zero, List.getElem?_cons_succ, exists_eq_left', Option.some.injEq, true_and, Bool.false_eq_true, if_false, if_true, decide_true]
    exact k
  | _ => exact h.elim
/-- a tuple or a list, its parts alike -/
theorem same_seq {sp : SpD} {d : D} {ds : List D} {t : String} {M : MM} {Q : QD} {E : QS} (ht : tyOf M d = some t) (h2 : t = "tuple" ∨ t = "list") (hl : lenD M d = some ds.length) (hz : ds.length < 1000) (hix : ∀ M' (i : Nat) Q', Ext M M' → (hi : i < ds.length) → Q' ds[i] M' → dIx d (.int i) M' Q')
    (hsp : ∀ x ∈ ds, ∀ M' Q' E', Ext M M' → (∀ M'', Ext M' M'' → Q' (.bl true) M'') → sp [x, x] M' Q' E') (k : ∀ M', Ext M M' → Q (.bl true) M') : w_same_l sp [some d, some d, none] M { nx := fun _ M' => Q .non M', rt := Q } E := by
  have core : wRet (wAndV (wOp dEq (wCl cLen (wCons (wVar 0) wNil)) (wCl cLen (wCons (wVar 1) wNil))) (wCl cAll (wCons (wLc (wRng1 (wCons (wCl cLen (wCons (wVar 1) wNil)) wNil)) [2] (gNm 2) wYes (wCall sp (wCons (wOp dIx (wVar 0) (wVar 2)) (wCons (wOp dIx (wVar 1) (wVar 2)) wNil)))) wNil)))
      [some d, some d, none] M { nx := fun ρ1 M1 => wNext ρ1 M1 { nx := fun ρ1 M1 => w_same_l_1 sp ρ1 M1 { nx := fun _ M' => Q .non M', rt := Q } E, rt := Q } E, rt := Q } E := by
    simp only [wRet, wAndV, wOp, wCl, wCons, wNil, wVar, wLc, wRng1, cLen, List.getElem?_cons_zero, List.getElem?_cons_succ, List.cons.injEq, and_true, exists_eq_left', exists_and_left]
    refine ⟨ds.length, hl, ds.length, hl, ?_⟩
    simp only [dEq, truD, decide_true, exists_eq_left', Option.some.injEq, if_true]
    refine ⟨ds.length, hl, _, rfl, by omega, by omega, fun p hp => ?_⟩
    refine all_loop (te := wCall sp (wCons (wOp dIx (wVar 0) (wVar 2)) (wCons (wOp dIx (wVar 1) (wVar 2)) wNil))) (M0 := M) hp _ 0 _ (fun x hx M1 Q1 e1 k1 => ?_) (Ext.up hp) up_same ?_ fun M2 e2 h2 => ?_
    · obtain ⟨i, hi, rfl⟩ := upTo_mem hx
      have hi : i < ds.length := by simpa using hi
      simp only [wipeD, List.set_cons_zero, List.set_cons_succ, wCall, wCons, wOp, wVar, wNil, List.getElem?_cons_zero, List.getElem?_cons_succ]
      exact hix M1 i _ e1 hi (hix M1 i _ e1 hi (hsp _ (List.getElem_mem hi) M1 Q1 noX e1 k1))
    · unfold Fg.upTo
      simp only [List.length_map, List.length_range]
      omega
    · refine ⟨.ref p, List.replicate (Fg.upTo 0 ((ds.length : Int)).toNat).length true, rfl, ?_, ?_⟩
      · simp only [lstOf, h2, Nat.zero_add, List.map_replicate]
      · have e : (List.replicate (Fg.upTo 0 ((ds.length : Int)).toNat).length true).all id = true := by simp
        rw [e]
        exact k _ e2
  rcases h2 with rfl | rfl
  · simp only [w_same_l, wSeq, wIfS, wOrB, Fg.wTru, wBl, wOp, wCl, wCons, wNil, wVar, wCst, cIsi, ht, truD, isT, knT, dNe, dEq, List.getElem?_cons_zero, List.getElem?_cons_succ, exists_eq_left', Option.some.injEq, true_and, Bool.false_eq_true, if_false, if_true, beq_self_eq_true, Bool.not_true]
    exact core
  · simp only [w_same_l, wSeq, wIfS, wOrB, Fg.wTru, wBl, wOp, wCl, wCons, wNil, wVar, wCst, cIsi, ht, truD, isT, knT, dNe, dEq, List.getElem?_cons_zero, List.getElem?_cons_succ, exists_eq_left', Option.some.injEq, true_and, Bool.false_eq_true, if_false, if_true, beq_self_eq_true, Bool.not_true]
    exact core
theorem p_same : ∀ (n : Nat) (d : D) (M : MM) (Q : QD) (E : QX), good n M d → (∀ M', Ext M M' → Q (.bl true) M') → sp_same_l (n + 1) [d, d] M Q E
  | 0, d, M, Q, E, h, k => ⟨rfl, same_atom h (k M (Ext.refl M))⟩
  | n + 1, d, M, Q, E, h, k => by
    refine ⟨rfl, ?_⟩
    show w_same_l (sp_same_l (n + 1)) [some d, some d, none] M _ _
    cases d with
    | tup ds =>
      refine same_seq (t := "tuple") (ds := ds) rfl (.inl rfl) rfl h.1 (fun M' i Q' e hi q => ⟨i, _, rfl, at_nat hi, q⟩) (fun x hx M' Q' E' e q => p_same n x M' Q' E' ((h.2 x hx).ext e) q) k
    | ref p =>
      obtain ⟨ds, h1, h2, h3⟩ := h
      refine same_seq (t := "list") (ds := ds) (by simp only [tyOf, h1]) (.inr rfl) (by simp only [lenD, h1]) h2 (fun M' i Q' e hi q => ?_) (fun x hx M' Q' E' e q => p_same n x M' Q' E' ((h3 x hx).ext e) q) k
      simp only [dIx, e _ _ h1]
      exact ⟨i, _, rfl, at_nat hi, q⟩
    | non => exact same_atom trivial (k M (Ext.refl M))
    | bl b => exact same_atom trivial (k M (Ext.refl M))
    | int i => exact same_atom trivial (k M (Ext.refl M))
    | str x => exact same_atom trivial (k M (Ext.refl M))
    | _ => exact h.elim
end FgL
namespace FgL
open PySem PySem.Spec L2 Fg
open PyProof.Rows hiding St
/-- the class and the field of a kind -/
def kn (i : Nat) : Str × Str := ([("BadValue", "at"), ("BadStep", "at"), ("BadClaim", "at"), ("BadPaper", "at"), ("BadLine", "at"), ("BadPoint", "name"), ("Impossible", "name"), ("Broken", "name"), ("TooMany", "word"), ("NothingThere", "word")] : List (Str × Str)).getD i ("", "")
theorem ten {i : Nat} (h : i < 10) : i = 0 ∨ i = 1 ∨ i = 2 ∨ i = 3 ∨ i = 4 ∨ i = 5 ∨ i = 6 ∨ i = 7 ∨ i = 8 ∨ i = 9 := by omega
theorem p_raise {i : Nat} (h : i < 10) {v : D} {M : MM} {Q : QD} {E : QX} (k : E ⟨(kn i).1, (kn i).2, v⟩ M) : sp_raise_l [.int i, v] M Q E := by
  rcases ten h with rfl | rfl | rfl | rfl | rfl | rfl | rfl | rfl | rfl | rfl <;> exact ⟨rfl, k⟩
theorem p_kept {i : Nat} (h : i < 10) {v : D} {M : MM} {Q : QD} {E : QX} (k : ∀ M', Ext M M' → Q (.tup [.int i, v]) M') : sp_kept_l [.int i, v] M Q E := by
  refine ⟨rfl, ?_⟩
  show w_kept_l [some (.int i), some v, none] M _ _
  simp only [w_kept_l, wSeq, wTry, wDrop, wCall, wCons, wVar, wNil, List.getElem?_cons_zero, List.getElem?_cons_succ]
  refine p_raise h ?_
  rcases ten h with rfl | rfl | rfl | rfl | rfl | rfl | rfl | rfl | rfl | rfl
  · refine ⟨(show (kn 0).1 ∈ xs by decide +kernel), ?_⟩
    rw [if_pos (show xsb (kn 0).1 "BadValue" = true by decide +kernel)]
    intro a dd ha hd hne
    exact ⟨rfl, (show (kn 0).1 ∈ xs by decide +kernel), by decide +kernel, v, up_same, (show 2 ≤ sizeLine by rw [sizeLine_eq]; decide), k _ (Ext.up hd)⟩
  · refine ⟨(show (kn 1).1 ∈ xs by decide +kernel), ?_⟩
    rw [if_neg (show ¬ (xsb (kn 1).1 "BadValue" = true) by decide +kernel)]
    refine ⟨(show (kn 1).1 ∈ xs by decide +kernel), ?_⟩
    rw [if_pos (show xsb (kn 1).1 "BadStep" = true by decide +kernel)]
    intro a dd ha hd hne
    exact ⟨rfl, (show (kn 1).1 ∈ xs by decide +kernel), by decide +kernel, v, up_same, (show 2 ≤ sizeLine by rw [sizeLine_eq]; decide), k _ (Ext.up hd)⟩
  · refine ⟨(show (kn 2).1 ∈ xs by decide +kernel), ?_⟩
    rw [if_neg (show ¬ (xsb (kn 2).1 "BadValue" = true) by decide +kernel)]
    refine ⟨(show (kn 2).1 ∈ xs by decide +kernel), ?_⟩
    rw [if_neg (show ¬ (xsb (kn 2).1 "BadStep" = true) by decide +kernel)]
    refine ⟨(show (kn 2).1 ∈ xs by decide +kernel), ?_⟩
    rw [if_pos (show xsb (kn 2).1 "BadClaim" = true by decide +kernel)]
    intro a dd ha hd hne
    exact ⟨rfl, (show (kn 2).1 ∈ xs by decide +kernel), by decide +kernel, v, up_same, (show 2 ≤ sizeLine by rw [sizeLine_eq]; decide), k _ (Ext.up hd)⟩
  · refine ⟨(show (kn 3).1 ∈ xs by decide +kernel), ?_⟩
    rw [if_neg (show ¬ (xsb (kn 3).1 "BadValue" = true) by decide +kernel)]
    refine ⟨(show (kn 3).1 ∈ xs by decide +kernel), ?_⟩
    rw [if_neg (show ¬ (xsb (kn 3).1 "BadStep" = true) by decide +kernel)]
    refine ⟨(show (kn 3).1 ∈ xs by decide +kernel), ?_⟩
    rw [if_neg (show ¬ (xsb (kn 3).1 "BadClaim" = true) by decide +kernel)]
    refine ⟨(show (kn 3).1 ∈ xs by decide +kernel), ?_⟩
    rw [if_pos (show xsb (kn 3).1 "BadPaper" = true by decide +kernel)]
    intro a dd ha hd hne
    exact ⟨rfl, (show (kn 3).1 ∈ xs by decide +kernel), by decide +kernel, v, up_same, (show 2 ≤ sizeLine by rw [sizeLine_eq]; decide), k _ (Ext.up hd)⟩
  · refine ⟨(show (kn 4).1 ∈ xs by decide +kernel), ?_⟩
    rw [if_neg (show ¬ (xsb (kn 4).1 "BadValue" = true) by decide +kernel)]
    refine ⟨(show (kn 4).1 ∈ xs by decide +kernel), ?_⟩
    rw [if_neg (show ¬ (xsb (kn 4).1 "BadStep" = true) by decide +kernel)]
    refine ⟨(show (kn 4).1 ∈ xs by decide +kernel), ?_⟩
    rw [if_neg (show ¬ (xsb (kn 4).1 "BadClaim" = true) by decide +kernel)]
    refine ⟨(show (kn 4).1 ∈ xs by decide +kernel), ?_⟩
    rw [if_neg (show ¬ (xsb (kn 4).1 "BadPaper" = true) by decide +kernel)]
    refine ⟨(show (kn 4).1 ∈ xs by decide +kernel), ?_⟩
    rw [if_pos (show xsb (kn 4).1 "BadLine" = true by decide +kernel)]
    intro a dd ha hd hne
    exact ⟨rfl, (show (kn 4).1 ∈ xs by decide +kernel), by decide +kernel, v, up_same, (show 2 ≤ sizeLine by rw [sizeLine_eq]; decide), k _ (Ext.up hd)⟩
  · refine ⟨(show (kn 5).1 ∈ xs by decide +kernel), ?_⟩
    rw [if_neg (show ¬ (xsb (kn 5).1 "BadValue" = true) by decide +kernel)]
    refine ⟨(show (kn 5).1 ∈ xs by decide +kernel), ?_⟩
    rw [if_neg (show ¬ (xsb (kn 5).1 "BadStep" = true) by decide +kernel)]
    refine ⟨(show (kn 5).1 ∈ xs by decide +kernel), ?_⟩
    rw [if_neg (show ¬ (xsb (kn 5).1 "BadClaim" = true) by decide +kernel)]
    refine ⟨(show (kn 5).1 ∈ xs by decide +kernel), ?_⟩
    rw [if_neg (show ¬ (xsb (kn 5).1 "BadPaper" = true) by decide +kernel)]
    refine ⟨(show (kn 5).1 ∈ xs by decide +kernel), ?_⟩
    rw [if_neg (show ¬ (xsb (kn 5).1 "BadLine" = true) by decide +kernel)]
    refine ⟨(show (kn 5).1 ∈ xs by decide +kernel), ?_⟩
    rw [if_pos (show xsb (kn 5).1 "BadPoint" = true by decide +kernel)]
    intro a dd ha hd hne
    exact ⟨rfl, (show (kn 5).1 ∈ xs by decide +kernel), by decide +kernel, v, up_same, (show 2 ≤ sizeLine by rw [sizeLine_eq]; decide), k _ (Ext.up hd)⟩
  · refine ⟨(show (kn 6).1 ∈ xs by decide +kernel), ?_⟩
    rw [if_neg (show ¬ (xsb (kn 6).1 "BadValue" = true) by decide +kernel)]
    refine ⟨(show (kn 6).1 ∈ xs by decide +kernel), ?_⟩
    rw [if_neg (show ¬ (xsb (kn 6).1 "BadStep" = true) by decide +kernel)]
    refine ⟨(show (kn 6).1 ∈ xs by decide +kernel), ?_⟩
    rw [if_neg (show ¬ (xsb (kn 6).1 "BadClaim" = true) by decide +kernel)]
    refine ⟨(show (kn 6).1 ∈ xs by decide +kernel), ?_⟩
    rw [if_neg (show ¬ (xsb (kn 6).1 "BadPaper" = true) by decide +kernel)]
    refine ⟨(show (kn 6).1 ∈ xs by decide +kernel), ?_⟩
    rw [if_neg (show ¬ (xsb (kn 6).1 "BadLine" = true) by decide +kernel)]
    refine ⟨(show (kn 6).1 ∈ xs by decide +kernel), ?_⟩
    rw [if_neg (show ¬ (xsb (kn 6).1 "BadPoint" = true) by decide +kernel)]
    refine ⟨(show (kn 6).1 ∈ xs by decide +kernel), ?_⟩
    rw [if_pos (show xsb (kn 6).1 "Impossible" = true by decide +kernel)]
    intro a dd ha hd hne
    exact ⟨rfl, (show (kn 6).1 ∈ xs by decide +kernel), by decide +kernel, v, up_same, (show 2 ≤ sizeLine by rw [sizeLine_eq]; decide), k _ (Ext.up hd)⟩
  · refine ⟨(show (kn 7).1 ∈ xs by decide +kernel), ?_⟩
    rw [if_neg (show ¬ (xsb (kn 7).1 "BadValue" = true) by decide +kernel)]
    refine ⟨(show (kn 7).1 ∈ xs by decide +kernel), ?_⟩
    rw [if_neg (show ¬ (xsb (kn 7).1 "BadStep" = true) by decide +kernel)]
    refine ⟨(show (kn 7).1 ∈ xs by decide +kernel), ?_⟩
    rw [if_neg (show ¬ (xsb (kn 7).1 "BadClaim" = true) by decide +kernel)]
    refine ⟨(show (kn 7).1 ∈ xs by decide +kernel), ?_⟩
    rw [if_neg (show ¬ (xsb (kn 7).1 "BadPaper" = true) by decide +kernel)]
    refine ⟨(show (kn 7).1 ∈ xs by decide +kernel), ?_⟩
    rw [if_neg (show ¬ (xsb (kn 7).1 "BadLine" = true) by decide +kernel)]
    refine ⟨(show (kn 7).1 ∈ xs by decide +kernel), ?_⟩
    rw [if_neg (show ¬ (xsb (kn 7).1 "BadPoint" = true) by decide +kernel)]
    refine ⟨(show (kn 7).1 ∈ xs by decide +kernel), ?_⟩
    rw [if_neg (show ¬ (xsb (kn 7).1 "Impossible" = true) by decide +kernel)]
    refine ⟨(show (kn 7).1 ∈ xs by decide +kernel), ?_⟩
    rw [if_pos (show xsb (kn 7).1 "Broken" = true by decide +kernel)]
    intro a dd ha hd hne
    exact ⟨rfl, (show (kn 7).1 ∈ xs by decide +kernel), by decide +kernel, v, up_same, (show 2 ≤ sizeLine by rw [sizeLine_eq]; decide), k _ (Ext.up hd)⟩
  · refine ⟨(show (kn 8).1 ∈ xs by decide +kernel), ?_⟩
    rw [if_neg (show ¬ (xsb (kn 8).1 "BadValue" = true) by decide +kernel)]
    refine ⟨(show (kn 8).1 ∈ xs by decide +kernel), ?_⟩
    rw [if_neg (show ¬ (xsb (kn 8).1 "BadStep" = true) by decide +kernel)]
    refine ⟨(show (kn 8).1 ∈ xs by decide +kernel), ?_⟩
    rw [if_neg (show ¬ (xsb (kn 8).1 "BadClaim" = true) by decide +kernel)]
    refine ⟨(show (kn 8).1 ∈ xs by decide +kernel), ?_⟩
    rw [if_neg (show ¬ (xsb (kn 8).1 "BadPaper" = true) by decide +kernel)]
    refine ⟨(show (kn 8).1 ∈ xs by decide +kernel), ?_⟩
    rw [if_neg (show ¬ (xsb (kn 8).1 "BadLine" = true) by decide +kernel)]
    refine ⟨(show (kn 8).1 ∈ xs by decide +kernel), ?_⟩
    rw [if_neg (show ¬ (xsb (kn 8).1 "BadPoint" = true) by decide +kernel)]
    refine ⟨(show (kn 8).1 ∈ xs by decide +kernel), ?_⟩
    rw [if_neg (show ¬ (xsb (kn 8).1 "Impossible" = true) by decide +kernel)]
    refine ⟨(show (kn 8).1 ∈ xs by decide +kernel), ?_⟩
    rw [if_neg (show ¬ (xsb (kn 8).1 "Broken" = true) by decide +kernel)]
    refine ⟨(show (kn 8).1 ∈ xs by decide +kernel), ?_⟩
    rw [if_pos (show xsb (kn 8).1 "TooMany" = true by decide +kernel)]
    intro a dd ha hd hne
    exact ⟨rfl, (show (kn 8).1 ∈ xs by decide +kernel), by decide +kernel, v, up_same, (show 2 ≤ sizeLine by rw [sizeLine_eq]; decide), k _ (Ext.up hd)⟩
  · refine ⟨(show (kn 9).1 ∈ xs by decide +kernel), ?_⟩
    rw [if_neg (show ¬ (xsb (kn 9).1 "BadValue" = true) by decide +kernel)]
    refine ⟨(show (kn 9).1 ∈ xs by decide +kernel), ?_⟩
    rw [if_neg (show ¬ (xsb (kn 9).1 "BadStep" = true) by decide +kernel)]
    refine ⟨(show (kn 9).1 ∈ xs by decide +kernel), ?_⟩
    rw [if_neg (show ¬ (xsb (kn 9).1 "BadClaim" = true) by decide +kernel)]
    refine ⟨(show (kn 9).1 ∈ xs by decide +kernel), ?_⟩
    rw [if_neg (show ¬ (xsb (kn 9).1 "BadPaper" = true) by decide +kernel)]
    refine ⟨(show (kn 9).1 ∈ xs by decide +kernel), ?_⟩
    rw [if_neg (show ¬ (xsb (kn 9).1 "BadLine" = true) by decide +kernel)]
    refine ⟨(show (kn 9).1 ∈ xs by decide +kernel), ?_⟩
    rw [if_neg (show ¬ (xsb (kn 9).1 "BadPoint" = true) by decide +kernel)]
    refine ⟨(show (kn 9).1 ∈ xs by decide +kernel), ?_⟩
    rw [if_neg (show ¬ (xsb (kn 9).1 "Impossible" = true) by decide +kernel)]
    refine ⟨(show (kn 9).1 ∈ xs by decide +kernel), ?_⟩
    rw [if_neg (show ¬ (xsb (kn 9).1 "Broken" = true) by decide +kernel)]
    refine ⟨(show (kn 9).1 ∈ xs by decide +kernel), ?_⟩
    rw [if_neg (show ¬ (xsb (kn 9).1 "TooMany" = true) by decide +kernel)]
    refine ⟨(show (kn 9).1 ∈ xs by decide +kernel), ?_⟩
    rw [if_pos (show xsb (kn 9).1 "NothingThere" = true by decide +kernel)]
    intro a dd ha hd hne
    exact ⟨rfl, (show (kn 9).1 ∈ xs by decide +kernel), by decide +kernel, v, up_same, (show 2 ≤ sizeLine by rw [sizeLine_eq]; decide), k _ (Ext.up hd)⟩
end FgL
namespace FgL
open PySem PySem.Spec L2 Fg
open PyProof.Rows hiding St
/-- [f d for d in ..], f without any change -/
theorem lc_pure {te : WE} {p : Addr} {ρ0 : En} {i : Nat} {f : D → D} {K : MM → Prop} : ∀ (is acc : List D) (M : MM), (∀ d ∈ is, ∀ (M1 : MM) (Q : QD), Q (f d) M1 → te (ρ0.set i (some d)) M1 Q noX) → M p = some (.lst acc) → acc.length + is.length < 10000 →
    (∀ M2, (∀ x, x ≠ p → M2 x = M x) → M2 p = some (.lst (acc ++ is.map f)) → K M2) → lcD (fun _ => True) p ρ0 (gNm i) wYes te is acc M K
  | [], acc, M, _, hp, _, k => ⟨trivial, hp, k M (fun _ _ => rfl) (by simpa using hp)⟩
  | d :: is, acc, M, h, hp, hl, k => by
    refine ⟨trivial, ?_⟩
    show te (ρ0.set i (some d)) M _ noX
    simp only [List.length_cons] at hl
    refine h d (List.mem_cons_self ..) M _ ⟨hp, by rw [sizeLine_eq]; omega, lc_pure is _ _ (fun d hd => h d (List.mem_cons_of_mem _ hd)) up_same (by rw [List.length_append, List.length_singleton]; omega) fun M2 h1 h2 => k M2 (fun x hx => (h1 x hx).trans (up_ne hx)) ?_⟩
    rw [h2, List.map_cons, List.append_assoc]
    rfl
theorem p_classes {i : Nat} (h : i < 10) {v : D} {M : MM} {Q : QD} {E : QX} (k : ∀ M', Ext M M' → Q (.bl true) M') : sp_classes_l [.int i, v] M Q E := by
  refine ⟨rfl, ?_⟩
  show w_classes_l [some (.int i), some v, none, none, none] M _ _
  simp only [w_classes_l, wSeq, wTry, wDrop, wCall, wCons, wVar, wNil, List.getElem?_cons_zero, List.getElem?_cons_succ]
  refine p_raise h ?_
  have hin : (kn i).1 ∈ xs := by rcases ten h with rfl | rfl | rfl | rfl | rfl | rfl | rfl | rfl | rfl | rfl <;> decide +kernel
  have hfe : xsb (kn i).1 "FigureError" = true := by rcases ten h with rfl | rfl | rfl | rfl | rfl | rfl | rfl | rfl | rfl | rfl <;> decide +kernel
  refine ⟨hin, ?_⟩
  rw [if_pos hfe]
  intro a dd ha hd hne
  generalize hM2 : up M dd (.xd (kn i).2 v) = M2
  have hx : ∃ f w, M2 dd = some (.xd f w) := ⟨_, _, by rw [← hM2]; exact up_same⟩
  have e2 : Ext M M2 := by rw [← hM2]; exact Ext.up hd
  show wSeq _ _ [some (.int i), some v, some (.ref a), none, none] M2 _ _
  simp only [wSeq, wAsg, wLst, wCons, wNil, wXIs, wVar, gNm, List.set_cons_zero, List.set_cons_succ, List.getElem?_cons_zero, List.getElem?_cons_succ, true_and, hin, hx, List.length_cons, List.length_nil, Nat.zero_add, Nat.reduceAdd]
  have sl : ∀ n : Nat, n ≤ 1000 → n ≤ sizeLine := fun n hn => Nat.le_trans hn (by rw [sizeLine_eq]; decide)
  refine ⟨sl _ (by decide), fun p1 hp1 => ?_⟩
  generalize hL1 : ([.bl ([Cn.own "BadValue"].any (Cn.b (kn i).1)), .bl ([Cn.own "BadStep"].any (Cn.b (kn i).1)), .bl ([Cn.own "BadClaim"].any (Cn.b (kn i).1)), .bl ([Cn.own "BadPaper"].any (Cn.b (kn i).1))] : List D) = L1
  generalize hM3 : up M2 p1 (.lst L1) = M3
  have e3 : Ext M2 M3 := by rw [← hM3]; exact Ext.up hp1
  have hx3 : ∃ f w, M3 dd = some (.xd f w) := let ⟨f, w, z⟩ := hx; ⟨f, w, e3 _ _ z⟩
  have h31 : M3 p1 = some (.lst L1) := by rw [← hM3]; exact up_same
  simp only [wOp, wLst, wCons, wNil, wXIs, wVar, List.getElem?_cons_zero, List.getElem?_cons_succ, true_and, hin, hx3, List.length_cons, List.length_nil, Nat.zero_add, Nat.reduceAdd]
  refine ⟨sl _ (by decide), fun p2 hp2 => ?_⟩
  generalize hL2 : ([.bl ([Cn.own "BadLine"].any (Cn.b (kn i).1)), .bl ([Cn.own "BadPoint"].any (Cn.b (kn i).1)), .bl ([Cn.own "Impossible"].any (Cn.b (kn i).1))] : List D) = L2
  refine ⟨L1, L2, Ext.up hp2 _ _ h31, up_same, by rw [← hL1, ← hL2]; exact sl _ (by simp), fun p3 hp3 => ?_⟩
  generalize hM4 : up (up M3 p2 (.lst L2)) p3 (.lst (L1 ++ L2)) = M4
  have e4 : Ext M3 M4 := by rw [← hM4]; exact (Ext.up hp2).trans (Ext.up hp3)
  have hx4 : ∃ f w, M4 dd = some (.xd f w) := let ⟨f, w, z⟩ := hx3; ⟨f, w, e4 _ _ z⟩
  have h43 : M4 p3 = some (.lst (L1 ++ L2)) := by rw [← hM4]; exact up_same
  simp only [wOp, wLst, wCons, wNil, wXIs, wVar, gNm, List.set_cons_zero, List.set_cons_succ, List.getElem?_cons_zero, List.getElem?_cons_succ, true_and, hin, hx4, List.length_cons, List.length_nil, Nat.zero_add, Nat.reduceAdd]
  refine ⟨sl _ (by decide), fun p4 hp4 => ?_⟩
  generalize hL3 : ([.bl ([Cn.own "Broken"].any (Cn.b (kn i).1)), .bl ([Cn.own "TooMany"].any (Cn.b (kn i).1)), .bl ([Cn.own "NothingThere"].any (Cn.b (kn i).1))] : List D) = L3
  refine ⟨L1 ++ L2, L3, Ext.up hp4 _ _ h43, up_same, by rw [← hL1, ← hL2, ← hL3]; exact sl _ (by simp), fun p5 hp5 => ?_⟩
  generalize hM5 : up (up M4 p4 (.lst L3)) p5 (.lst ((L1 ++ L2) ++ L3)) = M5
  have e5 : Ext M4 M5 := by rw [← hM5]; exact (Ext.up hp4).trans (Ext.up hp5)
  have hx5 : ∃ f w, M5 dd = some (.xd f w) := let ⟨f, w, z⟩ := hx4; ⟨f, w, e5 _ _ z⟩
  have h55 : M5 p5 = some (.lst ((L1 ++ L2) ++ L3)) := by rw [← hM5]; exact up_same
  have no : ([Cn.blt "ValueError", Cn.blt "LookupError", Cn.blt "ArithmeticError"] : List Cn).any (Cn.b (kn i).1) = false := rfl
  simp only [wIfS, Fg.wTru, wRet, wOp, wLc, wRng1, wCst, wCons, wNil, wXIs, wVar, wNext, truD, List.set_cons_zero, List.set_cons_succ, List.getElem?_cons_zero, List.getElem?_cons_succ, true_and, hin, hx5, no, exists_eq_left', Option.some.injEq, Bool.false_eq_true, if_false, wipeD, clrD]
  refine ⟨10, rfl, by decide, by decide, fun p6 hp6 => ?_⟩
  refine lc_pure (f := fun d => match d with | .int k => .bl (decide (k = (i : Int))) | d => d) _ [] _ (fun d hd M1 Q1 q => ?_) up_same (by decide) fun M7 f7 h7 => ?_
  · obtain ⟨k, hk, rfl⟩ := upTo_mem hd
    simp only [wOp, wVar, dEq, List.set_cons_zero, List.set_cons_succ, List.getElem?_cons_zero, List.getElem?_cons_succ]
    exact q
  · have e7 : Ext M5 M7 := fun x o z => by
      have hne : x ≠ p6 := fun y => by rw [y, hp6] at z; cases z
      rw [f7 x hne, up_ne hne]
      exact z
    have a1 : asD M7 (.ref p5) = some (.rol ((L1 ++ L2) ++ L3)) := by
      simp only [asD, lstOf, e7 _ _ h55]
      rw [if_pos (by rw [← hL1, ← hL2, ← hL3]; rfl)]
    have a2 : asD M7 (.ref p6) = some (.rol ((Fg.upTo 0 (10 : Int).toNat).map fun d => match d with | .int k => .bl (decide (k = (i : Int))) | d => d)) := by
      simp only [asD, lstOf, h7, List.nil_append]
      rw [if_pos (by rcases ten h with rfl | rfl | rfl | rfl | rfl | rfl | rfl | rfl | rfl | rfl <;> decide +kernel)]
    have eq : eqD (.rol ((L1 ++ L2) ++ L3)) (.rol ((Fg.upTo 0 (10 : Int).toNat).map fun d => match d with | .int k => .bl (decide (k = (i : Int))) | d => d)) = true := by
      subst hL1 hL2 hL3
      rcases ten h with rfl | rfl | rfl | rfl | rfl | rfl | rfl | rfl | rfl | rfl <;> decide +kernel
    refine ⟨_, _, a1, a2, ?_, ?_⟩
    · subst hL1 hL2 hL3
      rcases ten h with rfl | rfl | rfl | rfl | rfl | rfl | rfl | rfl | rfl | rfl <;> decide +kernel
    · rw [eq]
      exact k _ ((((e2.trans e3).trans e4).trans e5).trans e7)
end FgL
namespace FgL
open PySem PySem.Spec L2 Fg
open PyProof.Rows hiding St
theorem p_given {M : MM} {p : Addr} {ns : List Int} {i : Nat} {Q : QD} {E : QX} (h : FS M p ns) (hi : i < 10) (k : ∀ v M', good 2 M' v → FS M' p ns → Q v M') : sp_given_l [.ref p, .int i] M Q E := by
  have sl : ∀ n : Nat, n ≤ 1000 → n ≤ sizeLine := fun n hn => Nat.le_trans hn (by rw [sizeLine_eq]; decide)
  have cp : ∀ j : Int, 0 ≤ j → j ≤ 1000000 → CPow 10 j := fun j h1 h2 => ⟨h1, h2, by decide⟩
  have nep : ∀ {M' : MM} {t : Addr}, FS M' p ns → M' t = none → t ≠ p := fun {M' t} hf ht z => by
    obtain ⟨q, i, a, c, mx, e, hp, _⟩ := hf
    rw [z, hp] at ht
    cases ht
  refine ⟨rfl, ?_⟩
  show w_given_l [some (.ref p), some (.int i), none] M _ _
  have rest : ∀ (z : Int) M', FS M' p ns → w_given_l_1 [some (.ref p), some (.int i), some (.int z)] M' { nx := fun _ M' => Q .non M', rt := Q } (fun x _ M' => E x M') := fun z M1 h1 => by
    simp only [w_given_l_1, wSeq, wIfS, wBl, wOp, wVar, wCst, wNext, dEq, List.getElem?_cons_zero, List.getElem?_cons_succ, decide_eq_true_eq]
    split
    · simp only [wRet, wCall, wCons, wLst, wTup, wNil, wVar, wCst, List.getElem?_cons_zero, List.getElem?_cons_succ, List.length_cons, List.length_nil, Nat.zero_add, Nat.reduceAdd]
      refine ⟨sl _ (by decide), sl _ (by decide), sl _ (by decide), fun t1 ht1 => ⟨sl _ (by decide), fun t2 ht2 => ⟨sl _ (by decide), sl _ (by decide), fun t3 ht3 => ⟨sl _ (by decide), fun t ht => ?_⟩⟩⟩⟩
      have e1 := Ext.up (o := .lst [.int z]) ht1
      have e2 := Ext.up (o := .lst []) ht2
      have e3 := Ext.up (o := .lst [.str "c", .tup [.non]]) ht3
      have g1 : (up (up (up M1 t1 (.lst [.int z])) t2 (.lst [])) t3 (.lst [.str "c", .tup [.non]])) t1 = some (.lst [.int z]) := e3 _ _ (e2 _ _ up_same)
      have g2 : (up (up (up M1 t1 (.lst [.int z])) t2 (.lst [])) t3 (.lst [.str "c", .tup [.non]])) t2 = some (.lst []) := e3 _ _ up_same
      have g3 : (up (up (up M1 t1 (.lst [.int z])) t2 (.lst [])) t3 (.lst [.str "c", .tup [.non]])) t3 = some (.lst [.str "c", .tup [.non]]) := up_same
      have hf : FS (up (up (up M1 t1 (.lst [.int z])) t2 (.lst [])) t3 (.lst [.str "c", .tup [.non]])) p ns := ((h1.ext e1).ext e2).ext e3
      generalize up (up (up M1 t1 (.lst [.int z])) t2 (.lst [])) t3 (.lst [.str "c", .tup [.non]]) = M2 at *
      have n1 := fun q => nep (h1) ht1 q
      have n2 := fun q => nep (h1.ext e1) ht2 q
      have n3 := fun q => nep ((h1.ext e1).ext e2) ht3 q
      have eT := Ext.up (o := .lst [.int z, .non, .str "a", .str "", .tup [], .tup [.int z, .str "b"], .ref t1, .ref t2, .ref t3, .bl true, .bl false]) ht
      refine p_pick (hf.ext eT) up_same (nep hf ht) (by simp) (by simp) fun d M3 hd h3 f3 => k d M3 ?_ h3
      have s1 : M3 t1 = some (.lst [.int z]) := (f3 _ n1).trans (eT _ _ g1)
      have s2 : M3 t2 = some (.lst []) := (f3 _ n2).trans (eT _ _ g2)
      have s3 : M3 t3 = some (.lst [.str "c", .tup [.non]]) := (f3 _ n3).trans (eT _ _ g3)
      simp only [List.mem_cons, List.not_mem_nil, or_false] at hd
      rcases hd with rfl | rfl | rfl | rfl | rfl | rfl | rfl | rfl | rfl | rfl | rfl
      · trivial
      · trivial
      · trivial
      · trivial
      · exact ⟨by decide, fun d hd => nomatch hd⟩
      · exact ⟨by show 2 < 1000; decide, fun d hd => by
          simp only [List.mem_cons, List.not_mem_nil, or_false] at hd
          rcases hd with rfl | rfl <;> trivial⟩
      · exact ⟨_, s1, by show 1 < 1000; decide, fun d hd => by
          simp only [List.mem_cons, List.not_mem_nil, or_false] at hd
          subst hd
          trivial⟩
      · exact ⟨_, s2, by decide, fun d hd => nomatch hd⟩
      · exact ⟨_, s3, by show 2 < 1000; decide, fun d hd => by
          simp only [List.mem_cons, List.not_mem_nil, or_false] at hd
          rcases hd with rfl | rfl
          · trivial
          · exact ⟨by show 1 < 1000; decide, fun d hd => by
              simp only [List.mem_cons, List.not_mem_nil, or_false] at hd
              subst hd
              trivial⟩⟩
      · trivial
      · trivial
    · simp only [w_given_l_2, wSeq, wIfS, wBl, wOp, wVar, wCst, wNext, dGt, dOrd, List.getElem?_cons_zero, List.getElem?_cons_succ, decide_eq_true_eq]
      split
      · simp only [wRet, wCall, wCons, wLst, wNil, wVar, wCst, List.getElem?_cons_zero, List.getElem?_cons_succ, List.length_cons, List.length_nil, Nat.zero_add, Nat.reduceAdd]
        refine ⟨sl _ (by decide), fun t ht => p_pick (h1.ext (Ext.up ht)) up_same (nep h1 ht) (by decide) (by decide) fun d M3 hd h3 f3 => k d M3 ?_ h3⟩
        simp only [List.mem_cons, List.not_mem_nil, or_false] at hd
        rcases hd with rfl | rfl | rfl | rfl | rfl | rfl | rfl | rfl <;> trivial
      · simp only [w_given_l_3, wSeq, wRet, wVar, List.getElem?_cons_zero, List.getElem?_cons_succ]
        exact k _ M1 trivial h1
  simp only [w_given_l, wSeq, wAsg, wCall, wCons, wLst, wOp, wUn, dNeg, dPow, dSub, wVar, wCst, wNil, gNm, List.set_cons_zero, List.set_cons_succ, List.getElem?_cons_zero, List.getElem?_cons_succ, List.length_cons, List.length_nil, Nat.zero_add, Nat.reduceAdd]
  refine p_draw h (by decide) fun r1 M1 _ _ h1 _ => ⟨cp _ (by decide) (by decide), p_draw h1 (by decide) fun r2 M2 _ _ h2 _ => ⟨cp _ (by decide) (by decide), p_draw h2 (by decide) fun r3 M3 _ _ h3 _ => ⟨sl _ (by decide), fun t ht => ?_⟩⟩⟩
  refine p_pick (h3.ext (Ext.up ht)) up_same (nep h3 ht) (by simp) (by simp) fun d M4 hd h4 _ => ?_
  simp only [List.mem_cons, List.not_mem_nil, or_false] at hd
  rcases hd with rfl | rfl | rfl | rfl | rfl | rfl <;> exact rest _ M4 h4
end FgL
namespace FgL
open PySem PySem.Spec L2 Fg
open PyProof.Rows hiding St
def law_b2 : WS := wSeq (wIfS (wOrB (wNotB (Fg.wTru (wCall (sp_same_l 4) (wCons (wCall sp_kept_l (wCons (wVar 2) (wCons (wVar 4) wNil))) (wCons (wTup (wCons (wVar 2) (wCons (wVar 4) wNil))) wNil))))) (wNotB (Fg.wTru (wCall sp_classes_l (wCons (wVar 2) (wCons (wVar 4) wNil)))))) (wSeq (wRet (wCst (.bl false))) wNext) wNext) wNext
def law_b1 : WS := wSeq (wAsg (wCall sp_given_l (wCons (wVar 1) (wCons (wVar 2) wNil))) (gNm 4)) law_b2
theorem p_b2 {s p : D} {i : Nat} {c3 : Option D} {v : D} {M : MM} {N : EndsD} {E : QS} (hi : i < 10) (hv : good 2 M v) (k : ∀ M', Ext M M' → N.nx [some s, some p, some (.int i), c3, some v] M') : law_b2 [some s, some p, some (.int i), c3, some v] M N E := by
  simp only [law_b2, wSeq, wIfS, wOrB, wNotB, Fg.wTru, wCall, wCons, wTup, wNil, wVar, wNext, List.getElem?_cons_zero, List.getElem?_cons_succ]
  refine p_kept hi fun M2 e2 => ⟨Nat.le_trans (by decide : 2 ≤ 1000) (by rw [sizeLine_eq]; decide), ?_⟩
  have hg : good 3 M2 (.tup [.int i, v]) := by
    refine ⟨(by decide : 2 < 1000), fun x hx => ?_⟩
    simp only [List.mem_cons, List.not_mem_nil, or_false] at hx
    rcases hx with rfl | rfl
    · trivial
    · exact hv.ext e2
  refine p_same 3 _ M2 _ _ hg fun M3 e3 => ⟨true, rfl, ?_⟩
  simp only [Bool.not_true, Bool.false_eq_true, if_false]
  refine p_classes hi fun M4 e4 => ⟨true, rfl, ?_⟩
  simp only [Bool.not_true, Bool.false_eq_true, if_false]
  exact k M4 ((e2.trans e3).trans e4)
theorem p_inner {ns : List Int} {s : D} {p : Addr} : ∀ (is : List D) (i : Nat) (c4 c3 : Option D) (M : MM) (N : EndsD) (E : QS), i < 10 → FS M p ns → (∀ c3 c4 M', FS M' p ns → N.nx [some s, some (.ref p), some (.int i), c3, c4] M') →
    loopD (fun _ => True) (gNm 3) law_b1 is [some s, some (.ref p), some (.int i), c3, c4] M N E
  | [], i, c4, c3, M, N, E, hi, hf, k => ⟨trivial, k c3 c4 M hf⟩
  | d :: is, i, c4, c3, M, N, E, hi, hf, k => by
    refine ⟨trivial, ?_⟩
    simp only [gNm, law_b1, wSeq, wAsg, wCall, wCons, wNil, wVar, List.set_cons_zero, List.set_cons_succ, List.getElem?_cons_zero, List.getElem?_cons_succ]
    exact p_given hf hi fun v M1 hv h1 => p_b2 hi hv fun M2 e2 => p_inner is i _ _ M2 N E hi (h1.ext e2) k
end FgL
namespace FgL
open PySem PySem.Spec L2 Fg
open PyProof.Rows hiding St
theorem p_outer {ns : List Int} {s : D} {p : Addr} : ∀ (is : List Nat) (c2 c3 c4 : Option D) (M : MM) (N : EndsD) (E : QS), (∀ i ∈ is, i < 10) → FS M p ns → (∀ ρ M', N.nx ρ M') →
    loopD (fun _ => True) (gNm 2) (wSeq (wFor (wRng1 (wCons (wCst (.int 2)) wNil)) (gNm 3) law_b1) wNext) (is.map fun (i : Nat) => D.int (0 + (i : Int))) [some s, some (.ref p), c2, c3, c4] M N E
  | [], c2, c3, c4, M, N, E, hi, hf, k => ⟨trivial, k _ M⟩
  | i :: is, c2, c3, c4, M, N, E, hi, hf, k => by
    refine ⟨trivial, ?_⟩
    simp only [gNm, wSeq, wFor, wRng1, wCons, wNil, wCst, wNext, List.set_cons_zero, List.set_cons_succ, List.cons.injEq, D.int.injEq, and_true, exists_eq_left', Int.zero_add]
    refine ⟨by decide, by decide, p_inner _ i c4 c3 M _ E (hi i (List.mem_cons_self ..)) hf fun c3 c4 M' hf' => ?_⟩
    have z := p_outer (s := s) is (some (.int (i : Int))) c3 c4 M' N E (fun j hj => hi j (List.mem_cons_of_mem _ hj)) hf' k
    have e : (is.map fun (i : Nat) => D.int (0 + (i : Int))) = is.map fun (i : Nat) => D.int (i : Int) := by simp
    rw [e] at z
    exact z
theorem law_ok (ns : List Int) (hn : ns.length ≤ 63) : spW ["_law_script", "_law_flow_here", "_law_kind", "_law_turn", "_law_given_here"] 1 w_law [script ns] (fun _ => none) (fun d _ => d = .bl true) noX := by
  refine ⟨rfl, ?_⟩
  show w_law [some (script ns), none, none, none, none] _ _ _
  simp only [w_law, wSeq, wAsg, wCall, wCons, wNil, wVar, gNm, List.set_cons_zero, List.set_cons_succ, List.getElem?_cons_zero]
  refine p_flow hn fun p M _ hf _ => ?_
  show wSeq (wFor (wRng1 (wCons (wCst (.int 10)) wNil)) (gNm 2) (wSeq (wFor (wRng1 (wCons (wCst (.int 2)) wNil)) (gNm 3) law_b1) wNext)) w_law_2 [some (script ns), some (.ref p), none, none, none] M _ _
  refine ⟨10, rfl, by decide, by decide, ?_⟩
  refine p_outer (List.range 10) none none none M _ _ (fun i hi => List.mem_range.mp hi) hf fun ρ M' => rfl
end FgL
namespace FgL
open PySem PySem.Spec L2 Fg
open PyProof.Rows hiding St
def loose0 : List Str := ["FigureError", "BadValue", "BadStep", "BadClaim", "BadPoint", "BadPaper", "BadLine", "Impossible", "Broken", "TooMany", "NothingThere", "_law_flow", "_law_load", "_law_draw", "_law_pick", "_law_same", "_law_raise", "_law_kept", "_law_classes", "_law_given"]
def loose : List Str := loose0
abbrev R : PySem.W.OpenRow := PySem.W.OpenLaw.row PySem.Challenge.rw_figurehold_k00_errors
def ob (s : PySem.W.SharedT) : AlF := hd.obs (HandSHeadRun.getT s)
theorem run (w : World) : HandSHeadRun.RunEq R (PySem.W.view R.prog [22]) hd.hook ob 5000 loose w := by
  intro os
  kernel_rfl
end FgL
open PySem PySem.W PySem.Calls PyProof.Rows in
theorem PySem.Challenge.cw_figurehold_k00_errors_holds : PySem.Challenge.rw_figurehold_k00_errors.Holds := by
  w_on; o_law
  refine HandSHeadRun.head_any (r := FgL.R) (q := view FgL.R.prog [22]) (H := FgL.hd.hook) (ob := FgL.ob) (M := 5000) (loose := FgL.loose) (d := HandSHeadRun.topDef FgL.R.prog 22) (kwd := []) FgL.hd.obs_eq
    (by kernel_rfl) (fun s => by kernel_rfl) FgL.run (by kernel_rfl) (by kernel_rfl) (by kernel_rfl) (by rfl) (by first | assumption | decide +kernel) (by decide +kernel) ⟨rfl, rfl, rfl, rfl, rfl, by decide +kernel⟩ ?hw ?hc
  case hw => w_witness2
  case hc =>
    exact Fg.walk_law (l := PySem.Challenge.rw_figurehold_k00_errors) (hd := FgL.hd) (k := 4) (i := 9) (j := 45) (x := "_law_script") (N := ["_law_script", "_law_flow_here", "_law_kind", "_law_turn", "_law_given_here"]) (wl := FgL.w_law) (d := FgL.d_law) rfl rfl ⟨rfl, by decide, by decide⟩ (by kernel_rfl) rfl rfl ⟨rfl, rfl⟩ rfl ⟨rfl, rfl, rfl, by decide +kernel, rfl, by decide +kernel, by decide +kernel⟩
      (fun _ _ _ _ _ _ us hl => match us, hl with | [_], _ => rfl) rfl (by decide +kernel) (fun U F => FgL.k_law F) FgL.law_ok
