import PyProof.Rows.All
import Wide.All
import OpenK.AllK
import Wide.FinOn
import HandS.ForMost
import HandS.Exc
import HandS.TryOnly
import HandS.CallSlots
import HandS.TupAny
import HandS.Conv
import HandS.Wide
import HandS.TupLe
import HandS.Star
import HandS.Walk
import HandS.Zip
import HandS.Rev
import HandS.Comp
import HandS.Style
import HandS.Defaults
import HandS.IsInst
import HandS.TupLen
import HandS.WordsDict
import PyProof.ReprRoads
import PyProof.ReprLen
import PyProof.StrLawsRepr
import KE.GoesEnum
import HandS.Iter
import HandS.Ends
import HandS.HeadEnd
import HandS.HeadHook3
import HandS.More
import KE.BitLaws
import HandS.Head0
import HandS.Head1
import HandS.Head2
import PySem.Challenge.RW_scaledcode_k73_wide_rails_of_many_wires
set_option Elab.async false
set_option linter.all false
set_option maxRecDepth 100000
set_option maxHeartbeats 4000000
/-! Ev, 1: pure data, an evaluator's heap, how they stand in the hand layer's abstract heap, readings by an evaluator. -/
namespace Ev
open PySem PySem.Spec PyProof.Rows L2
abbrev St := L2.St

/-! ### data -/
/-- pure data -/
inductive D where
  | non | bl (b : Bool) | int (i : Int) | str (s : List Nat) | tup (k : Bool) (xs : List D)
/-- values: pure data; an object of the evaluator's heap; a tuple in which such objects stand -/
inductive Val where
  | d (x : D) | r (n : Nat) | t (xs : List Val) | z (ns : List Int)
/-- the evaluator's objects -/
inductive Ob where
  | lst (xs : List Val) | dk (kvs : List (D × Val)) | dt (kvs : List (D × Val)) | ins (c : Nat) (fs : List (Nat × Val))
abbrev EH := List Ob
abbrev Env' := List (Option Val)
/-- what comes of an expression; c the class of an exception, fs its fields -/
inductive R (α : Type) where
  | ok (a : α) (h : EH) | exc (c : Nat) (fs : List D) (h : EH) | bad
def R.bind {α β : Type} (x : R α) (f : α → EH → R β) : R β := match x with
  | .ok a h => f a h
  | .exc c fs h => .exc c fs h
  | .bad => .bad
@[simp] theorem R.bind_ok {α β : Type} (a : α) (h : EH) (f : α → EH → R β) : (R.ok a h).bind f = f a h := rfl
@[simp] theorem R.bind_exc {α β : Type} (c : Nat) (fs : List D) (h : EH) (f : α → EH → R β) : (R.exc c fs h : R α).bind f = .exc c fs h := rfl
@[simp] theorem R.bind_bad {α β : Type} (f : α → EH → R β) : (R.bad : R α).bind f = .bad := rfl

/-! ### what is fixed: the written part, classes, attributes -/
structure Cg where
  /-- how many classes -/
  nc : Nat
  cls : Nat → Addr
  att : Nat → Str
  /-- an exception's class, its fields' names -/
  xcl : Nat → Value
  xfl : Nat → List Str

/-! ### data in the abstract heap -/
/-- a tuple: tracked, or of the module -/
def TupR (K : PySem.W.Frag) (H : Hp) : Bool → Addr → List V → Prop
  | true, a, vs => H a = some (.tup vs)
  | false, a, vs => SqT K H a vs
theorem TupR.sq {K : PySem.W.Frag} {H : Hp} {a : Addr} {vs : List V} : ∀ {k : Bool}, TupR K H k a vs → SqT K H a vs
  | true, h => SqT.of h
  | false, h => h
mutual
def RD (K : PySem.W.Frag) (H : Hp) : D → V → Prop
  | .non, v => v = .non
  | .bl b, v => v = .bl b
  | .int i, v => v = .int i
  | .str s, v => v = .str ⟨s.toArray⟩
  | .tup k ds, v => ∃ a vs, v = .ref a ∧ TupR K H k a vs ∧ RDs K H ds vs
def RDs (K : PySem.W.Frag) (H : Hp) : List D → List V → Prop
  | [], vs => vs = []
  | d :: ds, vs => ∃ v r, vs = v :: r ∧ RD K H d v ∧ RDs K H ds r
end
/-- a list of ints that nobody writes: the script -/
def SqZ (K : PySem.W.Frag) (H : Hp) (a : Addr) (vs : List V) : Prop :=
  (∃ o, H a = some (.frz o (.lst vs))) ∨ ∃ (o : Obj) (its : Array Value) (n : Nat), K.lookup a = some o ∧ o.cls = .type "list" ∧ o.dict = none ∧ o.data = .seq its n ∧ its.size ≤ sizeLine ∧ Vals vs its.toList
theorem SqZ.sq {K : PySem.W.Frag} {H : Hp} {a : Addr} {vs : List V} (h : SqZ K H a vs) : SqL K H a vs := by
  rcases h with h | h
  · exact .inl (.inr h)
  · exact .inr h
mutual
def RV (K : PySem.W.Frag) (ι : List Addr) (H : Hp) : Val → V → Prop
  | .d x, v => RD K H x v
  | .r n, v => ∃ a, ι[n]? = some a ∧ v = .ref a
  | .t xs, v => ∃ a vs, v = .ref a ∧ H a = some (.tup vs) ∧ RVs K ι H xs vs
  | .z ns, v => ∃ a, v = .ref a ∧ SqZ K H a (ns.map V.int)
def RVs (K : PySem.W.Frag) (ι : List Addr) (H : Hp) : List Val → List V → Prop
  | [], vs => vs = []
  | x :: xs, vs => ∃ v r, vs = v :: r ∧ RV K ι H x v ∧ RVs K ι H xs r
end

/-- what never changes stays -/
def Imm (H H' : Hp) : Prop := (∀ a xs, H a = some (.tup xs) → H' a = some (.tup xs)) ∧ ∀ a o u, H a = some (.frz o u) → H' a = some (.frz o u)
theorem Imm.refl (H : Hp) : Imm H H := ⟨fun _ _ h => h, fun _ _ _ h => h⟩
theorem Imm.trans {H H1 H2 : Hp} (a : Imm H H1) (b : Imm H1 H2) : Imm H H2 := ⟨fun c xs h => b.1 c xs (a.1 c xs h), fun c o u h => b.2 c o u (a.2 c o u h)⟩
theorem Imm.same {H H' : Hp} (s : Same H H') : Imm H H' := ⟨fun _ _ h => s _ _ h, fun _ _ _ h => s _ _ h⟩
theorem Imm.new {H : Hp} {p : Addr} {o : HO} (h : H p = none) : Imm H (upd H p o) :=
  Imm.same fun b q e => by rw [upd_ne (ne_of_none e h)]; exact e
theorem Imm.set {H : Hp} {p : Addr} {o u : HO} (h : H p = some o) (m : Mut (some o)) : Imm H (upd H p u) := by
  refine ⟨fun b xs e => ?_, fun b q w e => ?_⟩
  · rw [upd_ne]
    · exact e
    · rintro rfl
      rw [h] at e
      cases e
      exact m
  · rw [upd_ne]
    · exact e
    · rintro rfl
      rw [h] at e
      cases e
      exact m
theorem SqT.imm {K : PySem.W.Frag} {H H' : Hp} {a : Addr} {xs : List V} (i : Imm H H') (h : SqT K H a xs) : SqT K H' a xs := by
  rcases h with (h | ⟨o, h⟩) | h
  · exact .inl (.inl (i.1 _ _ h))
  · exact .inl (.inr ⟨o, i.2 _ _ _ h⟩)
  · exact .inr h
theorem TupR.imm {K : PySem.W.Frag} {H H' : Hp} (i : Imm H H') {a : Addr} {vs : List V} : ∀ {k : Bool}, TupR K H k a vs → TupR K H' k a vs
  | true, h => i.1 _ _ h
  | false, h => SqT.imm i h
mutual
theorem RD.imm {K : PySem.W.Frag} {H H' : Hp} (i : Imm H H') : ∀ {d : D} {v : V}, RD K H d v → RD K H' d v
  | .non, _, h => h
  | .bl _, _, h => h
  | .int _, _, h => h
  | .str _, _, h => h
  | .tup k ds, _, h => by
    obtain ⟨a, vs, e, s, r⟩ := h
    exact ⟨a, vs, e, s.imm i, RDs.imm i r⟩
theorem RDs.imm {K : PySem.W.Frag} {H H' : Hp} (i : Imm H H') : ∀ {ds : List D} {vs : List V}, RDs K H ds vs → RDs K H' ds vs
  | [], _, h => h
  | d :: ds, _, h => by
    obtain ⟨v, r, e, h1, h2⟩ := h
    exact ⟨v, r, e, RD.imm i h1, RDs.imm i h2⟩
end
/-- further: more objects, what never changes -/
def Ext (ι : List Addr) (H : Hp) (ι' : List Addr) (H' : Hp) : Prop := (∃ κ, ι' = ι ++ κ) ∧ Imm H H'
theorem Ext.refl (ι : List Addr) (H : Hp) : Ext ι H ι H := ⟨⟨[], by simp⟩, Imm.refl H⟩
theorem Ext.trans {ι ι1 ι2 : List Addr} {H H1 H2 : Hp} (a : Ext ι H ι1 H1) (b : Ext ι1 H1 ι2 H2) : Ext ι H ι2 H2 := by
  obtain ⟨⟨κ, rfl⟩, a⟩ := a
  obtain ⟨⟨κ', rfl⟩, b⟩ := b
  exact ⟨⟨κ ++ κ', by simp⟩, a.trans b⟩
theorem Ext.imm {ι : List Addr} {H H' : Hp} (i : Imm H H') : Ext ι H ι H' := ⟨⟨[], by simp⟩, i⟩
theorem Ext.get {ι ι' : List Addr} {H H' : Hp} (x : Ext ι H ι' H') {n : Nat} {a : Addr} (h : ι[n]? = some a) : ι'[n]? = some a := by
  obtain ⟨⟨κ, rfl⟩, _⟩ := x
  rw [List.getElem?_append_left (List.getElem?_eq_some_iff.mp h).1]
  exact h
mutual
theorem RV.ext {K : PySem.W.Frag} {ι ι' : List Addr} {H H' : Hp} (i : Ext ι H ι' H') : ∀ {x : Val} {v : V}, RV K ι H x v → RV K ι' H' x v
  | .d x, v, h => RD.imm (d := x) (v := v) i.2 h
  | .r n, _, h => by
    obtain ⟨a, e, r⟩ := h
    exact ⟨a, i.get e, r⟩
  | .t xs, _, h => by
    obtain ⟨a, vs, e, s, r⟩ := h
    exact ⟨a, vs, e, i.2.1 _ _ s, RVs.ext i r⟩
  | .z ns, _, h => by
    obtain ⟨a, e, r⟩ := h
    refine ⟨a, e, ?_⟩
    rcases r with ⟨o, r⟩ | r
    · exact .inl ⟨o, i.2.2 _ _ _ r⟩
    · exact .inr r
theorem RVs.ext {K : PySem.W.Frag} {ι ι' : List Addr} {H H' : Hp} (i : Ext ι H ι' H') : ∀ {xs : List Val} {vs : List V}, RVs K ι H xs vs → RVs K ι' H' xs vs
  | [], _, h => h
  | x :: xs, _, h => by
    obtain ⟨v, r, e, h1, h2⟩ := h
    exact ⟨v, r, e, RV.ext i h1, RVs.ext i h2⟩
end
section lists
variable {K : PySem.W.Frag} {ι : List Addr} {H : Hp}
theorem RVs.len : ∀ {xs : List Val} {vs : List V}, RVs K ι H xs vs → xs.length = vs.length
  | [], _, h => by
    have e : _ = _ := h
    subst e
    rfl
  | x :: xs, _, h => by
    obtain ⟨v, r, e, h1, h2⟩ := h
    subst e
    simp [RVs.len h2]
theorem RDs.len : ∀ {xs : List D} {vs : List V}, RDs K H xs vs → xs.length = vs.length
  | [], _, h => by
    have e : _ = _ := h
    subst e
    rfl
  | x :: xs, _, h => by
    obtain ⟨v, r, e, h1, h2⟩ := h
    subst e
    simp [RDs.len h2]
theorem RVs.get : ∀ {xs : List Val} {vs : List V} {i : Nat} {x : Val}, RVs K ι H xs vs → xs[i]? = some x → ∃ v, vs[i]? = some v ∧ RV K ι H x v
  | [], _, _, _, _, e => by simp at e
  | y :: xs, _, 0, x, h, e => by
    obtain ⟨v, r, rfl, h1, h2⟩ := h
    simp at e
    subst e
    exact ⟨v, by simp, h1⟩
  | y :: xs, _, i + 1, x, h, e => by
    obtain ⟨v, r, rfl, h1, h2⟩ := h
    obtain ⟨w, e1, e2⟩ := RVs.get (i := i) (x := x) h2 (by simpa using e)
    exact ⟨w, by simpa using e1, e2⟩
theorem RVs.append : ∀ {xs ys : List Val} {vs ws : List V}, RVs K ι H xs vs → RVs K ι H ys ws → RVs K ι H (xs ++ ys) (vs ++ ws)
  | [], _, _, _, h, k => by
    have e : _ = _ := h
    subst e
    exact k
  | x :: xs, _, _, _, h, k => by
    obtain ⟨v, r, rfl, h1, h2⟩ := h
    exact ⟨v, r ++ _, rfl, h1, RVs.append h2 k⟩
theorem RVs.one {x : Val} {v : V} (h : RV K ι H x v) : RVs K ι H [x] [v] := ⟨v, [], rfl, h, rfl⟩
theorem RVs.take : ∀ (n : Nat) {xs : List Val} {vs : List V}, RVs K ι H xs vs → RVs K ι H (xs.take n) (vs.take n)
  | 0, _, _, _ => rfl
  | n + 1, [], _, h => by
    have e : _ = _ := h
    subst e
    rfl
  | n + 1, x :: xs, _, h => by
    obtain ⟨v, r, rfl, h1, h2⟩ := h
    exact ⟨v, _, rfl, h1, RVs.take n h2⟩
theorem RVs.drop : ∀ (n : Nat) {xs : List Val} {vs : List V}, RVs K ι H xs vs → RVs K ι H (xs.drop n) (vs.drop n)
  | 0, _, _, h => h
  | n + 1, [], _, h => by
    have e : _ = _ := h
    subst e
    rfl
  | n + 1, x :: xs, _, h => by
    obtain ⟨v, r, rfl, h1, h2⟩ := h
    exact RVs.drop n h2
theorem RVs.set : ∀ (n : Nat) {xs : List Val} {vs : List V} {x : Val} {v : V}, RVs K ι H xs vs → RV K ι H x v → RVs K ι H (xs.set n x) (vs.set n v)
  | _, [], _, _, _, h, _ => by
    have e : _ = _ := h
    subst e
    rfl
  | 0, y :: xs, _, _, _, h, k => by
    obtain ⟨v, r, rfl, h1, h2⟩ := h
    exact ⟨_, _, rfl, k, h2⟩
  | n + 1, y :: xs, _, _, _, h, k => by
    obtain ⟨v, r, rfl, h1, h2⟩ := h
    exact ⟨_, _, rfl, h1, RVs.set n h2 k⟩
theorem RVs.eraseIdx : ∀ (n : Nat) {xs : List Val} {vs : List V}, RVs K ι H xs vs → RVs K ι H (xs.eraseIdx n) (vs.eraseIdx n)
  | _, [], _, h => by
    have e : _ = _ := h
    subst e
    rfl
  | 0, y :: xs, _, h => by
    obtain ⟨v, r, rfl, h1, h2⟩ := h
    exact h2
  | n + 1, y :: xs, _, h => by
    obtain ⟨v, r, rfl, h1, h2⟩ := h
    exact ⟨_, _, rfl, h1, RVs.eraseIdx n h2⟩
theorem RVs.reverse : ∀ {xs : List Val} {vs : List V}, RVs K ι H xs vs → RVs K ι H xs.reverse vs.reverse
  | [], _, h => by
    have e : _ = _ := h
    subst e
    rfl
  | x :: xs, _, h => by
    obtain ⟨v, r, rfl, h1, h2⟩ := h
    rw [List.reverse_cons, List.reverse_cons]
    exact (RVs.reverse h2).append (RVs.one h1)
theorem RVs.rep {xs : List Val} {vs : List V} (h : RVs K ι H xs vs) : ∀ k : Nat, RVs K ι H (List.replicate k xs).flatten (List.replicate k vs).flatten
  | 0 => rfl
  | k + 1 => by
    rw [List.replicate_succ, List.replicate_succ, List.flatten_cons, List.flatten_cons]
    exact h.append (RVs.rep h k)
/-- pure items -/
theorem RDs.vals : ∀ {ds : List D} {vs : List V}, RDs K H ds vs → RVs K ι H (ds.map .d) vs
  | [], _, h => h
  | d :: ds, _, h => by
    obtain ⟨v, r, e, h1, h2⟩ := h
    exact ⟨v, r, e, h1, RDs.vals h2⟩
end lists
/-- all pure -/
def pures : List Val → Option (List D)
  | [] => some []
  | .d x :: r => (pures r).map (x :: ·)
  | _ :: _ => none
theorem pures_some {K : PySem.W.Frag} {ι : List Addr} {H : Hp} : ∀ {xs : List Val} {ds : List D} {vs : List V}, pures xs = some ds → RVs K ι H xs vs → RDs K H ds vs
  | [], _, _, e, h => by
    cases e
    exact h
  | .d x :: xs, ds, vs, e, h => by
    obtain ⟨v, r, rfl, h1, h2⟩ := h
    unfold pures at e
    obtain ⟨es, e1, rfl⟩ := Option.map_eq_some_iff.mp e
    exact ⟨v, r, rfl, h1, pures_some e1 h2⟩
  | .r n :: xs, ds, vs, e, h => by cases e
  | .t n :: xs, ds, vs, e, h => by cases e
  | .z n :: xs, ds, vs, e, h => by cases e
theorem pures_map : ∀ (ds : List D), pures (ds.map .d) = some ds
  | [] => rfl
  | d :: ds => by
    show (pures (ds.map .d)).map (d :: ·) = _
    rw [pures_map ds]
    rfl
/-- a tuple of values -/
def mkT (xs : List Val) : Val := match pures xs with
  | some ds => .d (.tup true ds)
  | none => .t xs
@[simp] theorem mkT_pure (ds : List D) : mkT (ds.map .d) = .d (.tup true ds) := by
  unfold mkT
  rw [pures_map]
theorem mkT_ok {K : PySem.W.Frag} {ι : List Addr} {H : Hp} {xs : List Val} {vs : List V} {a : Addr} (h : RVs K ι H xs vs) (s : H a = some (.tup vs)) : RV K ι H (mkT xs) (.ref a) := by
  unfold mkT
  cases e : pures xs with
  | some ds => exact ⟨a, vs, rfl, s, pures_some e h⟩
  | none => exact ⟨a, vs, rfl, s, h⟩
/-- the items of a tuple -/
def asT : Val → Option (List Val)
  | .d (.tup _ ds) => some (ds.map .d)
  | .t xs => some xs
  | _ => none
theorem asT_ok {K : PySem.W.Frag} {ι : List Addr} {H : Hp} {x : Val} {xs : List Val} {v : V} (e : asT x = some xs) (h : RV K ι H x v) : ∃ a vs, v = .ref a ∧ SqT K H a vs ∧ RVs K ι H xs vs := by
  cases x with
  | d y =>
    cases y with
    | tup k ds =>
      cases e
      obtain ⟨a, vs, e, s, r⟩ := h
      exact ⟨a, vs, e, s.sq, RDs.vals r⟩
    | _ => cases e
  | r n => cases e
  | t ys =>
    cases e
    obtain ⟨a, vs, e, s, r⟩ := h
    exact ⟨a, vs, e, SqT.of s, r⟩
  | z n => cases e
/-- a tuple of the module -/
def isK : Val → Bool
  | .d (.tup false _) => true
  | _ => false
theorem asT_trk {K : PySem.W.Frag} {ι : List Addr} {H : Hp} {x : Val} {xs : List Val} {v : V} (e : asT x = some xs) (hk : isK x = false) (h : RV K ι H x v) : ∃ a vs, v = .ref a ∧ H a = some (.tup vs) ∧ RVs K ι H xs vs := by
  cases x with
  | d y =>
    cases y with
    | tup k ds =>
      cases e
      obtain ⟨a, vs, e, s, r⟩ := h
      cases k with
      | true => exact ⟨a, vs, e, s, RDs.vals r⟩
      | false => cases hk
    | _ => cases e
  | r n => cases e
  | t ys =>
    cases e
    exact h
  | z n => cases e
@[simp] theorem asT_mkT (xs : List Val) : asT (mkT xs) = some xs := by
  unfold mkT
  cases e : pures xs with
  | none => rfl
  | some ds =>
    show some (ds.map .d) = some xs
    congr 1
    induction xs generalizing ds with
    | nil => cases e; rfl
    | cons x xs ih =>
      cases x with
      | d y =>
        unfold pures at e
        obtain ⟨es, e1, rfl⟩ := Option.map_eq_some_iff.mp e
        simp [ih es e1]
      | _ => cases e

/-! ### objects -/
/-- dict keys: ints and texts; tuples of these -/
def key0 : D → Option Key
  | .int i => some (.inl i)
  | .str s => some (.inr ⟨s.toArray⟩)
  | _ => none
def keys0 : List D → Option (List Key)
  | [] => some []
  | d :: r => match key0 d, keys0 r with
    | some k, some ks => some (k :: ks)
    | _, _ => none
def keyT : D → Option (List Key)
  | .tup true ds => keys0 ds
  | _ => none
def KK (K : PySem.W.Frag) (ι : List Addr) (H : Hp) {κ : Type} (f : D → Option κ) (xs : List (D × Val)) (ys : List (κ × V)) : Prop := Paired (fun (p : D × Val) (q : κ × V) => f p.1 = some q.1 ∧ RV K ι H p.2 q.2) xs ys
def FF (K : PySem.W.Frag) (G : Cg) (ι : List Addr) (H : Hp) (xs : List (Nat × Val)) (ys : List (Str × V)) : Prop := Paired (fun (p : Nat × Val) (q : Str × V) => G.att p.1 = q.1 ∧ RV K ι H p.2 q.2) xs ys
def ObR (K : PySem.W.Frag) (G : Cg) (ι : List Addr) (H : Hp) (a : Addr) : Ob → Prop
  | .lst xs => ∃ vs, H a = some (.lst vs) ∧ RVs K ι H xs vs
  | .dk kvs => ∃ ks, H a = some (.dK ks) ∧ KK K ι H key0 kvs ks
  | .dt kvs => ∃ ks, H a = some (.dT ks) ∧ KK K ι H keyT kvs ks
  | .ins c fs => c < G.nc ∧ ∃ dx vs, H a = some (.ins (G.cls c) dx vs) ∧ FF K G ι H fs vs
/-- may be written -/
def wr : Ob → Bool
  | _ => true
/-- the evaluator's heap h stands in H, its n-th object at ι n; besides stands F -/
structure Sim (K : PySem.W.Frag) (G : Cg) (F : Hp) (ι : List Addr) (h : EH) (H : Hp) : Prop where
  len : ι.length = h.length
  ob : ∀ (n : Nat) o a, h[n]? = some o → ι[n]? = some a → ObR K G ι H a o
  nd : ι.Nodup
  fr : ∀ a o, F a = some o → H a = some o
  out : ∀ a ∈ ι, F a = none
theorem KK.ext {K : PySem.W.Frag} {ι ι' : List Addr} {H H' : Hp} {κ : Type} {f : D → Option κ} {xs : List (D × Val)} {ys : List (κ × V)} (x : Ext ι H ι' H') (h : KK K ι H f xs ys) : KK K ι' H' f xs ys :=
  Paired.mapP h fun _ _ q => ⟨q.1, q.2.ext x⟩
theorem FF.ext {K : PySem.W.Frag} {G : Cg} {ι ι' : List Addr} {H H' : Hp} {xs : List (Nat × Val)} {ys : List (Str × V)} (x : Ext ι H ι' H') (h : FF K G ι H xs ys) : FF K G ι' H' xs ys :=
  Paired.mapP h fun _ _ q => ⟨q.1, q.2.ext x⟩
theorem ObR.ext {K : PySem.W.Frag} {G : Cg} {ι ι' : List Addr} {H H' : Hp} {a : Addr} {o : Ob} (x : Ext ι H ι' H') (e : H' a = H a) (h : ObR K G ι H a o) : ObR K G ι' H' a o := by
  cases o with
  | lst xs =>
    obtain ⟨vs, h1, h2⟩ := h
    exact ⟨vs, e.trans h1, h2.ext x⟩
  | dk kvs =>
    obtain ⟨ks, h1, h2⟩ := h
    exact ⟨ks, e.trans h1, h2.ext x⟩
  | dt kvs =>
    obtain ⟨ks, h1, h2⟩ := h
    exact ⟨ks, e.trans h1, h2.ext x⟩
  | ins c fs =>
    obtain ⟨hc, dx, vs, h1, h2⟩ := h
    exact ⟨hc, dx, vs, e.trans h1, h2.ext x⟩
theorem ObR.some {K : PySem.W.Frag} {G : Cg} {ι : List Addr} {H : Hp} {a : Addr} {o : Ob} (h : ObR K G ι H a o) : ∃ q, H a = some q ∧ (wr o = true → Mut (some q)) ∧ (wr o = false → ∃ ob u, q = .frz ob u) := by
  cases o with
  | lst xs =>
    obtain ⟨vs, h1, _⟩ := h
    exact ⟨_, h1, fun _ => trivial, (fun z => nomatch z)⟩
  | dk kvs =>
    obtain ⟨ks, h1, _⟩ := h
    exact ⟨_, h1, fun _ => trivial, (fun z => nomatch z)⟩
  | dt kvs =>
    obtain ⟨ks, h1, _⟩ := h
    exact ⟨_, h1, fun _ => trivial, (fun z => nomatch z)⟩
  | ins c fs =>
    obtain ⟨_, dx, vs, h1, _⟩ := h
    exact ⟨_, h1, fun _ => trivial, (fun z => nomatch z)⟩
section
variable {K : PySem.W.Frag} {G : Cg} {F : Hp} {ι : List Addr} {h : EH} {H : Hp}
theorem Sim.at_ (s : Sim K G F ι h H) {n : Nat} {o : Ob} (e : h[n]? = some o) : ∃ a, ι[n]? = some a ∧ ObR K G ι H a o := by
  have hn : n < ι.length := by rw [s.len]; exact (List.getElem?_eq_some_iff.mp e).1
  exact ⟨ι[n], List.getElem?_eq_getElem hn, s.ob n o _ e (List.getElem?_eq_getElem hn)⟩
theorem Sim.atA (s : Sim K G F ι h H) {n : Nat} {o : Ob} {a : Addr} (e : h[n]? = some o) (ea : ι[n]? = some a) : ObR K G ι H a o := s.ob n o a e ea
theorem Sim.mem (s : Sim K G F ι h H) {a : Addr} (e : a ∈ ι) : ∃ q, H a = some q := by
  obtain ⟨n, hn, e⟩ := List.mem_iff_getElem.mp e
  have e' : ι[n]? = some a := by rw [List.getElem?_eq_getElem hn, e]
  have hh : n < h.length := by rw [← s.len]; exact hn
  exact (s.ob n _ a (List.getElem?_eq_getElem hh) e').some.imp fun _ q => q.1
theorem Sim.memW (s : Sim K G F ι h H) {a : Addr} {n : Nat} {o : Ob} (ea : ι[n]? = some a) (eo : h[n]? = some o) (w : wr o = true) : ∃ q, H a = some q ∧ Mut (some q) := by
  obtain ⟨q, h1, h2, _⟩ := (s.ob n o a eo ea).some
  exact ⟨q, h1, h2 w⟩
/-- an untracked address becomes anything -/
theorem Sim.junk (s : Sim K G F ι h H) {p : Addr} {o : HO} (hp : H p = none) : Sim K G F ι h (upd H p o) where
  len := s.len
  ob := fun n q a e ea => by
    have q1 := s.ob n q a e ea
    have ne : a ≠ p := by
      rintro rfl
      obtain ⟨_, z, _⟩ := q1.some
      rw [hp] at z
      cases z
    exact q1.ext (Ext.imm (Imm.new hp)) (upd_ne ne)
  nd := s.nd
  fr := fun a q e => by
    have z := s.fr a q e
    rw [upd_ne (ne_of_none z hp)]
    exact z
  out := s.out
theorem Sim.newA (s : Sim K G F ι h H) {p : Addr} (hp : H p = none) : p ∉ ι ∧ F p = none := by
  refine ⟨fun m => ?_, ?_⟩
  · obtain ⟨q, z⟩ := s.mem m
    rw [hp] at z
    cases z
  · cases e : F p with
    | none => rfl
    | some q =>
      rw [s.fr _ _ e] at hp
      cases hp
/-- a new object -/
theorem Sim.add (s : Sim K G F ι h H) {p : Addr} {o : HO} {b : Ob} (hp : H p = none) (hb : ObR K G (ι ++ [p]) (upd H p o) p b) : Sim K G F (ι ++ [p]) (h ++ [b]) (upd H p o) where
  len := by simp [s.len]
  ob := fun n q a e ea => by
    have x : Ext ι H (ι ++ [p]) (upd H p o) := ⟨⟨[p], rfl⟩, Imm.new hp⟩
    by_cases hn : n < h.length
    · rw [List.getElem?_append_left hn] at e
      rw [List.getElem?_append_left (by rw [s.len]; exact hn)] at ea
      have q1 := s.ob n q a e ea
      have ne : a ≠ p := by
        rintro rfl
        obtain ⟨_, z, _⟩ := q1.some
        rw [hp] at z
        cases z
      exact q1.ext x (upd_ne ne)
    · have hl : n = h.length := by
        have z := (List.getElem?_eq_some_iff.mp e).1
        rw [List.length_append, List.length_singleton] at z
        omega
      subst hl
      rw [List.getElem?_append_right (Nat.le_refl _)] at e
      rw [List.getElem?_append_right (by rw [s.len]; exact Nat.le_refl _)] at ea
      simp at e
      rw [s.len] at ea
      simp at ea
      subst e ea
      exact hb
  nd := by
    rw [List.nodup_append]
    refine ⟨s.nd, by simp, fun a ha b hb' => ?_⟩
    simp at hb'
    subst hb'
    rintro rfl
    exact (s.newA hp).1 ha
  fr := fun a q e => by
    have z := s.fr a q e
    rw [upd_ne (ne_of_none z hp)]
    exact z
  out := fun a m => by
    rcases List.mem_append.mp m with m | m
    · exact s.out a m
    · simp at m
      subst m
      exact (s.newA hp).2
theorem Ext.new {p : Addr} {o : HO} (hp : H p = none) : Ext ι H (ι ++ [p]) (upd H p o) := ⟨⟨[p], rfl⟩, Imm.new hp⟩
theorem getNew {p : Addr} : (ι ++ [p])[ι.length]? = some p := by simp
/-- an object changes -/
theorem Sim.set (s : Sim K G F ι h H) {n : Nat} {p : Addr} {o : HO} {b b0 : Ob} (hn0 : h[n]? = some b0) (w : wr b0 = true) (hp : ι[n]? = some p) (hb : ObR K G ι (upd H p o) p b) : Sim K G F ι (h.set n b) (upd H p o) := by
  have hpm : p ∈ ι := List.mem_of_getElem? hp
  have hn : n < h.length := (List.getElem?_eq_some_iff.mp hn0).1
  obtain ⟨q0, hq0, m0⟩ := s.memW hp hn0 w
  refine ⟨by simp [s.len], fun m q a e ea => ?_, s.nd, fun a q e => ?_, s.out⟩
  · by_cases hm : m = n
    · subst hm
      rw [List.getElem?_set_self hn] at e
      cases e
      rw [hp] at ea
      cases ea
      exact hb
    · rw [List.getElem?_set_ne (Ne.symm hm)] at e
      have ne : a ≠ p := by
        rintro rfl
        exact hm (nodup_at s.nd ea hp)
      exact (s.ob m q a e ea).ext (Ext.imm (Imm.set hq0 m0)) (upd_ne ne)
  · have z := s.fr a q e
    rw [upd_ne]
    · exact z
    · rintro rfl
      rw [s.out _ hpm] at e
      cases e
where
  nodup_at {l : List Addr} (hN : l.Nodup) {i j : Nat} {x : Addr} (a : l[i]? = some x) (b : l[j]? = some x) : i = j := by
    obtain ⟨h1, e1⟩ := List.getElem?_eq_some_iff.mp a
    obtain ⟨h2, e2⟩ := List.getElem?_eq_some_iff.mp b
    exact (List.getElem_inj hN).mp (e1.trans e2.symm)
theorem Sim.immSet (s : Sim K G F ι h H) {n : Nat} {p : Addr} {o : HO} {b0 : Ob} (hn0 : h[n]? = some b0) (w : wr b0 = true) (hp : ι[n]? = some p) : Imm H (upd H p o) := by
  obtain ⟨q0, hq0, m0⟩ := s.memW hp hn0 w
  exact Imm.set hq0 m0
/-- for a callee that is handed pure data alone: all that stands is besides -/
theorem Sim.zero (H : Hp) : Sim K G H [] [] H := ⟨rfl, fun n o a e _ => by simp at e, List.nodup_nil, fun _ _ e => e, fun _ m => by cases m⟩
/-- behind such a callee -/
theorem Sim.same {H' : Hp} (s : Sim K G F ι h H) (e : Same H H') : Sim K G F ι h H' where
  len := s.len
  ob := fun n q a e1 ea => by
    have q1 := s.ob n q a e1 ea
    obtain ⟨z, hz, _⟩ := q1.some
    exact q1.ext (Ext.imm (Imm.same e)) (by rw [e _ _ hz, hz])
  nd := s.nd
  fr := fun a q z => e _ _ (s.fr a q z)
  out := s.out
end

/-! ### slots -/
def EnvR (K : PySem.W.Frag) (ι : List Addr) (H : Hp) (env : Env') (σ : St) : Prop :=
  env.length = σ.length ∧ ∀ (i : Nat) x, env[i]? = some (some x) → ∃ v, σ[i]? = some (some v) ∧ RV K ι H x v
theorem EnvR.ext {K : PySem.W.Frag} {ι ι' : List Addr} {H H' : Hp} {env : Env'} {σ : St} (x : Ext ι H ι' H') (h : EnvR K ι H env σ) : EnvR K ι' H' env σ :=
  ⟨h.1, fun i y e => let ⟨v, e1, r⟩ := h.2 i y e; ⟨v, e1, r.ext x⟩⟩
theorem EnvR.set {K : PySem.W.Frag} {ι : List Addr} {H : Hp} {env : Env'} {σ : St} {x : Val} {v : V} (h : EnvR K ι H env σ) (i : Nat) (r : RV K ι H x v) : EnvR K ι H (env.set i (some x)) (σ.set i (some v)) := by
  refine ⟨by simp [h.1], fun j y e => ?_⟩
  by_cases hj : j = i
  · subst hj
    have hlt : j < env.length := by
      have z := (List.getElem?_eq_some_iff.mp e).1
      simpa using z
    rw [List.getElem?_set_self hlt] at e
    cases e
    exact ⟨v, List.getElem?_set_self (by rw [← h.1]; exact hlt), r⟩
  · rw [List.getElem?_set_ne (Ne.symm hj)] at e
    obtain ⟨w, e1, r1⟩ := h.2 j y e
    exact ⟨w, by rw [List.getElem?_set_ne (Ne.symm hj)]; exact e1, r1⟩

/-! ### exceptions -/
/-- an exception of the class c with the fields fs: a class of no fields has no dict -/
def XR (K : PySem.W.Frag) (G : Cg) (H : Hp) (c : Nat) (fs : List D) (cv : Value) (d : Option Addr) : Prop :=
  cv = G.xcl c ∧ ((G.xfl c = [] ∧ fs = [] ∧ d = none) ∨
    ∃ dx vs, d = some dx ∧ RDs K H fs vs ∧ fs.length = (G.xfl c).length ∧ H dx = some (.xd ((G.xfl c).zip vs)))

/-! ### readings -/
/-- what is wanted behind a piece that comes out as r; rel: how what comes stands in the layer -/
def PostG {α β : Type} (rel : List Addr → Hp → α → β → Prop) (K : PySem.W.Frag) (G : Cg) (F : Hp) (W : WX) (σ : St) (Q : β → Hp → Prop) (ι : List Addr) (H : Hp) : R α → Prop
  | .ok x h' => ∀ ι' H' v, Ext ι H ι' H' → Sim K G F ι' h' H' → rel ι' H' x v → Q v H'
  | .exc c fs h' => ∀ ι' H' cv d, Ext ι H ι' H' → Sim K G F ι' h' H' → XR K G H' c fs cv d → W cv d σ H'
  | .bad => False
section
variable {α β γ δ : Type} {rel : List Addr → Hp → α → β → Prop} {rel' : List Addr → Hp → γ → δ → Prop} {K : PySem.W.Frag} {G : Cg} {F : Hp} {W : WX} {σ : St} {ι ι' : List Addr} {H H' : Hp}
theorem PostG.ext {Q : β → Hp → Prop} (x : Ext ι H ι' H') : ∀ {r : R α}, PostG rel K G F W σ Q ι H r → PostG rel K G F W σ Q ι' H' r
  | .ok y h', p => fun ι2 H2 v e s r => p ι2 H2 v (x.trans e) s r
  | .exc c fs h', p => fun ι2 H2 cv d e s r => p ι2 H2 cv d (x.trans e) s r
  | .bad, p => p
/-- one piece, then another -/
theorem PostG.bind {Q : δ → Hp → Prop} {f : α → EH → R γ} : ∀ {r : R α}, PostG rel' K G F W σ Q ι H (r.bind f) →
    PostG rel K G F W σ (fun v H1 => ∃ ι1 h1 x, Ext ι H ι1 H1 ∧ Sim K G F ι1 h1 H1 ∧ rel ι1 H1 x v ∧ PostG rel' K G F W σ Q ι1 H1 (f x h1)) ι H r
  | .ok y h', p => fun ι1 H1 v e s r => ⟨ι1, h', y, e, s, r, PostG.ext e p⟩
  | .exc c fs h', p => p
  | .bad, p => p
end
abbrev PostE (K : PySem.W.Frag) (G : Cg) (F : Hp) (W : WX) (σ : St) (Q : VK) (ι : List Addr) (H : Hp) : R Val → Prop := PostG (RV K) K G F W σ Q ι H
/-- a reading by an evaluator's piece m -/
def rdG {α β : Type} (rel : List Addr → Hp → α → β → Prop) (K : PySem.W.Frag) (G : Cg) (W : WX) (m : Env' → EH → R α) : St → Hp → (β → Hp → Prop) → Prop :=
  fun σ H Q => ∃ F ι env h, EnvR K ι H env σ ∧ Sim K G F ι h H ∧ PostG rel K G F W σ Q ι H (m env h)
abbrev rdE (K : PySem.W.Frag) (G : Cg) (W : WX) (m : Env' → EH → R Val) : TE := rdG (RV K) K G W m
/-- tests -/
abbrev RB : List Addr → Hp → Bool → Bool → Prop := fun _ _ b c => c = b
abbrev rdT (K : PySem.W.Frag) (G : Cg) (W : WX) (m : Env' → EH → R Bool) : TT := rdG RB K G W m
/-- argument lists -/
abbrev rdA (K : PySem.W.Frag) (G : Cg) (W : WX) (m : Env' → EH → R (List Val)) : TA := rdG (RVs K) K G W m
end Ev

set_option Elab.async false
set_option linter.all false
set_option maxRecDepth 100000
set_option maxHeartbeats 4000000
/-! Ev, 2: operators and comparisons by values. -/
namespace Ev
open PySem PySem.Spec PyProof.Rows L2

/-! ### helpers -/
def fits (n : Nat) : Bool := Nat.ble n 16777216
theorem fits_le {n : Nat} (h : fits n = true) : n ≤ sizeLine := by
  rw [sizeLine_eq]
  exact Nat.le_of_ble_eq_true h
def fitsL (n : Nat) : Bool := Nat.ble (n + 1) 16777216
theorem fitsL_lt {n : Nat} (h : fitsL n = true) : n < sizeLine := by
  rw [sizeLine_eq]
  exact Nat.le_of_ble_eq_true h
/-- a new list -/
def newL (xs : List Val) (h : EH) : R Val := if fits xs.length = true then .ok (.r h.length) (h ++ [.lst xs]) else .bad
/-- a tuple -/
def newT (xs : List Val) (h : EH) : R Val := if fits xs.length = true then .ok (mkT xs) h else .bad
/-- the items of a list -/
def getL (x : Val) (h : EH) : Option (List Val) := match x with
  | .r n => match h[n]? with
    | some (.lst xs) => some xs
    | _ => none
  | _ => none
/-- .. of a list that may not be written -/
def getZ (x : Val) (h : EH) : Option (List Val) := match x with
  | .z ns => some (ns.map fun i => .d (.int i))
  | _ => none
/-- .. of a list or a tuple -/
def getS (x : Val) (h : EH) : Option (List Val) := match asT x with
  | some xs => some xs
  | none => match getL x h with
    | some xs => some xs
    | none => getZ x h
section
variable {K : PySem.W.Frag} {G : Cg} {F : Hp} {W : WX} {σ : St} {Q : VK} {ι : List Addr} {H : Hp} {h : EH} {x : Val} {v : V} {xs : List Val} {vs : List V}
theorem getL_ok (e : getL x h = some xs) (sm : Sim K G F ι h H) (r : RV K ι H x v) : ∃ a n vs, x = .r n ∧ h[n]? = some (.lst xs) ∧ ι[n]? = some a ∧ v = .ref a ∧ H a = some (.lst vs) ∧ RVs K ι H xs vs := by
  cases x with
  | r n =>
    have e1 : (match h[n]? with
      | some (.lst xs) => some xs
      | _ => none) = some xs := e
    cases q : h[n]? with
    | none =>
      rw [q] at e1
      cases e1
    | some o =>
      rw [q] at e1
      cases o with
      | lst ys =>
        cases e1
        obtain ⟨a, ha, rfl⟩ := r
        obtain ⟨vs, h1, h2⟩ := sm.atA q ha
        exact ⟨a, n, vs, rfl, q, ha, rfl, h1, h2⟩
      | _ => cases e1
  | _ => cases e
theorem intsRV {K : PySem.W.Frag} {ι : List Addr} {H : Hp} : ∀ ns : List Int, RVs K ι H (ns.map fun i => .d (.int i)) (ns.map V.int)
  | [] => rfl
  | n :: ns => ⟨_, _, rfl, rfl, intsRV ns⟩
theorem getZ_ok (e : getZ x h = some xs) (sm : Sim K G F ι h H) (r : RV K ι H x v) : ∃ a vs, v = .ref a ∧ SqL K H a vs ∧ RVs K ι H xs vs := by
  cases x with
  | z ns =>
    cases e
    obtain ⟨a, rfl, h1⟩ := r
    exact ⟨a, _, rfl, h1.sq, intsRV ns⟩
  | _ => cases e
theorem getS_ok (e : getS x h = some xs) (sm : Sim K G F ι h H) (r : RV K ι H x v) : ∃ a vs, v = .ref a ∧ (SqL K H a vs ∨ SqT K H a vs) ∧ RVs K ι H xs vs := by
  unfold getS at e
  cases q : asT x with
  | some ys =>
    rw [q] at e
    cases e
    obtain ⟨a, vs, e1, e2, e3⟩ := asT_ok q r
    exact ⟨a, vs, e1, .inr e2, e3⟩
  | none =>
    rw [q] at e
    cases q2 : getL x h with
    | some ys =>
      simp only [q2] at e
      cases e
      obtain ⟨a, n, vs, _, _, _, e1, e2, e3⟩ := getL_ok q2 sm r
      exact ⟨a, vs, e1, .inl (SqL.of e2), e3⟩
    | none =>
      simp only [q2] at e
      obtain ⟨a, vs, e1, e2, e3⟩ := getZ_ok e sm r
      exact ⟨a, vs, e1, .inl e2, e3⟩
theorem PostG.val {α β : Type} {rel : List Addr → Hp → α → β → Prop} {Q : β → Hp → Prop} {x : α} {v : β} (p : PostG rel K G F W σ Q ι H (.ok x h)) (sm : Sim K G F ι h H) (r : rel ι H x v) : Q v H := p ι H v (Ext.refl _ _) sm r
theorem PostE.newL (p : PostE K G F W σ Q ι H (newL xs h)) (sm : Sim K G F ι h H) (r : RVs K ι H xs vs) : vs.length ≤ sizeLine ∧ ∀ q, H q = none → Q (.ref q) (upd H q (.lst vs)) := by
  unfold Ev.newL at p
  cases e : fits xs.length with
  | false =>
    rw [e] at p
    exact (p : False).elim
  | true =>
    rw [e] at p
    refine ⟨by rw [← r.len]; exact fits_le e, fun q hq => ?_⟩
    refine p (ι ++ [q]) _ (.ref q) (Ext.new hq) (sm.add hq ⟨vs, upd_same, r.ext (Ext.new hq)⟩) ⟨q, ?_, rfl⟩
    rw [← sm.len]
    exact getNew
theorem PostE.newT (p : PostE K G F W σ Q ι H (newT xs h)) (sm : Sim K G F ι h H) (r : RVs K ι H xs vs) :
    vs.length ≤ sizeLine ∧ (∀ q, H q = none → Q (.ref q) (upd H q (.tup vs))) ∧ ∀ a, H a = some (.tup vs) → Q (.ref a) H := by
  unfold Ev.newT at p
  cases e : fits xs.length with
  | false =>
    rw [e] at p
    exact (p : False).elim
  | true =>
    rw [e] at p
    refine ⟨by rw [← r.len]; exact fits_le e, fun q hq => ?_, fun a ha => p.val sm (mkT_ok r ha)⟩
    have x : Ext ι H ι (upd H q (.tup vs)) := Ext.imm (Imm.new hq)
    exact p ι _ (.ref q) x (sm.junk hq) (mkT_ok (r.ext x) upd_same)
end

/-! ### operators, by values -/
section
variable (X : Cx) (G : Cg) (W : WX)
/-- f is what op says -/
def Op2 (f : Value → Value → Sem Value) (op : Val → Val → EH → R Val) : Prop :=
  ∀ {pins : List (Addr × Obj)} {s : Shared} {σ : St} {H F : Hp} {ι : List Addr} {h : EH} {x y : Val} {vx vy : V} {ux uy : Value} {Q : VK}, Inv X pins σ H s → Sim X.K G F ι h H → RV X.K ι H x vx → RV X.K ι H y vy → RelV vx ux → RelV vy uy →
    PostE X.K G F W σ Q ι H (op x y h) → wpAny (model X.prog X.w) X.A (f ux uy) (EP X pins σ Q) X.xe s
def Op1 (f : Value → Sem Value) (op : Val → EH → R Val) : Prop :=
  ∀ {pins : List (Addr × Obj)} {s : Shared} {σ : St} {H F : Hp} {ι : List Addr} {h : EH} {x : Val} {vx : V} {ux : Value} {Q : VK}, Inv X pins σ H s → Sim X.K G F ι h H → RV X.K ι H x vx → RelV vx ux →
    PostE X.K G F W σ Q ι H (op x h) → wpAny (model X.prog X.w) X.A (f ux) (EP X pins σ Q) X.xe s
end
def mulOk (i j : Int) : Bool := Nat.blt i.natAbs 18446744073709551616 || (Nat.blt j.natAbs 18446744073709551616 || Nat.blt (i.natAbs.log2 + j.natAbs.log2) 1000000)
theorem mulOk_ok {i j : Int} (h : mulOk i j = true) : CMul i j ∨ CMulW i j := by
  unfold mulOk at h
  rcases Bool.or_eq_true_iff.mp h with h | h
  · have z : i.natAbs < 18446744073709551616 := Nat.le_of_ble_eq_true h
    left
    left
    omega
  · rcases Bool.or_eq_true_iff.mp h with h | h
    · have z : j.natAbs < 18446744073709551616 := Nat.le_of_ble_eq_true h
      left
      right
      omega
    · exact .inr (Nat.le_of_ble_eq_true h)
def opAdd : Val → Val → EH → R Val
  | .d (.int i), .d (.int j), h => .ok (.d (.int (i + j))) h
  | .d (.str s), .d (.str t), h => if fits (s.length + t.length) = true then .ok (.d (.str (s ++ t))) h else .bad
  | x, y, h => match asT x, asT y with
    | some xs, some ys => if (isK y && xs.isEmpty) = true then .ok y h else if (isK x && (ys.isEmpty && !xs.isEmpty)) = true then .ok x h else newT (xs ++ ys) h
    | _, _ => match getL x h, getL y h with
      | some xs, some ys => newL (xs ++ ys) h
      | _, _ => .bad
def opSub : Val → Val → EH → R Val
  | .d (.int i), .d (.int j), h => .ok (.d (.int (i - j))) h
  | _, _, _ => .bad
def opMul : Val → Val → EH → R Val
  | .d (.int i), .d (.int j), h => if mulOk i j = true then .ok (.d (.int (i * j))) h else .bad
  | x, .d (.int k), h => match getL x h with
    | some xs => if Nat.ble k.toNat 16777216 = true ∧ 0 ≤ k then newL (List.replicate k.toNat xs).flatten h else .bad
    | none => .bad
  | _, _, _ => .bad
def opFdiv : Val → Val → EH → R Val
  | .d (.int i), .d (.int j), h => if 0 < j ∧ (j < 1073741824 ∨ j.natAbs.log2 < 9000) then .ok (.d (.int (i / j))) h else .bad
  | _, _, _ => .bad
def opMod : Val → Val → EH → R Val
  | .d (.int i), .d (.int j), h => if 0 < j then .ok (.d (.int (i % j))) h else .bad
  | _, _, _ => .bad
def opPow : Val → Val → EH → R Val
  | .d (.int i), .d (.int j), h => if 0 ≤ j ∧ j ≤ 1000000 ∧ i.natAbs < 18446744073709551616 then .ok (.d (.int (i ^ j.toNat))) h else .bad
  | _, _, _ => .bad
def opShl : Val → Val → EH → R Val
  | .d (.int i), .d (.int j), h => if 0 ≤ j ∧ j ≤ 1000000 ∧ i.natAbs < 18446744073709551616 then .ok (.d (.int (i * 2 ^ j.toNat))) h else .bad
  | _, _, _ => .bad
def opShr : Val → Val → EH → R Val
  | .d (.int i), .d (.int j), h => if 0 ≤ j then .ok (.d (.int (i / 2 ^ j.toNat))) h else .bad
  | _, _, _ => .bad
def opAnd : Val → Val → EH → R Val
  | .d (.int i), .d (.int j), h => .ok (.d (.int (Builtin.bitAnd i j))) h
  | _, _, _ => .bad
def opOr : Val → Val → EH → R Val
  | .d (.int i), .d (.int j), h => .ok (.d (.int (Builtin.bitOr i j))) h
  | _, _, _ => .bad
def opXor : Val → Val → EH → R Val
  | .d (.int i), .d (.int j), h => .ok (.d (.int (Builtin.bitXor i j))) h
  | _, _, _ => .bad
def opNeg : Val → EH → R Val
  | .d (.int i), h => .ok (.d (.int (-i))) h
  | _, _ => .bad
section
variable {X : Cx} {G : Cg} {W : WX}
theorem str_len (s : List Nat) : (⟨s.toArray⟩ : Str).length = s.length := by simp [Str.length]
theorem str_app (s t : List Nat) : (⟨s.toArray⟩ : Str) ++ ⟨t.toArray⟩ = ⟨(s ++ t).toArray⟩ := by
  apply TL.ext_tl
  rw [TL.tl_append]
theorem vi (i : Int) (K : PySem.W.Frag) (ι : List Addr) (H : Hp) : RV K ι H (.d (.int i)) (.int i) := rfl
theorem op2_add : Op2 X G W (binaryOp .Add) opAdd := by
  intro pins s σ H F ι h x y vx vy ux uy Q I sm rx ry ex ey p
  have rest : ∀ q : R Val, (match asT x, asT y with
      | some xs, some ys => if (isK y && xs.isEmpty) = true then .ok y h else if (isK x && (ys.isEmpty && !xs.isEmpty)) = true then .ok x h else newT (xs ++ ys) h
      | _, _ => match getL x h, getL y h with
        | some xs, some ys => newL (xs ++ ys) h
        | _, _ => .bad) = q → PostE X.K G F W σ Q ι H q → wpAny (model X.prog X.w) X.A (binaryOp .Add ux uy) (EP X pins σ Q) X.xe s := by
    clear p
    intro q hq p
    subst hq
    cases e1 : asT x with
    | some xs =>
      cases e2 : asT y with
      | some ys =>
        rw [e1, e2] at p
        have pp : PostE X.K G F W σ Q ι H (if (isK y && xs.isEmpty) = true then .ok y h else if (isK x && (ys.isEmpty && !xs.isEmpty)) = true then .ok x h else newT (xs ++ ys) h) := p
        obtain ⟨a, vs, rfl, sa, ra⟩ := asT_ok e1 rx
        obtain ⟨b, ws, rfl, sb, rb⟩ := asT_ok e2 ry
        by_cases c1 : (isK y && xs.isEmpty) = true
        · rw [if_pos c1] at pp
          have hx : xs = [] := List.isEmpty_iff.mp (Bool.and_eq_true_iff.mp c1).2
          subst hx
          cases ra
          obtain ⟨_, _, _, hz⟩ := I.tuple sb
          exact op_catA pins s σ H _ _ _ _ Q I ex ey ⟨a, b, [], ws, rfl, rfl, sa, sb, by simpa using hz, fun _ => pp.val sm ry, (fun z => absurd rfl z), fun z => absurd rfl z⟩
        · rw [if_neg c1] at pp
          by_cases c2 : (isK x && (ys.isEmpty && !xs.isEmpty)) = true
          · rw [if_pos c2] at pp
            obtain ⟨c3, c4⟩ := Bool.and_eq_true_iff.mp (Bool.and_eq_true_iff.mp c2).2
            have hy : ys = [] := List.isEmpty_iff.mp c3
            subst hy
            cases rb
            have hx : vs ≠ [] := fun z => by
              subst z
              have l := ra.len
              cases xs with
              | nil => simp at c4
              | cons y ys => simp at l
            obtain ⟨_, _, _, hz⟩ := I.tuple sa
            exact op_catA pins s σ H _ _ _ _ Q I ex ey ⟨a, b, vs, [], rfl, rfl, sa, sb, by simpa using hz, (fun z => absurd z hx), fun _ _ => pp.val sm rx, fun _ z => absurd rfl z⟩
          · rw [if_neg c2] at pp
            obtain ⟨z, q1, q2⟩ := PostE.newT pp sm (ra.append rb)
            rw [List.length_append] at z
            refine op_catA pins s σ H _ _ _ _ Q I ex ey ⟨a, b, vs, ws, rfl, rfl, sa, sb, z, fun e => ?_, fun ne e => ?_, fun _ _ => q1⟩
            · subst e
              have hx : xs = [] := by
                have l := ra.len
                cases xs with
                | nil => rfl
                | cons x xs => simp at l
              subst hx
              have hk : isK y = false := by
                cases k : isK y with
                | false => rfl
                | true => rw [k] at c1; exact absurd rfl c1
              obtain ⟨b', ws', eb, tb, rb'⟩ := asT_trk e2 hk ry
              cases eb
              obtain rfl : ws = ws' := by
                have q := I.tuple_inj sb (SqT.of tb)
                exact q
              exact q2 b tb
            · subst e
              have hy : ys = [] := by
                have l := rb.len
                cases ys with
                | nil => rfl
                | cons x xs => simp at l
              subst hy
              have hk : isK x = false := by
                cases k : isK x with
                | false => rfl
                | true =>
                  rw [k] at c2
                  have hx : xs.isEmpty = false := by
                    cases xs with
                    | nil => cases ra; exact absurd rfl ne
                    | cons y ys => rfl
                  rw [hx] at c2
                  exact absurd rfl c2
              obtain ⟨a', vs', ea, ta, ra'⟩ := asT_trk e1 hk rx
              cases ea
              obtain rfl : vs = vs' := I.tuple_inj sa (SqT.of ta)
              rw [List.append_nil] at q2
              exact q2 a ta
      | none =>
        rw [e1, e2] at p
        cases e3 : getL x h with
        | none =>
          simp only [e3] at p
          exact p.elim
        | some xs =>
          obtain ⟨_, n, _, rfl, _⟩ := getL_ok e3 sm rx
          cases e1
    | none =>
      cases e3 : getL x h with
      | none =>
        simp only [e1, e3] at p
        exact p.elim
      | some xs =>
        cases e4 : getL y h with
        | none =>
          simp only [e1, e3, e4] at p
          exact p.elim
        | some ys =>
          simp only [e1, e3, e4] at p
          obtain ⟨a, n, vs, rfl, _, _, rfl, ha, ra⟩ := getL_ok e3 sm rx
          obtain ⟨b, m, ws, rfl, _, _, rfl, hb, rb⟩ := getL_ok e4 sm ry
          obtain ⟨z, q1⟩ := PostE.newL p sm (ra.append rb)
          rw [List.length_append] at z
          exact op_cat pins s σ H _ _ _ _ Q I ex ey ⟨a, b, vs, ws, rfl, rfl, ha, hb, z, q1⟩
  unfold opAdd at p
  split at p
  · cases rx
    cases ry
    exact op_add pins s σ H _ _ _ _ Q I ex ey ⟨_, _, rfl, rfl, p.val sm (vi _ _ _ _)⟩
  · cases rx
    cases ry
    split at p
    · rename_i s' t' _ z
      refine op_add_str pins s σ H _ _ _ _ Q I ex ey ⟨_, _, rfl, rfl, ?_, ?_⟩
      · rw [str_len, str_len]
        exact fits_le z
      · rw [str_app]
        exact p.val sm rfl
    · exact p.elim
  · exact rest _ rfl p
theorem op2_sub : Op2 X G W (binaryOp .Sub) opSub := by
  intro pins s σ H F ι h x y vx vy ux uy Q I sm rx ry ex ey p
  unfold opSub at p
  split at p
  · cases rx
    cases ry
    exact op_sub pins s σ H _ _ _ _ Q I ex ey ⟨_, _, rfl, rfl, p.val sm (vi _ _ _ _)⟩
  · exact p.elim
theorem op2_mul : Op2 X G W (binaryOp .Mult) opMul := by
  intro pins s σ H F ι h x y vx vy ux uy Q I sm rx ry ex ey p
  unfold opMul at p
  split at p
  · cases rx
    cases ry
    split at p
    · rename_i z
      rcases mulOk_ok z with z | z
      · exact op_mul pins s σ H _ _ _ _ Q I ex ey ⟨_, _, rfl, rfl, z, p.val sm (vi _ _ _ _)⟩
      · exact op_mulW pins s σ H _ _ _ _ Q I ex ey ⟨_, _, rfl, rfl, z, p.val sm (vi _ _ _ _)⟩
    · exact p.elim
  · cases ry
    split at p
    · rename_i k _ _ xs e3
      split at p
      · rename_i z
        obtain ⟨z1, z2⟩ := z
        have z3 := Nat.le_of_ble_eq_true z1
        obtain ⟨a, n, vs, rfl, _, _, rfl, ha, ra⟩ := getL_ok e3 sm rx
        obtain ⟨z, q1⟩ := PostE.newL p sm (ra.rep k.toNat)
        refine op_rep pins s σ H _ _ _ _ Q I ex ey ⟨a, k, vs, rfl, rfl, ha, by omega, by omega, ?_, q1⟩
        simp only [List.length_flatten, List.map_replicate, List.sum_replicate_nat] at z
        rw [Nat.mul_comm]
        exact z
      · exact p.elim
    · exact p.elim
  · exact p.elim
theorem op2_fdiv : Op2 X G W (binaryOp .FloorDiv) opFdiv := by
  intro pins s σ H F ι h x y vx vy ux uy Q I sm rx ry ex ey p
  unfold opFdiv at p
  split at p
  · cases rx
    cases ry
    split at p
    · rename_i z
      obtain ⟨z0, z | z⟩ := z
      · exact op_fdiv pins s σ H _ _ _ _ Q I ex ey ⟨_, _, rfl, rfl, ⟨z0, z⟩, p.val sm (vi _ _ _ _)⟩
      · exact op_fdivW pins s σ H _ _ _ _ Q I ex ey ⟨_, _, rfl, rfl, ⟨z0, z⟩, p.val sm (vi _ _ _ _)⟩
    · exact p.elim
  · exact p.elim
theorem op2_mod : Op2 X G W (binaryOp .Mod) opMod := by
  intro pins s σ H F ι h x y vx vy ux uy Q I sm rx ry ex ey p
  unfold opMod at p
  split at p
  · cases rx
    cases ry
    split at p
    · rename_i z
      exact op_mod pins s σ H _ _ _ _ Q I ex ey ⟨_, _, rfl, rfl, z, p.val sm (vi _ _ _ _)⟩
    · exact p.elim
  · exact p.elim
theorem op2_pow : Op2 X G W (binaryOp .Pow) opPow := by
  intro pins s σ H F ι h x y vx vy ux uy Q I sm rx ry ex ey p
  unfold opPow at p
  split at p
  · cases rx
    cases ry
    split at p
    · rename_i z
      exact op_pow pins s σ H _ _ _ _ Q I ex ey ⟨_, _, rfl, rfl, z, p.val sm (vi _ _ _ _)⟩
    · exact p.elim
  · exact p.elim
theorem op2_shl : Op2 X G W (binaryOp .LShift) opShl := by
  intro pins s σ H F ι h x y vx vy ux uy Q I sm rx ry ex ey p
  unfold opShl at p
  split at p
  · cases rx
    cases ry
    split at p
    · rename_i z
      exact op_shl pins s σ H _ _ _ _ Q I ex ey ⟨_, _, rfl, rfl, z, p.val sm (vi _ _ _ _)⟩
    · exact p.elim
  · exact p.elim
theorem op2_shr : Op2 X G W (binaryOp .RShift) opShr := by
  intro pins s σ H F ι h x y vx vy ux uy Q I sm rx ry ex ey p
  unfold opShr at p
  split at p
  · cases rx
    cases ry
    split at p
    · rename_i z
      exact op_shr pins s σ H _ _ _ _ Q I ex ey ⟨_, _, rfl, rfl, z, p.val sm (vi _ _ _ _)⟩
    · exact p.elim
  · exact p.elim
theorem op2_and : Op2 X G W (binaryOp .BitAnd) opAnd := by
  intro pins s σ H F ι h x y vx vy ux uy Q I sm rx ry ex ey p
  unfold opAnd at p
  split at p
  · cases rx
    cases ry
    exact op_and pins s σ H _ _ _ _ Q I ex ey ⟨_, _, rfl, rfl, p.val sm (vi _ _ _ _)⟩
  · exact p.elim
theorem op2_or : Op2 X G W (binaryOp .BitOr) opOr := by
  intro pins s σ H F ι h x y vx vy ux uy Q I sm rx ry ex ey p
  unfold opOr at p
  split at p
  · cases rx
    cases ry
    exact op_or pins s σ H _ _ _ _ Q I ex ey ⟨_, _, rfl, rfl, p.val sm (vi _ _ _ _)⟩
  · exact p.elim
theorem op2_xor : Op2 X G W (binaryOp .BitXor) opXor := by
  intro pins s σ H F ι h x y vx vy ux uy Q I sm rx ry ex ey p
  unfold opXor at p
  split at p
  · cases rx
    cases ry
    exact op_xor pins s σ H _ _ _ _ Q I ex ey ⟨_, _, rfl, rfl, p.val sm (vi _ _ _ _)⟩
  · exact p.elim
theorem op1_neg : Op1 X G W (unaryOp .USub) opNeg := by
  intro pins s σ H F ι h x vx ux Q I sm rx ex p
  unfold opNeg at p
  split at p
  · cases rx
    exact un_neg pins s σ H _ _ Q I ex ⟨_, rfl, p.val sm (vi _ _ _ _)⟩
  · exact p.elim
end
end Ev

set_option Elab.async false
set_option linter.all false
set_option maxRecDepth 100000
set_option maxHeartbeats 4000000
/-! Ev, 3: comparisons, truth, places, slices, by values. -/
namespace Ev
open PySem PySem.Spec PyProof.Rows L2

/-! ### data as the library has it -/
mutual
def D.py : D → PyData
  | .non => .none
  | .bl b => .bool b
  | .int i => .int i
  | .str s => .str ⟨s.toArray⟩
  | .tup _ xs => .tuple (D.pys xs)
def D.pys : List D → List PyData
  | [] => []
  | x :: r => D.py x :: D.pys r
end
/-- all of them -/
def mapO {α β : Type} (f : α → Option β) : List α → Option (List β)
  | [] => some []
  | x :: r => match f x, mapO f r with
    | some y, some ys => some (y :: ys)
    | _, _ => none
def vpy : Nat → EH → Val → Option PyData
  | _, _, .d x => some x.py
  | 0, _, _ => none
  | n + 1, h, .t xs => (mapO (vpy n h) xs).map .tuple
  | n + 1, h, .r k => match h[k]? with
    | some (.lst xs) => (mapO (vpy n h) xs).map .list
    | _ => none
  | _ + 1, _, .z _ => none
section
variable {K : PySem.W.Frag} {G : Cg} {F : Hp} {ι : List Addr} {H : Hp} {h : EH}
mutual
theorem D.dp : ∀ {d : D} {v : V}, RD K H d v → Dp K H v d.py
  | .non, v, r => by
    have e : v = .non := r
    subst e
    exact .non
  | .bl b, v, r => by
    have e : v = .bl b := r
    subst e
    exact .bl b
  | .int i, v, r => by
    have e : v = .int i := r
    subst e
    exact .int i
  | .str s, v, r => by
    have e : v = .str ⟨s.toArray⟩ := r
    subst e
    exact .str _
  | .tup k ds, v, r => by
    obtain ⟨a, vs, e, s, q⟩ := r
    subst e
    exact .tup s.sq (D.dps q)
theorem D.dps : ∀ {ds : List D} {vs : List V}, RDs K H ds vs → DpAll K H vs (D.pys ds)
  | [], vs, r => by
    have e : vs = [] := r
    subst e
    exact .nil
  | d :: ds, vs, r => by
    obtain ⟨v, ws, e, h1, h2⟩ := r
    subst e
    exact .cons (D.dp h1) (D.dps h2)
end
theorem mapO_dp {n : Nat} (ih : ∀ (x : Val) (p : PyData) (v : V), vpy n h x = some p → RV K ι H x v → Dp K H v p) : ∀ (xs : List Val) (ps : List PyData) (vs : List V), mapO (vpy n h) xs = some ps → RVs K ι H xs vs → DpAll K H vs ps
  | [], ps, vs, e, r => by
    cases e
    have e : vs = [] := r
    subst e
    exact .nil
  | x :: xs, ps, vs, e, r => by
    obtain ⟨v, ws, e1, h1, h2⟩ := r
    subst e1
    unfold mapO at e
    split at e
    · rename_i y ys e1 e2
      cases e
      exact .cons (ih x y v e1 h1) (mapO_dp ih xs ys ws e2 h2)
    · cases e
theorem vpy_ok (sm : Sim K G F ι h H) : ∀ (n : Nat) (x : Val) (p : PyData) (v : V), vpy n h x = some p → RV K ι H x v → Dp K H v p
  | n, .d x, p, v, e, r => by
    unfold vpy at e
    cases e
    exact D.dp r
  | 0, .t xs, p, v, e, r => by cases e
  | 0, .r k, p, v, e, r => by cases e
  | 0, .z k, p, v, e, r => by cases e
  | n + 1, .z k, p, v, e, r => by cases e
  | n + 1, .t xs, p, v, e, r => by
    obtain ⟨a, vs, e1, s, q⟩ := r
    subst e1
    obtain ⟨ps, e2, rfl⟩ := Option.map_eq_some_iff.mp (show (mapO (vpy n h) xs).map PyData.tuple = some p from e)
    exact .tup (SqT.of s) (mapO_dp (vpy_ok sm n) xs ps vs e2 q)
  | n + 1, .r k, p, v, e, r => by
    have e1 : (match h[k]? with
      | some (.lst xs) => (mapO (vpy n h) xs).map .list
      | _ => none) = some p := e
    split at e1
    · rename_i xs e2
      obtain ⟨ps, e3, rfl⟩ := Option.map_eq_some_iff.mp e1
      obtain ⟨a, ha, rfl⟩ := r
      obtain ⟨vs, h1, h2⟩ := sm.atA e2 ha
      exact .lst (SqL.of h1) (mapO_dp (vpy_ok sm n) xs ps vs e3 h2)
    · cases e1
end

/-! ### comparisons -/
def okB (b : Bool) (h : EH) : R Val := .ok (.d (.bl b)) h
/-- of any data -/
def eqAny (x y : Val) (h : EH) : Option Bool := match vpy 32 h x, vpy 32 h y with
  | some a, some b => if (SeqAt.shaped a && SeqAt.shaped b) = true then some (PyData.eqv a b) else none
  | _, _ => none
def opEq : Val → Val → EH → R Val
  | .d (.int i), .d (.int j), h => okB (decide (i = j)) h
  | .d (.str s), .d (.str t), h => okB (decide (s = t)) h
  | x, y, h => match eqAny x y h with
    | some b => okB b h
    | none => .bad
def opNe : Val → Val → EH → R Val
  | .d (.int i), .d (.int j), h => okB (!decide (i = j)) h
  | .d (.str s), .d (.str t), h => okB (!decide (s = t)) h
  | x, y, h => match eqAny x y h with
    | some b => okB (!b) h
    | none => .bad
def opLt : Val → Val → EH → R Val
  | .d (.int i), .d (.int j), h => okB (decide (i < j)) h
  | .d (.str s), .d (.str t), h => okB (decide (s < t)) h
  | _, _, _ => .bad
def opLe : Val → Val → EH → R Val
  | .d (.int i), .d (.int j), h => okB (decide (i ≤ j)) h
  | .d (.str s), .d (.str t), h => okB (!decide (t < s)) h
  | _, _, _ => .bad
def opGt : Val → Val → EH → R Val
  | .d (.int i), .d (.int j), h => okB (decide (j < i)) h
  | .d (.str s), .d (.str t), h => okB (decide (t < s)) h
  | _, _, _ => .bad
def opGe : Val → Val → EH → R Val
  | .d (.int i), .d (.int j), h => okB (decide (j ≤ i)) h
  | .d (.str s), .d (.str t), h => okB (!decide (s < t)) h
  | _, _, _ => .bad
def isNon : Val → Bool
  | .d .non => true
  | _ => false
/-- the right side None, or both truths -/
def opIs : Val → Val → EH → R Val
  | x, .d .non, h => okB (isNon x) h
  | .d (.bl a), .d (.bl b), h => okB (decide (a = b)) h
  | _, _, _ => .bad
def opIsNot : Val → Val → EH → R Val
  | x, .d .non, h => okB (!isNon x) h
  | .d (.bl a), .d (.bl b), h => okB (!decide (a = b)) h
  | _, _, _ => .bad
/-- flat data: == -/
def flatD : D → Bool
  | .tup _ _ => false
  | _ => true
def eqD : D → D → Bool
  | .non, .non => true
  | .bl a, .bl b => a == b
  | .bl a, .int b => (if a then 1 else 0) == b
  | .int a, .bl b => a == (if b then 1 else 0)
  | .int a, .int b => a == b
  | .str a, .str b => decide (a = b)
  | _, _ => false
/-- x among flat data -/
def inD (x : D) : List Val → Option Bool
  | [] => some false
  | .d y :: r => if flatD y = true then (inD x r).map (eqD y x || ·) else none
  | _ :: _ => none
section
variable {X : Cx} {G : Cg} {W : WX}
theorem str_eq (s t : List Nat) : ((⟨s.toArray⟩ : Str) = ⟨t.toArray⟩) ↔ s = t := by
  constructor
  · intro e
    have e1 : s.toArray = t.toArray := congrArg Str.cps e
    simpa using e1
  · rintro rfl
    rfl
theorem dec_str' (s t : List Nat) : decide (V.str ⟨s.toArray⟩ = V.str ⟨t.toArray⟩) = decide (s = t) := by
  have e : (V.str ⟨s.toArray⟩ = V.str ⟨t.toArray⟩) ↔ s = t := by
    rw [V.str.injEq]
    exact str_eq s t
  simp only [e]
theorem dec_int' (i j : Int) : decide (V.int i = V.int j) = decide (i = j) := by
  simp only [V.int.injEq]
theorem eqAny_ok {F : Hp} {ι : List Addr} {H : Hp} {h : EH} {x y : Val} {vx vy : V} {b : Bool} (sm : Sim X.K G F ι h H) (rx : RV X.K ι H x vx) (ry : RV X.K ι H y vy) (e : eqAny x y h = some b) :
    ∃ p q, Dp X.K H vx p ∧ Dp X.K H vy q ∧ SeqAt.shaped p = true ∧ SeqAt.shaped q = true ∧ b = PyData.eqv p q := by
  unfold eqAny at e
  split at e
  · rename_i p q e1 e2
    split at e
    · rename_i z
      obtain ⟨z1, z2⟩ := Bool.and_eq_true_iff.mp z
      cases e
      exact ⟨p, q, vpy_ok sm 32 x p vx e1 rx, vpy_ok sm 32 y q vy e2 ry, z1, z2, rfl⟩
    · cases e
  · cases e
theorem vb (b : Bool) (K : PySem.W.Frag) (ι : List Addr) (H : Hp) : RV K ι H (.d (.bl b)) (.bl b) := rfl
theorem op2_eq (hu : X.A.units + 64 < cLine) : Op2 X G W (compareOp .Eq) opEq := by
  intro pins s σ H F ι h x y vx vy ux uy Q I sm rx ry ex ey p
  unfold opEq okB at p
  split at p
  · cases rx
    cases ry
    refine op_eq pins s σ H _ _ _ _ Q I ex ey ⟨rfl, ?_⟩
    rw [dec_int']
    exact p.val sm (vb _ _ _ _)
  · cases rx
    cases ry
    refine op_eq pins s σ H _ _ _ _ Q I ex ey ⟨rfl, ?_⟩
    rw [dec_str']
    exact p.val sm (vb _ _ _ _)
  · split at p
    · rename_i e
      obtain ⟨a, b, h1, h2, h3, h4, rfl⟩ := eqAny_ok sm rx ry e
      exact op_eqD hu pins s σ H _ _ _ _ Q I ex ey ⟨a, b, h1, h2, h3, h4, p.val sm (vb _ _ _ _)⟩
    · exact p.elim
theorem op2_ne (hu : X.A.units + 64 < cLine) : Op2 X G W (compareOp .NotEq) opNe := by
  intro pins s σ H F ι h x y vx vy ux uy Q I sm rx ry ex ey p
  unfold opNe okB at p
  split at p
  · cases rx
    cases ry
    refine op_ne pins s σ H _ _ _ _ Q I ex ey ⟨rfl, ?_⟩
    rw [dec_int']
    exact p.val sm (vb _ _ _ _)
  · cases rx
    cases ry
    refine op_ne pins s σ H _ _ _ _ Q I ex ey ⟨rfl, ?_⟩
    rw [dec_str']
    exact p.val sm (vb _ _ _ _)
  · split at p
    · rename_i e
      obtain ⟨a, b, h1, h2, h3, h4, rfl⟩ := eqAny_ok sm rx ry e
      exact op_neD hu pins s σ H _ _ _ _ Q I ex ey ⟨a, b, h1, h2, h3, h4, p.val sm (vb _ _ _ _)⟩
    · exact p.elim
theorem op2_lt : Op2 X G W (compareOp .Lt) opLt := by
  intro pins s σ H F ι h x y vx vy ux uy Q I sm rx ry ex ey p
  unfold opLt okB at p
  split at p
  · cases rx
    cases ry
    exact op_lt pins s σ H _ _ _ _ Q I ex ey ⟨_, _, rfl, rfl, p.val sm (vb _ _ _ _)⟩
  · cases rx
    cases ry
    exact op_lt_str pins s σ H _ _ _ _ Q I ex ey ⟨_, _, rfl, rfl, p.val sm (vb _ _ _ _)⟩
  · exact p.elim
theorem op2_le : Op2 X G W (compareOp .LtE) opLe := by
  intro pins s σ H F ι h x y vx vy ux uy Q I sm rx ry ex ey p
  unfold opLe okB at p
  split at p
  · cases rx
    cases ry
    exact op_le pins s σ H _ _ _ _ Q I ex ey ⟨_, _, rfl, rfl, p.val sm (vb _ _ _ _)⟩
  · cases rx
    cases ry
    exact op_le_str pins s σ H _ _ _ _ Q I ex ey ⟨_, _, rfl, rfl, p.val sm (vb _ _ _ _)⟩
  · exact p.elim
theorem op2_gt : Op2 X G W (compareOp .Gt) opGt := by
  intro pins s σ H F ι h x y vx vy ux uy Q I sm rx ry ex ey p
  unfold opGt okB at p
  split at p
  · cases rx
    cases ry
    exact op_gt pins s σ H _ _ _ _ Q I ex ey ⟨_, _, rfl, rfl, p.val sm (vb _ _ _ _)⟩
  · cases rx
    cases ry
    exact op_gt_str pins s σ H _ _ _ _ Q I ex ey ⟨_, _, rfl, rfl, p.val sm (vb _ _ _ _)⟩
  · exact p.elim
theorem op2_ge : Op2 X G W (compareOp .GtE) opGe := by
  intro pins s σ H F ι h x y vx vy ux uy Q I sm rx ry ex ey p
  unfold opGe okB at p
  split at p
  · cases rx
    cases ry
    exact op_ge pins s σ H _ _ _ _ Q I ex ey ⟨_, _, rfl, rfl, p.val sm (vb _ _ _ _)⟩
  · cases rx
    cases ry
    exact op_ge_str pins s σ H _ _ _ _ Q I ex ey ⟨_, _, rfl, rfl, p.val sm (vb _ _ _ _)⟩
  · exact p.elim
theorem isNon_ok {K : PySem.W.Frag} {ι : List Addr} {H : Hp} {x : Val} {v : V} (r : RV K ι H x v) : decide (v = .non) = isNon x := by
  cases x with
  | d y =>
    cases y with
    | non => cases r; rfl
    | bl b => cases r; rfl
    | int i => cases r; rfl
    | str s => cases r; rfl
    | tup xs =>
      obtain ⟨a, _, rfl, _⟩ := r
      rfl
  | r n =>
    obtain ⟨a, _, rfl⟩ := r
    rfl
  | t xs =>
    obtain ⟨a, _, rfl, _⟩ := r
    rfl
  | z xs =>
    obtain ⟨a, rfl, _⟩ := r
    rfl
theorem op2_is : Op2 X G W (compareOp .Is) opIs := by
  intro pins s σ H F ι h x y vx vy ux uy Q I sm rx ry ex ey p
  unfold opIs okB at p
  split at p
  · cases ry
    refine op_isN pins s σ H _ _ _ _ Q I ex ey ⟨rfl, ?_⟩
    rw [isNon_ok rx]
    exact p.val sm (vb _ _ _ _)
  · cases rx
    cases ry
    exact op_is_bl pins s σ H _ _ _ _ Q I ex ey ⟨_, _, rfl, rfl, p.val sm (vb _ _ _ _)⟩
  · exact p.elim
theorem op2_isNot : Op2 X G W (compareOp .IsNot) opIsNot := by
  intro pins s σ H F ι h x y vx vy ux uy Q I sm rx ry ex ey p
  unfold opIsNot okB at p
  split at p
  · cases ry
    refine op_notN pins s σ H _ _ _ _ Q I ex ey ⟨rfl, ?_⟩
    rw [isNon_ok rx]
    exact p.val sm (vb _ _ _ _)
  · cases rx
    cases ry
    exact op_isnot_bl pins s σ H _ _ _ _ Q I ex ey ⟨_, _, rfl, rfl, p.val sm (vb _ _ _ _)⟩
  · exact p.elim
end
end Ev

set_option Elab.async false
set_option linter.all false
set_option maxRecDepth 100000
set_option maxHeartbeats 4000000
/-! Ev, 4: dicts by keys, in, truth, places, slices, by values. -/
namespace Ev
open PySem PySem.Spec PyProof.Rows L2

/-! ### keys -/
mutual
def D.beq : D → D → Bool
  | .non, .non => true
  | .bl a, .bl b => a == b
  | .int i, .int j => decide (i = j)
  | .str s, .str t => decide (s = t)
  | .tup k xs, .tup j ys => (k == j) && D.beqs xs ys
  | _, _ => false
def D.beqs : List D → List D → Bool
  | [], [] => true
  | x :: xs, y :: ys => D.beq x y && D.beqs xs ys
  | _, _ => false
end
mutual
theorem D.beq_eq : ∀ (a b : D), D.beq a b = true ↔ a = b
  | .non, b => by cases b <;> simp [D.beq]
  | .bl a, b => by cases b <;> simp [D.beq]
  | .int a, b => by cases b <;> simp [D.beq]
  | .str a, b => by cases b <;> simp [D.beq]
  | .tup k xs, b => by
    cases b with
    | tup j ys => simp [D.beq, D.beqs_eq xs ys]
    | _ => simp [D.beq]
theorem D.beqs_eq : ∀ (a b : List D), D.beqs a b = true ↔ a = b
  | [], b => by cases b <;> simp [D.beqs]
  | x :: xs, b => by
    cases b with
    | nil => simp [D.beqs]
    | cons y ys => simp [D.beqs, D.beq_eq x y, D.beqs_eq xs ys]
end
theorem key0_inj {a b : D} {k : Key} (ha : key0 a = some k) (hb : key0 b = some k) : a = b := by
  cases a <;> cases ha
  · cases b <;> cases hb
    rfl
  · cases b with
    | str t =>
      have e := Option.some.inj hb
      injection e with e
      rw [(str_eq _ _).mp e]
    | _ => cases hb
theorem keys0_inj : ∀ {a b : List D} {k : List Key}, keys0 a = some k → keys0 b = some k → a = b
  | [], [], _, _, _ => rfl
  | [], y :: b, k, ha, hb => by
    cases ha
    unfold keys0 at hb
    split at hb <;> cases hb
  | x :: a, [], k, ha, hb => by
    cases hb
    unfold keys0 at ha
    split at ha <;> cases ha
  | x :: a, y :: b, k, ha, hb => by
    unfold keys0 at ha hb
    split at ha
    · rename_i k1 ks1 e1 e2
      cases ha
      split at hb
      · rename_i k2 ks2 e3 e4
        cases hb
        rw [key0_inj e1 e3, keys0_inj e2 e4]
      · cases hb
    · cases ha
theorem keyT_inj {a b : D} {k : List Key} (ha : keyT a = some k) (hb : keyT b = some k) : a = b := by
  cases a with
  | tup k1 xs =>
    cases b with
    | tup k2 ys =>
      cases k1 with
      | false => cases ha
      | true =>
        cases k2 with
        | false => cases hb
        | true => rw [keys0_inj (show keys0 xs = _ from ha) (show keys0 ys = _ from hb)]
    | _ => cases hb
  | _ => cases ha
theorem key0_rd {K : PySem.W.Frag} {H : Hp} {d : D} {k : Key} {v : V} (e : key0 d = some k) (r : RD K H d v) : v = kV k := by
  cases d with
  | int i =>
    cases e
    exact r
  | str s =>
    cases e
    exact r
  | _ => cases e
theorem keys0_rd {K : PySem.W.Frag} {H : Hp} : ∀ {ds : List D} {ks : List Key} {vs : List V}, keys0 ds = some ks → RDs K H ds vs → vs = ks.map kV
  | [], ks, vs, e, r => by
    cases e
    exact r
  | d :: ds, ks, vs, e, r => by
    obtain ⟨v, ws, rfl, h1, h2⟩ := r
    unfold keys0 at e
    split at e
    · rename_i k ks' e1 e2
      cases e
      rw [key0_rd e1 h1, keys0_rd e2 h2]
      rfl
    · cases e
theorem keyT_rd {K : PySem.W.Frag} {H : Hp} {d : D} {ks : List Key} {v : V} (e : keyT d = some ks) (r : RD K H d v) : ∃ a, v = .ref a ∧ H a = some (.tup (ks.map kV)) := by
  cases d with
  | tup k ds =>
    cases k with
    | false => cases e
    | true =>
      obtain ⟨a, vs, rfl, h1, h2⟩ := r
      have h1 : H a = some (.tup vs) := h1
      exact ⟨a, rfl, by rw [h1, keys0_rd e h2]⟩
  | _ => cases e
/-- what a dict has under a key -/
def findD (k : D) : List (D × Val) → Option Val
  | [] => none
  | (j, v) :: r => if D.beq j k = true then some v else findD k r
def hasD (k : D) (kvs : List (D × Val)) : Bool := (findD k kvs).isSome
def replD (k : D) (v : Val) : List (D × Val) → List (D × Val)
  | [] => []
  | (j, w) :: r => (if D.beq j k = true then (j, v) else (j, w)) :: replD k v r
def putD (kvs : List (D × Val)) (k : D) (v : Val) : List (D × Val) := if hasD k kvs = true then replD k v kvs else kvs ++ [(k, v)]
def dropD (k : D) : List (D × Val) → List (D × Val)
  | [] => []
  | (j, w) :: r => if D.beq j k = true then dropD k r else (j, w) :: dropD k r
section
variable {K : PySem.W.Frag} {ι : List Addr} {H : Hp} {κ : Type} [DecidableEq κ] {f : D → Option κ}
theorem KK.find (inj : ∀ {a b k}, f a = some k → f b = some k → a = b) {k : D} {kk : κ} (hk : f k = some kk) : ∀ {xs : List (D × Val)} {ys : List (κ × V)}, KK K ι H f xs ys →
    (findD k xs = none ∧ valV ys kk = none) ∨ ∃ x v, findD k xs = some x ∧ valV ys kk = some v ∧ RV K ι H x v
  | [], _, .nil => .inl ⟨rfl, rfl⟩
  | (j, x) :: xs, (jk, v) :: ys, .cons q r => by
    have q1 : f j = some jk := q.1
    have q2 : RV K ι H x v := q.2
    unfold findD
    by_cases e : j = k
    · subst e
      have e2 : jk = kk := Option.some.inj (q1.symm.trans hk)
      subst e2
      rw [if_pos ((D.beq_eq _ _).mpr rfl)]
      exact .inr ⟨x, v, rfl, valV_pos rfl, q2⟩
    · have e2 : ¬ jk = kk := fun z => e (inj q1 (z ▸ hk))
      rw [if_neg (fun z => e ((D.beq_eq _ _).mp z)), valV_neg e2]
      exact KK.find inj hk r
theorem KK.repl (inj : ∀ {a b k}, f a = some k → f b = some k → a = b) {k : D} {kk : κ} (hk : f k = some kk) {x : Val} {v : V} (r0 : RV K ι H x v) : ∀ {xs : List (D × Val)} {ys : List (κ × V)}, KK K ι H f xs ys →
    KK K ι H f (replD k x xs) (ys.map fun kv => if kv.1 = kk then (kv.1, v) else kv)
  | [], _, .nil => .nil
  | (j, y) :: xs, (jk, w) :: ys, .cons q r => by
    have q1 : f j = some jk := q.1
    have ih := KK.repl inj hk r0 r
    unfold replD
    by_cases e : j = k
    · subst e
      have e2 : jk = kk := Option.some.inj (q1.symm.trans hk)
      subst e2
      rw [if_pos ((D.beq_eq _ _).mpr rfl), List.map_cons, if_pos rfl]
      exact .cons ⟨q1, r0⟩ ih
    · have e2 : ¬ jk = kk := fun z => e (inj q1 (z ▸ hk))
      rw [if_neg (fun z => e ((D.beq_eq _ _).mp z)), List.map_cons, if_neg e2]
      exact .cons q ih
theorem KK.app {xs xs' : List (D × Val)} {ys ys' : List (κ × V)} (h : KK K ι H f xs ys) (h' : KK K ι H f xs' ys') : KK K ι H f (xs ++ xs') (ys ++ ys') := by
  induction h with
  | nil => exact h'
  | cons q r ih => exact .cons q ih
theorem KK.put (inj : ∀ {a b k}, f a = some k → f b = some k → a = b) {k : D} {kk : κ} (hk : f k = some kk) {x : Val} {v : V} (r0 : RV K ι H x v) {xs : List (D × Val)} {ys : List (κ × V)} (h : KK K ι H f xs ys) :
    KK K ι H f (putD xs k x) (putK ys kk v) := by
  unfold putD putK hasD
  rw [valV_any]
  rcases h.find inj hk with ⟨e1, e2⟩ | ⟨_, _, e1, e2, _⟩
  · rw [e1, e2, if_neg (by simp), if_neg (by simp)]
    exact h.app (.cons ⟨hk, r0⟩ .nil)
  · rw [e1, e2, if_pos (show (Option.isSome (some _)) = true from rfl), if_pos (show (Option.isSome (some _)) = true from rfl)]
    exact h.repl inj hk r0
theorem KK.drop (inj : ∀ {a b k}, f a = some k → f b = some k → a = b) {k : D} {kk : κ} (hk : f k = some kk) : ∀ {xs : List (D × Val)} {ys : List (κ × V)}, KK K ι H f xs ys → KK K ι H f (dropD k xs) (dropK ys kk)
  | [], _, .nil => .nil
  | (j, y) :: xs, (jk, w) :: ys, .cons q r => by
    have q1 : f j = some jk := q.1
    have ih := KK.drop inj hk r
    unfold dropD
    unfold dropK at ih ⊢
    by_cases e : j = k
    · subst e
      have e2 : jk = kk := Option.some.inj (q1.symm.trans hk)
      subst e2
      rw [if_pos ((D.beq_eq _ _).mpr rfl), List.filter_cons_of_neg (by simp)]
      exact ih
    · have e2 : ¬ jk = kk := fun z => e (inj q1 (z ▸ hk))
      rw [if_neg (fun z => e ((D.beq_eq _ _).mp z)), List.filter_cons_of_pos (by simpa using e2)]
      exact .cons q ih
theorem KK.len {xs : List (D × Val)} {ys : List (κ × V)} (h : KK K ι H f xs ys) : xs.length = ys.length := Paired.length h
end
/-- the dict at n, with a key of its kind -/
def dictAt (x : Val) (h : EH) : Option (Bool × List (D × Val)) := match x with
  | .r n => match h[n]? with
    | some (.dk kvs) => some (false, kvs)
    | some (.dt kvs) => some (true, kvs)
    | _ => none
  | _ => none
def keyFits (t : Bool) (k : D) : Bool := if t = true then (keyT k).isSome else (key0 k).isSome
/-- x[k] of a dict: what is there -/
def dGet (x : Val) (k : D) (h : EH) : Option (Option Val) := match dictAt x h with
  | some (t, kvs) => if keyFits t k = true then some (findD k kvs) else none
  | none => none
section
variable {K : PySem.W.Frag} {G : Cg} {F : Hp} {ι : List Addr} {H : Hp} {h : EH}
theorem dGet_ok {x : Val} {k : D} {vx vk : V} {o : Option Val} (e : dGet x k h = some o) (sm : Sim K G F ι h H) (rx : RV K ι H x vx) (rk : RD K H k vk) :
    ∃ a w, vx = .ref a ∧ DGet H a vk w ∧ (∀ y, o = some y → ∃ v, w = some v ∧ RV K ι H y v) ∧ (o = none → w = none) := by
  unfold dGet at e
  split at e
  · rename_i t kvs ed
    split at e
    · rename_i kf
      cases e
      cases x with
      | r n =>
        obtain ⟨a, ha, rfl⟩ := rx
        have ed1 : (match h[n]? with
          | some (.dk kvs) => some (false, kvs)
          | some (.dt kvs) => some (true, kvs)
          | _ => none) = some (t, kvs) := ed
        split at ed1
        · rename_i kvs' e2
          cases ed1
          obtain ⟨ks, h1, h2⟩ := sm.atA e2 ha
          have kf1 : (key0 k).isSome = true := kf
          obtain ⟨kk, hk⟩ := Option.isSome_iff_exists.mp kf1
          rw [key0_rd hk rk]
          refine ⟨a, _, rfl, DGet.k h1, ?_⟩
          rcases h2.find (fun {a b k} => key0_inj) hk with ⟨e3, e4⟩ | ⟨y, v, e3, e4, r⟩
          · rw [e3, e4]
            exact ⟨(fun _ z => nomatch z), fun _ => rfl⟩
          · rw [e3, e4]
            exact ⟨(fun _ z => ⟨v, rfl, (by cases z; exact r)⟩), (fun z => nomatch z)⟩
        · rename_i kvs' e2
          cases ed1
          obtain ⟨ks, h1, h2⟩ := sm.atA e2 ha
          have kf1 : (keyT k).isSome = true := kf
          obtain ⟨kk, hk⟩ := Option.isSome_iff_exists.mp kf1
          obtain ⟨b, rfl, hb⟩ := keyT_rd hk rk
          refine ⟨a, _, rfl, DGet.t h1 hb, ?_⟩
          rcases h2.find (fun {a b k} => keyT_inj) hk with ⟨e3, e4⟩ | ⟨y, v, e3, e4, r⟩
          · rw [e3, e4]
            exact ⟨(fun _ z => nomatch z), fun _ => rfl⟩
          · rw [e3, e4]
            exact ⟨(fun _ z => ⟨v, rfl, (by cases z; exact r)⟩), (fun z => nomatch z)⟩
        · cases ed1
      | _ => cases ed
    · cases e
  · cases e
end

/-! ### in -/
/-- x in y -/
def isIn : Val → Val → EH → Option Bool
  | .d (.str [c]), .d (.str s), _ => some (decide (c ∈ s))
  | .d k, y, h => match getS y h with
    | some xs => if flatD k = true then inD k xs else none
    | none => (dGet y k h).map (·.isSome)
  | _, _, _ => none
def opIn (x y : Val) (h : EH) : R Val := match isIn x y h with
  | some b => okB b h
  | none => .bad
def opNotIn (x y : Val) (h : EH) : R Val := match isIn x y h with
  | some b => okB (!b) h
  | none => .bad
section
variable {K : PySem.W.Frag} {G : Cg} {F : Hp} {ι : List Addr} {H : Hp} {h : EH}
theorem flat_rd {d : D} {v : V} (e : flatD d = true) (r : RD K H d v) : flatV v = true := by
  cases d with
  | non => cases r; rfl
  | bl b => cases r; rfl
  | int i => cases r; rfl
  | str s => cases r; rfl
  | tup xs => cases e
theorem eq_rd {a b : D} {v w : V} (ha : flatD a = true) (hb : flatD b = true) (r : RD K H a v) (r' : RD K H b w) : eqV v w = eqD a b := by
  cases a <;> cases b <;> first
    | (cases ha; done)
    | (cases hb; done)
    | (cases r; cases r'; rfl)
    | skip
  rename_i s t
  cases r
  cases r'
  show ((⟨s.toArray⟩ : Str) == ⟨t.toArray⟩) = decide (s = t)
  rw [Bool.eq_iff_iff, beq_iff_eq, decide_eq_true_iff]
  exact str_eq s t
theorem inD_ok {k : D} {vk : V} (hk : flatD k = true) (rk : RD K H k vk) : ∀ {xs : List Val} {vs : List V} {b : Bool}, inD k xs = some b → RVs K ι H xs vs → vs.all flatV = true ∧ inV vk vs = b
  | [], vs, b, e, r => by
    cases e
    have e : vs = [] := r
    subst e
    exact ⟨rfl, rfl⟩
  | .d y :: xs, vs, b, e, r => by
    obtain ⟨v, ws, rfl, h1, h2⟩ := r
    unfold inD at e
    split at e
    · rename_i hy
      obtain ⟨b1, e1, rfl⟩ := Option.map_eq_some_iff.mp e
      obtain ⟨q1, q2⟩ := inD_ok hk rk e1 h2
      have h1' : RD K H y v := h1
      refine ⟨?_, ?_⟩
      · rw [List.all_cons, flat_rd hy h1', q1]
        rfl
      · unfold inV at q2 ⊢
        rw [List.any_cons, q2, eq_rd hy hk h1' rk]
    · cases e
  | .r n :: xs, vs, b, e, r => by cases e
  | .t n :: xs, vs, b, e, r => by cases e
  | .z n :: xs, vs, b, e, r => by cases e
end
section
variable {X : Cx} {G : Cg} {W : WX}
theorem isIn_ok {pins : List (Addr × Obj)} {s : Shared} {σ : St} {H F : Hp} {ι : List Addr} {h : EH} {x y : Val} {vx vy : V} {ux uy : Value} {Q : VK} {neg : Bool} {b : Bool} (hu : X.A.units + 1 < cLine)
    (I : Inv X pins σ H s) (sm : Sim X.K G F ι h H) (rx : RV X.K ι H x vx) (ry : RV X.K ι H y vy) (ex : RelV vx ux) (ey : RelV vy uy) (e : isIn x y h = some b) (q : Q (.bl (if neg then !b else b)) H) :
    wpAny (model X.prog X.w) X.A (compareOp (if neg then .NotIn else .In) ux uy) (EP X pins σ Q) X.xe s := by
  unfold isIn at e
  split at e
  · cases rx
    cases ry
    cases e
    cases neg with
    | false => exact op_in_sign pins s σ H _ _ _ _ Q I ex ey ⟨_, _, rfl, rfl, q⟩
    | true => exact op_notIn_sign pins s σ H _ _ _ _ Q I ex ey ⟨_, _, rfl, rfl, q⟩
  · rename_i k _ _ _
    split at e
    · rename_i xs eS
      split at e
      · rename_i hk
        obtain ⟨a, vs, rfl, hs, rs⟩ := getS_ok eS sm ry
        obtain ⟨h1, h2⟩ := inD_ok (ι := ι) hk rx e rs
        subst h2
        cases neg with
        | false => exact op_in_seq pins s σ H _ _ _ _ Q I ex ey ⟨a, vs, rfl, hs, flat_rd hk rx, h1, q⟩
        | true => exact op_notIn_seq pins s σ H _ _ _ _ Q I ex ey ⟨a, vs, rfl, hs, flat_rd hk rx, h1, q⟩
      · cases e
    · obtain ⟨o, e1, rfl⟩ := Option.map_eq_some_iff.mp e
      obtain ⟨a, w, rfl, g, g1, g2⟩ := dGet_ok e1 sm ry rx
      have ew : w.isSome = o.isSome := by
        cases o with
        | none =>
          rw [g2 rfl]
          rfl
        | some z =>
          obtain ⟨v, rfl, _⟩ := g1 z rfl
          rfl
      obtain rfl : uy = Value.ref a := ey
      cases neg with
      | false => exact d_in hu I g ex fun s' I' => ⟨.bl _, H, I', rfl, by rw [ew]; exact q⟩
      | true => exact d_notIn hu I g ex fun s' I' => ⟨.bl _, H, I', rfl, by rw [ew]; exact q⟩
  · cases e
theorem op2_in (hu : X.A.units + 1 < cLine) : Op2 X G W (compareOp .In) opIn := by
  intro pins s σ H F ι h x y vx vy ux uy Q I sm rx ry ex ey p
  unfold opIn okB at p
  split at p
  · rename_i e
    exact isIn_ok (neg := false) hu I sm rx ry ex ey e (p.val sm (vb _ _ _ _))
  · exact p.elim
theorem op2_notIn (hu : X.A.units + 1 < cLine) : Op2 X G W (compareOp .NotIn) opNotIn := by
  intro pins s σ H F ι h x y vx vy ux uy Q I sm rx ry ex ey p
  unfold opNotIn okB at p
  split at p
  · rename_i e
    exact isIn_ok (neg := true) hu I sm rx ry ex ey e (p.val sm (vb _ _ _ _))
  · exact p.elim
end

/-! ### truth -/
def truth : Val → EH → Option Bool
  | .d .non, _ => some false
  | .d (.bl b), _ => some b
  | .d (.int i), _ => some (!decide (i = 0))
  | .d (.str s), _ => if fits s.length = true then some (!s.isEmpty) else none
  | .d (.tup _ xs), _ => some (!xs.isEmpty)
  | .t xs, _ => some (!xs.isEmpty)
  | .z xs, _ => some (!xs.isEmpty)
  | .r n, h => match h[n]? with
    | some (.lst xs) => some (!xs.isEmpty)
    | some (.dk xs) => some (!xs.isEmpty)
    | _ => none
theorem isEmpty_len {α β : Type} {xs : List α} {ys : List β} (e : xs.length = ys.length) : xs.isEmpty = ys.isEmpty := by
  cases xs <;> cases ys <;> simp_all
theorem truth_ok {K : PySem.W.Frag} {G : Cg} {F : Hp} {ι : List Addr} {H : Hp} {h : EH} {x : Val} {v : V} {b : Bool} (e : truth x h = some b) (sm : Sim K G F ι h H) (r : RV K ι H x v) : TruV K v H b := by
  unfold truth at e
  split at e
  · cases r; cases e; rfl
  · cases r; cases e; rfl
  · rename_i i
    cases r
    cases e
    show (!decide (i = 0)) = (i != 0)
    rw [bne, Bool.beq_eq_decide_eq]
  · rename_i s
    cases r
    split at e
    · rename_i z
      cases e
      refine ⟨by rw [str_len]; exact fits_le z, ?_⟩
      rw [str_len]
      cases s with
      | nil => rfl
      | cons c s =>
        show true = (((c :: s).length : Int) != 0)
        symm
        rw [bne_iff_ne]
        simp only [List.length_cons]
        omega
    · cases e
  · cases e
    obtain ⟨a, vs, rfl, h1, h2⟩ := r
    exact .inr (.inl ⟨vs, h1.sq, by rw [isEmpty_len h2.len]⟩)
  · cases e
    obtain ⟨a, vs, rfl, h1, h2⟩ := r
    exact .inr (.inl ⟨vs, SqT.of h1, by rw [isEmpty_len h2.len]⟩)
  · cases e
    obtain ⟨a, rfl, h1⟩ := r
    exact .inl ⟨_, h1.sq, by rw [isEmpty_len (List.length_map V.int).symm]⟩
  · obtain ⟨a, ha, rfl⟩ := r
    split at e
    · rename_i xs e1
      cases e
      obtain ⟨vs, h1, h2⟩ := sm.atA e1 ha
      exact .inl ⟨vs, SqL.of h1, by rw [isEmpty_len h2.len]⟩
    · rename_i xs e1
      cases e
      obtain ⟨ks, h1, h2⟩ := sm.atA e1 ha
      exact .inr (.inr ⟨ks, h1, by rw [isEmpty_len (KK.len h2)]⟩)
    · cases e

/-! ### places, slices -/
def atV (xs : List Val) (i : Int) : Option Val := (ixN xs.length i).bind fun j => xs[j]?
theorem atV_ok {K : PySem.W.Frag} {ι : List Addr} {H : Hp} {xs : List Val} {vs : List V} {i : Int} {x : Val} (r : RVs K ι H xs vs) (e : atV xs i = some x) : ∃ v, atI vs i = some v ∧ RV K ι H x v := by
  unfold atV at e
  obtain ⟨j, h1, h2⟩ := Option.bind_eq_some_iff.mp e
  obtain ⟨v, h3, h4⟩ := r.get h2
  refine ⟨v, ?_, h4⟩
  unfold atI
  rw [← r.len, h1]
  exact h3
def opIdx (x y : Val) (h : EH) : R Val := match x, y with
  | .d (.str s), .d (.int i) => match (ixN s.length i).bind fun j => s[j]? with
    | some c => if fits s.length = true then .ok (.d (.str [c])) h else .bad
    | none => .bad
  | x, .d k => match getS x h with
    | some xs => match k with
      | .int i => match atV xs i with
        | some v => .ok v h
        | none => .bad
      | _ => .bad
    | none => match dGet x k h with
      | some (some v) => .ok v h
      | _ => .bad
  | _, _ => .bad
def cutL {α : Type} (xs : List α) (lo hi : Option Int) : List α := (xs.drop (HT.sIx xs.length 0 lo)).take (HT.sIx xs.length xs.length hi - HT.sIx xs.length 0 lo)
theorem cutL_ok {K : PySem.W.Frag} {ι : List Addr} {H : Hp} {xs : List Val} {vs : List V} (lo hi : Option Int) (r : RVs K ι H xs vs) : RVs K ι H (cutL xs lo hi) (cutV vs lo hi) := by
  unfold cutL cutV
  rw [r.len]
  exact (r.drop _).take _
def opSlice (x : Val) (lo hi : Option Int) (h : EH) : R Val := match x with
  | .d (.str s) => if fits s.length = true then .ok (.d (.str (cutL s lo hi))) h else .bad
  | x => match asT x with
    | some xs => if (isK x && (Nat.beq (HT.sIx xs.length 0 lo) 0 && Nat.beq (HT.sIx xs.length xs.length hi) xs.length)) = true then .ok x h else newT (cutL xs lo hi) h
    | none => match getS x h with
      | some xs => newL (cutL xs lo hi) h
      | none => .bad
section
variable {X : Cx} {G : Cg} {W : WX}
/-- a subscript of a dict -/
theorem tail_dict {value slice : Expr} {pins : List (Addr × Obj)} {s : Shared} {σ : St} {H : Hp} {y : V} {v : V} {u : Value} {a : Addr} {Q : VK} (hu : X.A.units + 1 < cLine) (I : Inv X pins σ H s) (g : DGet H a y (some v)) (ry : RelV y u) (q : Q v H)
    (hs : subscripted slice false (.ref a) u = operate [.ref a, u] (getItem (.ref a) u)) : wpAny (model X.prog X.w) X.A (subscriptTail value slice (.ref a) u) (EP X pins σ Q) X.xe s :=
  tail_any (dict_typeIs I g) PySem.F.slot_dict_getitem.lookup (d_getItem hu I g ry fun w' s' I' r => ⟨v, H, I', r, q⟩) hs
theorem idx_ok (hu : X.A.units + 1 < cLine) {value slice : Expr} {pins : List (Addr × Obj)} {s : Shared} {σ : St} {H F : Hp} {ι : List Addr} {h : EH} {x y : Val} {vx vy : V} {ux uy : Value} {Q : VK} (I : Inv X pins σ H s) (sm : Sim X.K G F ι h H)
    (rx : RV X.K ι H x vx) (ry : RV X.K ι H y vy) (ex : RelV vx ux) (ey : RelV vy uy) (p : PostE X.K G F W σ Q ι H (opIdx x y h)) (hs : subscripted slice false ux uy = operate [ux, uy] (getItem ux uy)) :
    wpAny (model X.prog X.w) X.A (subscriptTail value slice ux uy) (EP X pins σ Q) X.xe s := by
  unfold opIdx at p
  split at p
  · cases rx
    cases ry
    split at p
    · rename_i c e
      split at p
      · rename_i z
        refine ix_str value slice pins s σ H _ _ _ _ Q I ex ey ⟨_, _, c, rfl, rfl, by rw [str_len]; exact fits_le z, e, ?_⟩ hs
        exact p.val sm rfl
      · exact p.elim
    · exact p.elim
  · rename_i k _
    split at p
    · rename_i xs eS
      split at p
      · split at p
        · rename_i x' e
          obtain ⟨a, vs, rfl, h1, h2⟩ := getS_ok eS sm rx
          obtain ⟨w, hw, rw'⟩ := atV_ok h2 e
          cases ry
          rcases h1 with h1 | h1
          · exact ix_list value slice pins s σ H _ _ _ _ Q I ex ey ⟨a, vs, _, w, rfl, rfl, h1, hw, p.val sm rw'⟩ hs
          · exact ix_tup value slice pins s σ H _ _ _ _ Q I ex ey ⟨a, vs, _, w, rfl, rfl, h1, hw, p.val sm rw'⟩ hs
        · exact p.elim
      · exact p.elim
    · split at p
      · rename_i y' e
        obtain ⟨a, w, rfl, g, g1, _⟩ := dGet_ok e sm rx ry
        obtain ⟨w', rfl, rw'⟩ := g1 _ rfl
        obtain rfl : ux = Value.ref a := ex
        exact tail_dict hu I g ey (p.val sm rw') hs
      · exact p.elim
  · exact p.elim
theorem slice_ok {pins : List (Addr × Obj)} {s : Shared} {σ : St} {H F : Hp} {ι : List Addr} {h : EH} {x : Val} {v : V} {u vl vu : Value} {lo hi : Option Int} {sl : Addr} {Q : VK} (I : Inv X pins σ H s) (sm : Sim X.K G F ι h H) (rx : RV X.K ι H x v) (ex : RelV v u)
    (hs : s.heap.IsSliceOf sl vl vu .none) (pl : IsPart vl lo) (pu : IsPart vu hi) (p : PostE X.K G F W σ Q ι H (opSlice x lo hi h)) :
    ∃ T id, typeLookup (.type T) "__getitem__" = pure (some (.builtin id)) ∧ s.TypeIs u T ∧ wpAny (model X.prog X.w) X.A (getItem u (.ref sl)) (EP X pins σ Q) X.xe s := by
  unfold opSlice at p
  split at p
  · rename_i z
    cases rx
    split at p
    · rename_i zz
      refine sl_str pins s σ H _ u vl vu lo hi sl Q I ex hs pl pu ⟨_, rfl, by rw [str_len]; exact fits_le zz, ?_⟩
      have e : TL.tl (cutS ⟨z.toArray⟩ lo hi) = cutL z lo hi := by
        unfold cutS cutL
        simp [TL.tl, Str.length]
      have e2 : cutS ⟨z.toArray⟩ lo hi = ⟨(cutL z lo hi).toArray⟩ := TL.ext_tl e
      rw [e2]
      exact p.val sm rfl
    · exact p.elim
  · split at p
    · rename_i xs eT
      obtain ⟨a, vs, rfl, h1, h2⟩ := asT_ok eT rx
      split at p
      · rename_i c
        obtain ⟨_, c3⟩ := Bool.and_eq_true_iff.mp c
        obtain ⟨c1, c2⟩ := Bool.and_eq_true_iff.mp c3
        have c1 := Nat.eq_of_beq_eq_true c1
        have c2 := Nat.eq_of_beq_eq_true c2
        rw [h2.len] at c1 c2
        exact sl_tupA pins s σ H _ u vl vu lo hi sl Q I ex hs pl pu ⟨a, vs, rfl, h1, fun _ => p.val sm rx, fun w => absurd ⟨c1, c2⟩ w⟩
      · rename_i c
        obtain ⟨z, q1, q2⟩ := PostE.newT p sm (cutL_ok lo hi h2)
        refine sl_tupA pins s σ H _ u vl vu lo hi sl Q I ex hs pl pu ⟨a, vs, rfl, h1, fun w => ?_, fun _ => q1⟩
        have hk : isK x = false := by
          cases k : isK x with
          | false => rfl
          | true =>
            rw [k, h2.len, w.1, w.2] at c
            simp at c
        obtain ⟨a', vs', ea, ta, ra⟩ := asT_trk eT hk rx
        cases ea
        obtain rfl : vs = vs' := I.tuple_inj h1 (SqT.of ta)
        refine q2 a ?_
        have e : cutV vs lo hi = vs := by
          unfold cutV
          rw [w.1, w.2]
          simp
        rw [e]
        exact ta
    · split at p
      · rename_i eT _ xs eS
        unfold getS at eS
        rw [eT] at eS
        have hl : ∃ a vs, v = .ref a ∧ SqL X.K H a vs ∧ RVs X.K ι H xs vs := by
          cases q2 : getL x h with
          | some ys =>
            simp only [q2] at eS
            cases eS
            obtain ⟨a, n, vs, _, _, _, e1, e2, e3⟩ := getL_ok q2 sm rx
            exact ⟨a, vs, e1, SqL.of e2, e3⟩
          | none =>
            simp only [q2] at eS
            obtain ⟨a, vs, e1, e2, e3⟩ := getZ_ok eS sm rx
            exact ⟨a, vs, e1, e2, e3⟩
        obtain ⟨a, vs, rfl, h1, h2⟩ := hl
        obtain ⟨z, q1⟩ := PostE.newL p sm (cutL_ok lo hi h2)
        exact sl_list pins s σ H _ u vl vu lo hi sl Q I ex hs pl pu ⟨a, vs, rfl, h1, q1⟩
      · exact p.elim
end
end Ev

set_option Elab.async false
set_option linter.all false
set_option maxRecDepth 100000
set_option maxHeartbeats 4000000
/-! Ev, 5: rules for expressions, by pieces of the evaluator. -/
namespace Ev
open PySem PySem.Spec PyProof.Rows L2

abbrev M (α : Type) := Env' → EH → R α
theorem PE.imp {X : Cx} {e : Expr} {t t' : TE} (h : PE X e t) (i : ∀ σ H Q, t' σ H Q → t σ H Q) : PE X e t' := ⟨fun pins s σ H Q I q => h.run pins s σ H Q I (i σ H Q q)⟩
theorem PT.imp {X : Cx} {e : Expr} {t t' : TT} (h : PT X e t) (i : ∀ σ H Q, t' σ H Q → t σ H Q) : PT X e t' := ⟨fun pins s σ H Q I q => h.run pins s σ H Q I (i σ H Q q)⟩
theorem PW.imp {X : Cx} {e : Expr} {t t' : TT} (h : PW X e t) (i : ∀ σ H Q, t' σ H Q → t σ H Q) : PW X e t' := ⟨fun wh pins s σ H Q I q => h.run wh pins s σ H Q I (i σ H Q q)⟩
theorem PA.imp {X : Cx} {es : List Expr} {t t' : TA} (h : PA X es t) (i : ∀ σ H Q, t' σ H Q → t σ H Q) : PA X es t' := ⟨fun pos pins s σ H Q I q => h.run pos pins s σ H Q I (i σ H Q q)⟩
theorem PS.imp {X : Cx} {st : Stmt} {t t' : TS} (h : PS X st t) (i : ∀ D σ H, t' D σ H → t D σ H) : PS X st t' := ⟨fun pins s σ H D I q => h.run pins s σ H D I (i D σ H q)⟩
theorem PSs.imp {X : Cx} {st : List Stmt} {t t' : TS} (h : PSs X st t) (i : ∀ D σ H, t' D σ H → t D σ H) : PSs X st t' := ⟨fun pins s σ H D I q => h.run pins s σ H D I (i D σ H q)⟩
/-- a piece, then what follows -/
theorem rd_bind {α β γ δ : Type} {rel : List Addr → Hp → α → β → Prop} {rel' : List Addr → Hp → γ → δ → Prop} {K : PySem.W.Frag} {G : Cg} {W : WX} {F : Hp} {ι : List Addr} {env : Env'} {h : EH} {σ : St} {H : Hp} {m : M α} {f : α → EH → R γ} {Q : δ → Hp → Prop} {Q1 : β → Hp → Prop}
    (en : EnvR K ι H env σ) (sm : Sim K G F ι h H) (p : PostG rel' K G F W σ Q ι H ((m env h).bind f))
    (k : ∀ ι1 H1 h1 x v, Ext ι H ι1 H1 → Sim K G F ι1 h1 H1 → rel ι1 H1 x v → PostG rel' K G F W σ Q ι1 H1 (f x h1) → Q1 v H1) : rdG rel K G W m σ H Q1 := by
  refine ⟨F, ι, env, h, en, sm, ?_⟩
  cases e : m env h with
  | ok x h1 =>
    rw [e] at p
    exact fun ι1 H1 v x1 s1 r1 => k ι1 H1 h1 x v x1 s1 r1 (PostG.ext x1 p)
  | exc c fs h1 =>
    rw [e] at p
    exact p
  | bad =>
    rw [e] at p
    exact p

/-! ### pieces -/
def mVar (i : Nat) : M Val := fun env h => match env[i]? with
  | some (some v) => .ok v h
  | _ => .bad
def mCst (v : Val) : M Val := fun _ h => .ok v h
def m1 (op : Val → EH → R Val) (a : M Val) : M Val := fun env h => (a env h).bind op
def m2 (op : Val → Val → EH → R Val) (a b : M Val) : M Val := fun env h => (a env h).bind fun x h1 => (b env h1).bind fun y h2 => op x y h2
/-- a truth as a value, a value that is a truth -/
def asB (x : Val) (h : EH) : R Bool := match x with
  | .d (.bl b) => .ok b h
  | _ => .bad
def mB (a : M Val) : M Bool := fun env h => (a env h).bind asB
def mTruth (a : M Val) : M Bool := fun env h => (a env h).bind fun x h1 => match truth x h1 with
  | some b => .ok b h1
  | none => .bad
def mNot (a : M Bool) : M Bool := fun env h => (a env h).bind fun b h1 => .ok (!b) h1
def mVal (a : M Bool) : M Val := fun env h => (a env h).bind fun b h1 => okB b h1
def mAnd (a b : M Bool) : M Bool := fun env h => (a env h).bind fun x h1 => if x = true then b env h1 else .ok false h1
def mOr (a b : M Bool) : M Bool := fun env h => (a env h).bind fun x h1 => if x = true then .ok true h1 else b env h1
def mAndV (a b : M Val) : M Val := fun env h => (a env h).bind fun x h1 => (asB x h1).bind fun k h2 => if k = true then b env h2 else okB false h2
def mOrV (a b : M Val) : M Val := fun env h => (a env h).bind fun x h1 => (asB x h1).bind fun k h2 => if k = true then okB true h2 else b env h2
def mNotV (a : M Val) : M Val := fun env h => (a env h).bind fun x h1 => (asB x h1).bind fun k h2 => okB (!k) h2
def mIf {α : Type} (t : M Bool) (a b : M α) : M α := fun env h => (t env h).bind fun x h1 => if x = true then a env h1 else b env h1
def mChain (op op' : Val → Val → EH → R Val) (a b c : M Val) : M Val := fun env h => (a env h).bind fun x h1 => (b env h1).bind fun y h2 => (op x y h2).bind fun z h3 => (asB z h3).bind fun k h4 =>
  if k = true then (c env h4).bind fun w h5 => op' y w h5 else okB false h4
def mNil : M (List Val) := fun _ h => .ok [] h
def mCons (a : M Val) (r : M (List Val)) : M (List Val) := fun env h => (a env h).bind fun x h1 => (r env h1).bind fun xs h2 => .ok (x :: xs) h2
def mStar (a : M Val) (r : M (List Val)) : M (List Val) := fun env h => (a env h).bind fun x h1 => match getS x h1 with
  | some ys => (r env h1).bind fun xs h2 => .ok (ys ++ xs) h2
  | none => .bad
def mTup (r : M (List Val)) : M Val := fun env h => (r env h).bind newT
def mLst (r : M (List Val)) : M Val := fun env h => (r env h).bind newL
def mIdx (a b : M Val) : M Val := m2 opIdx a b
/-- a slice's part -/
def mPart (o : Option (M Val)) : M (Option Int) := fun env h => match o with
  | none => .ok none h
  | some a => (a env h).bind fun x h1 => match x with
    | .d (.int i) => .ok (some i) h1
    | _ => .bad
def mSlice (a : M Val) (lo hi : M (Option Int)) : M Val := fun env h => (a env h).bind fun x h1 => (lo env h1).bind fun l h2 => (hi env h2).bind fun u h3 => opSlice x l u h3
/-- an attribute of an instance -/
def getF (f : Nat) : List (Nat × Val) → Option Val
  | [] => none
  | (g, v) :: r => if Nat.beq g f = true then some v else getF f r
def insAt (x : Val) (h : EH) : Option (Nat × Nat × List (Nat × Val)) := match x with
  | .r n => match h[n]? with
    | some (.ins c fs) => some (n, c, fs)
    | _ => none
  | _ => none
def mFld (a : M Val) (f : Nat) : M Val := fun env h => (a env h).bind fun x h1 => match insAt x h1 with
  | some (_, _, fs) => match getF f fs with
    | some v => .ok v h1
    | none => .bad
  | none => .bad

section
variable {X : Cx} {G : Cg} {W : WX} {a b c : Expr} {ma mb mc : M Val} {ta tb : M Bool} {pos : Pos}
theorem re_var {i : Nat} {x : Str} (hN : X.N[i]? = some x) (hv : Vis X.env.scope x) (hd : (x == ("__debug__" : Str)) = false) (hcd : (x == ("__classdict__" : Str)) = false) : PE X (.Name x pos) (rdE X.K G W (mVar i)) :=
  PE.imp (pe_var hN hv hd hcd) fun σ H Q ⟨F, ι, env, h, en, sm, p⟩ => by
    unfold mVar at p
    split at p
    · rename_i v e
      obtain ⟨w, e1, r⟩ := en.2 i v e
      exact ⟨w, e1, p.val sm r⟩
    · exact p.elim
theorem re_cst {x : D} {v : V} (hp : PE X a (tC v)) (hr : ∀ H, RD X.K H x v) : PE X a (rdE X.K G W (mCst (.d x))) :=
  PE.imp hp fun σ H Q ⟨F, ι, env, h, en, sm, p⟩ => PostG.val (x := Val.d x) (v := v) p sm (hr H)
theorem re_int {i : Int} {j : Nat} : PE X (.Constant (.int i) j pos) (rdE X.K G W (mCst (.d (.int i)))) := re_cst pe_int fun _ => rfl
theorem re_bl {i : Bool} {j : Nat} : PE X (.Constant (.bool i) j pos) (rdE X.K G W (mCst (.d (.bl i)))) := re_cst pe_bl fun _ => rfl
theorem re_non {j : Nat} : PE X (.Constant .none j pos) (rdE X.K G W (mCst (.d .non))) := re_cst pe_non fun _ => rfl
theorem re_str {z : Str} {j : Nat} : PE X (.Constant (.str z) j pos) (rdE X.K G W (mCst (.d (.str z.cps.toList)))) := re_cst pe_str fun _ => by
  show V.str z = V.str _
  rw [show (⟨z.cps.toList.toArray⟩ : Str) = z from TL.mk_tl z]
/-- a module's constant -/
theorem re_glob {x : Str} {d : D} {v : V} {u : Value} (hg : Gl X x) (hm : X.mg x = some u) (r : RelV v u) (rd : ∀ H, RD X.K H d v) (hd : (x == ("__debug__" : Str)) = false) : PE X (.Name x pos) (rdE X.K G W (mCst (.d d))) := re_cst (pe_glob hg hm r hd) rd
theorem re_op1 {op : UnaryOp} {o : Val → EH → R Val} (ho : Op1 X G W (unaryOp op) o) (ha : PE X a (rdE X.K G W ma)) : PE X (.UnaryOp op a pos) (rdE X.K G W (m1 o ma)) := by
  refine ⟨fun pins s σ H Q I ⟨F, ι, env, h, en, sm, p⟩ => ?_⟩
  refine UnaryOp_ (thn (ha.run pins s σ H _ I (rd_bind (Q1 := fun v H1 => ∃ ι1 h1 x, Sim X.K G F ι1 h1 H1 ∧ RV X.K ι1 H1 x v ∧ PostE X.K G F W σ Q ι1 H1 (o x h1)) en sm p fun ι1 H1 h1 x v _ s1 r1 p1 => ⟨ι1, h1, x, s1, r1, p1⟩))
    fun u s1 ⟨v, H1, I1, r1, ι1, h1, x, sm1, rx, p1⟩ => ?_)
  exact ho I1 sm1 rx r1 p1
/-- two pieces in a row -/
theorem bin2 {α : Type} {Qf : α → Shared → Prop} (ha : PE X a (rdE X.K G W ma)) (hb : PE X b (rdE X.K G W mb)) {pins : List (Addr × Obj)} {s : Shared} {σ : St} {H F : Hp} {ι : List Addr} {env : Env'} {h : EH} {γ δ : Type} {rel' : List Addr → Hp → γ → δ → Prop} {Q : δ → Hp → Prop} {o : Val → Val → EH → R γ}
    {f : Value → Value → Sem α} (I : Inv X pins σ H s) (en : EnvR X.K ι H env σ) (sm : Sim X.K G F ι h H) (p : PostG rel' X.K G F W σ Q ι H ((ma env h).bind fun x h1 => (mb env h1).bind fun y h2 => o x y h2))
    (k : ∀ u1 u2 s2 v1 v2 x y ι2 H2 h2, Inv X pins σ H2 s2 → Ext ι H ι2 H2 → Sim X.K G F ι2 h2 H2 → RV X.K ι2 H2 x v1 → RV X.K ι2 H2 y v2 → RelV v1 u1 → RelV v2 u2 → PostG rel' X.K G F W σ Q ι2 H2 (o x y h2) → wpAny (model X.prog X.w) X.A (f u1 u2) Qf X.xe s2) :
    wpAny (model X.prog X.w) X.A (eval a X.env) (fun v s₁ => wpAny (model X.prog X.w) X.A (eval b X.env) (fun u s₂ => wpAny (model X.prog X.w) X.A (f v u) Qf X.xe s₂) X.xe s₁) X.xe s := by
  refine thn (ha.run pins s σ H _ I (rd_bind (Q1 := fun v H1 => ∃ ι1 h1 x, Ext ι H ι1 H1 ∧ Sim X.K G F ι1 h1 H1 ∧ RV X.K ι1 H1 x v ∧ PostG rel' X.K G F W σ Q ι1 H1 ((mb env h1).bind fun y h2 => o x y h2)) en sm p
    fun ι1 H1 h1 x v e1 s1 r1 p1 => ⟨ι1, h1, x, e1, s1, r1, p1⟩)) fun u1 s1 ⟨v1, H1, I1, q1, ι1, h1, x, e1, sm1, rx, p1⟩ => ?_
  refine thn (hb.run pins s1 σ H1 _ I1 (rd_bind (Q1 := fun v H2 => ∃ ι2 h2 y, Ext ι1 H1 ι2 H2 ∧ Sim X.K G F ι2 h2 H2 ∧ RV X.K ι2 H2 y v ∧ PostG rel' X.K G F W σ Q ι2 H2 (o x y h2)) (en.ext e1) sm1 p1
    fun ι2 H2 h2 y v e2 s2 r2 p2 => ⟨ι2, h2, y, e2, s2, r2, p2⟩)) fun u2 s2 ⟨v2, H2, I2, q2, ι2, h2, y, e2, sm2, ry, p2⟩ => ?_
  exact k u1 u2 s2 v1 v2 x y ι2 H2 h2 I2 (e1.trans e2) sm2 (rx.ext e2) ry q1 q2 p2
theorem re_op2 {op : Operator} {o : Val → Val → EH → R Val} (ho : Op2 X G W (binaryOp op) o) (ha : PE X a (rdE X.K G W ma)) (hb : PE X b (rdE X.K G W mb)) : PE X (.BinOp a op b pos) (rdE X.K G W (m2 o ma mb)) := by
  refine ⟨fun pins s σ H Q I ⟨F, ι, env, h, en, sm, p⟩ => ?_⟩
  exact wpAny_BinOp (bin2 ha hb I en sm p fun u1 u2 s2 v1 v2 x y ι2 H2 h2 I2 _ sm2 rx ry q1 q2 p2 => ho I2 sm2 rx ry q1 q2 p2)
theorem re_cmp {op : CmpOp} {o : Val → Val → EH → R Val} (ho : Op2 X G W (compareOp op) o) (ha : PE X a (rdE X.K G W ma)) (hb : PE X b (rdE X.K G W mb)) (hm : behindInMarks op b = false) : PE X (.Compare a [op] [b] pos) (rdE X.K G W (m2 o ma mb)) := by
  refine ⟨fun pins s σ H Q I ⟨F, ι, env, h, en, sm, p⟩ => ?_⟩
  exact wpAny_Compare1 (bin2 ha hb I en sm p fun u1 u2 s2 v1 v2 x y ι2 H2 h2 I2 _ sm2 rx ry q1 q2 p2 => ho I2 sm2 rx ry q1 q2 p2) hm
/-- a value that is to be a truth -/
theorem isB {K : PySem.W.Frag} {F : Hp} {σ : St} {ι1 : List Addr} {H1 : Hp} {v : V} {γ δ : Type} {rel' : List Addr → Hp → γ → δ → Prop} {x : Val} {h1 : EH} {f : Bool → EH → R γ} {Q' : δ → Hp → Prop}
    (rx : RV K ι1 H1 x v) (p : PostG rel' K G F W σ Q' ι1 H1 ((asB x h1).bind f)) : ∃ k, x = .d (.bl k) ∧ v = .bl k ∧ PostG rel' K G F W σ Q' ι1 H1 (f k h1) := by
  unfold asB at p
  split at p
  · cases rx
    exact ⟨_, rfl, rfl, p⟩
  · exact p.elim
theorem bindAssoc {α β γ : Type} (r : R α) (f : α → EH → R β) (g : β → EH → R γ) : (r.bind f).bind g = r.bind fun x h => (f x h).bind g := by
  cases r <;> rfl
theorem bind_ok' {α : Type} (r : R α) : r.bind (fun x h => .ok x h) = r := by
  cases r <;> rfl
theorem rt_cmp {op : CmpOp} {o : Val → Val → EH → R Val} (ho : Op2 X G W (compareOp op) o) (ha : PE X a (rdE X.K G W ma)) (hb : PE X b (rdE X.K G W mb)) (hm : behindInMarks op b = false) : PT X (.Compare a [op] [b] pos) (rdT X.K G W (mB (m2 o ma mb))) := by
  refine ⟨fun pins s σ H Q I ⟨F, ι, env, h, en, sm, p⟩ => ?_⟩
  unfold mB m2 at p
  rw [bindAssoc] at p
  simp only [bindAssoc] at p
  refine wpAny_isTrue_Compare1 (bin2 ha hb I en sm p fun u1 u2 s2 v1 v2 x y ι2 H2 h2 I2 e2 sm2 rx ry q1 q2 p2 => ?_) hm
  refine thn (ho (Q := fun v H3 => ∃ k, v = .bl k ∧ Q k H3) I2 sm2 rx ry q1 q2 (by
    cases e : o x y h2 with
    | ok z h3 =>
      rw [e] at p2
      refine fun ι3 H3 v e3 sm3 r3 => ?_
      have p3 : PostG RB X.K G F W σ Q ι3 H3 ((asB z h3).bind fun k h4 => .ok k h4) := by
        rw [bind_ok']
        exact PostG.ext e3 p2
      obtain ⟨k, rfl, rfl, p4⟩ := isB r3 p3
      exact ⟨k, rfl, p4.val sm3 rfl⟩
    | exc c fs h3 =>
      rw [e] at p2
      exact p2
    | bad =>
      rw [e] at p2
      exact p2)) fun u s3 ⟨v, H3, I3, r3, k, ek, q3⟩ => ?_
  subst ek
  cases r3
  exact wpAny_truthy_bool ⟨H3, I3, q3⟩
/-- plain tests -/
theorem rt_truth (he : ∀ whole, isTrue a X.env whole = (do let v ← whole; standAt a.pos; holding [v] (truthy v))) (ha : PE X a (rdE X.K G W ma)) : PT X a (rdT X.K G W (mTruth ma)) :=
  PT.imp (pt_truth ha he) fun σ H Q ⟨F, ι, env, h, en, sm, p⟩ => rd_bind en sm p fun ι1 H1 h1 x v e1 sm1 r1 p1 => by
    split at p1
    · rename_i k ek
      exact ⟨k, truth_ok ek sm1 r1, p1.val sm1 rfl⟩
    · exact p1.elim
theorem rt_not (ha : PT X a (rdT X.K G W ta)) : PT X (.UnaryOp .Not a pos) (rdT X.K G W (mNot ta)) :=
  PT.imp (pt_not ha) fun σ H Q ⟨F, ι, env, h, en, sm, p⟩ => rd_bind en sm p fun ι1 H1 h1 x v e1 sm1 r1 p1 => by
    cases r1
    exact p1.val sm1 rfl
theorem rw_and1 (ha : PT X a (rdT X.K G W ta)) : PW X (.BoolOp .And [a] pos) (rdT X.K G W ta) := pw_and1 ha
theorem rw_or1 (ha : PT X a (rdT X.K G W ta)) : PW X (.BoolOp .Or [a] pos) (rdT X.K G W ta) := pw_or1 ha
theorem rw_and {rest : List Expr} (ha : PT X a (rdT X.K G W ta)) (hb : PW X (.BoolOp .And (b :: rest) pos) (rdT X.K G W tb)) : PW X (.BoolOp .And (a :: b :: rest) pos) (rdT X.K G W (mAnd ta tb)) :=
  PW.imp (pw_and ha hb) fun σ H Q ⟨F, ι, env, h, en, sm, p⟩ => rd_bind en sm p fun ι1 H1 h1 x v e1 sm1 r1 p1 => by
    cases r1
    cases x with
    | true =>
      rw [if_pos rfl] at p1 ⊢
      exact ⟨F, ι1, env, h1, en.ext e1, sm1, p1⟩
    | false =>
      rw [if_neg (by decide)] at p1 ⊢
      exact p1.val sm1 rfl
theorem rw_or {rest : List Expr} (ha : PT X a (rdT X.K G W ta)) (hb : PW X (.BoolOp .Or (b :: rest) pos) (rdT X.K G W tb)) : PW X (.BoolOp .Or (a :: b :: rest) pos) (rdT X.K G W (mOr ta tb)) :=
  PW.imp (pw_or ha hb) fun σ H Q ⟨F, ι, env, h, en, sm, p⟩ => rd_bind en sm p fun ι1 H1 h1 x v e1 sm1 r1 p1 => by
    cases r1
    cases x with
    | false =>
      rw [if_neg (by decide)] at p1 ⊢
      exact ⟨F, ι1, env, h1, en.ext e1, sm1, p1⟩
    | true =>
      rw [if_pos rfl] at p1 ⊢
      exact p1.val sm1 rfl
theorem re_one {op : BoolOp} (ha : PE X a (rdE X.K G W ma)) : PE X (.BoolOp op [a] pos) (rdE X.K G W ma) := pe_one ha
theorem re_and {rest : List Expr} (ha : PE X a (rdE X.K G W ma)) (hb : PE X (.BoolOp .And (b :: rest) pos) (rdE X.K G W mb)) : PE X (.BoolOp .And (a :: b :: rest) pos) (rdE X.K G W (mAndV ma mb)) :=
  PE.imp (pe_and ha hb) fun σ H Q ⟨F, ι, env, h, en, sm, p⟩ => rd_bind en sm p fun ι1 H1 h1 x v e1 sm1 r1 p1 => by
    obtain ⟨k, rfl, rfl, p2⟩ := isB r1 p1
    refine ⟨k, rfl, ?_⟩
    cases k with
    | true =>
      rw [if_pos rfl] at p2 ⊢
      exact ⟨F, ι1, env, h1, en.ext e1, sm1, p2⟩
    | false =>
      rw [if_neg (by decide)] at p2 ⊢
      exact PostG.val (v := V.bl false) p2 sm1 rfl
theorem re_or {rest : List Expr} (ha : PE X a (rdE X.K G W ma)) (hb : PE X (.BoolOp .Or (b :: rest) pos) (rdE X.K G W mb)) : PE X (.BoolOp .Or (a :: b :: rest) pos) (rdE X.K G W (mOrV ma mb)) :=
  PE.imp (pe_or ha hb) fun σ H Q ⟨F, ι, env, h, en, sm, p⟩ => rd_bind en sm p fun ι1 H1 h1 x v e1 sm1 r1 p1 => by
    obtain ⟨k, rfl, rfl, p2⟩ := isB r1 p1
    refine ⟨k, rfl, ?_⟩
    cases k with
    | true =>
      rw [if_pos rfl] at p2 ⊢
      exact PostG.val (v := V.bl true) p2 sm1 rfl
    | false =>
      rw [if_neg (by decide)] at p2 ⊢
      exact ⟨F, ι1, env, h1, en.ext e1, sm1, p2⟩
theorem re_not (ha : PE X a (rdE X.K G W ma)) : PE X (.UnaryOp .Not a pos) (rdE X.K G W (mNotV ma)) :=
  PE.imp (pe_not ha) fun σ H Q ⟨F, ι, env, h, en, sm, p⟩ => rd_bind en sm p fun ι1 H1 h1 x v e1 sm1 r1 p1 => by
    obtain ⟨k, rfl, rfl, p2⟩ := isB r1 p1
    exact ⟨k, rfl, PostG.val (v := V.bl (!k)) p2 sm1 rfl⟩
theorem re_if {t : Expr} (ht : PT X t (rdT X.K G W ta)) (ha : PE X a (rdE X.K G W ma)) (hb : PE X b (rdE X.K G W mb)) : PE X (.IfExp t a b pos) (rdE X.K G W (mIf ta ma mb)) :=
  PE.imp (pe_ifExp ht ha hb) fun σ H Q ⟨F, ι, env, h, en, sm, p⟩ => rd_bind en sm p fun ι1 H1 h1 x v e1 sm1 r1 p1 => by
    cases r1
    cases x with
    | true =>
      rw [if_pos rfl] at p1 ⊢
      exact ⟨F, ι1, env, h1, en.ext e1, sm1, p1⟩
    | false =>
      rw [if_neg (by decide)] at p1 ⊢
      exact ⟨F, ι1, env, h1, en.ext e1, sm1, p1⟩

/-! ### argument lists, displays -/
variable {e : Expr} {es : List Expr} {me : M Val} {mr : M (List Val)}
theorem ra_nil : PA X [] (rdA X.K G W mNil) := PA.imp pa_nil fun σ H Q ⟨F, ι, env, h, en, sm, p⟩ => PostG.val (x := ([] : List Val)) (v := ([] : List V)) p sm rfl
theorem ra_cons (hs : starEach (e :: es) X.env = (false, eval e X.env) :: starEach es X.env) (he : PE X e (rdE X.K G W me)) (hr : PA X es (rdA X.K G W mr)) : PA X (e :: es) (rdA X.K G W (mCons me mr)) :=
  PA.imp (pa_cons he hr hs) fun σ H Q ⟨F, ι, env, h, en, sm, p⟩ => rd_bind en sm p fun ι1 H1 h1 x v e1 sm1 r1 p1 =>
    rd_bind (en.ext e1) sm1 p1 fun ι2 H2 h2 xs vs e2 sm2 r2 p2 => PostG.val (x := x :: xs) (v := v :: vs) p2 sm2 ⟨v, vs, rfl, r1.ext e2, r2⟩
theorem ra_star {q : Pos} (he : PE X e (rdE X.K G W me)) (hr : PA X es (rdA X.K G W mr)) : PA X (.Starred e q :: es) (rdA X.K G W (mStar me mr)) :=
  PA.imp (StX.pa_star he hr rfl) fun σ H Q ⟨F, ι, env, h, en, sm, p⟩ => rd_bind en sm p fun ι1 H1 h1 x v e1 sm1 r1 p1 => by
    split at p1
    · rename_i ys eS
      obtain ⟨a, vs, rfl, h2, h3⟩ := getS_ok eS sm1 r1
      exact ⟨a, vs, rfl, h2.symm, rd_bind (en.ext e1) sm1 p1 fun ι2 H2 h2 xs ws e2 sm2 r2 p2 => PostG.val (x := ys ++ xs) (v := vs ++ ws) p2 sm2 ((h3.ext e2).append r2)⟩
    · exact p1.elim
theorem re_tup {k : Nat} (hr : PA X es (rdA X.K G W mr)) : PE X (.Tuple es k pos) (rdE X.K G W (mTup mr)) :=
  PE.imp (pe_tup hr) fun σ H Q ⟨F, ι, env, h, en, sm, p⟩ => rd_bind en sm p fun ι1 H1 h1 x v e1 sm1 r1 p1 =>
    let z := PostE.newT p1 sm1 r1
    ⟨z.1, z.2.1⟩
theorem re_lst (hr : PA X es (rdA X.K G W mr)) : PE X (.List es pos) (rdE X.K G W (mLst mr)) :=
  PE.imp (pe_lst hr) fun σ H Q ⟨F, ι, env, h, en, sm, p⟩ => rd_bind en sm p fun ι1 H1 h1 x v e1 sm1 r1 p1 => PostE.newL p1 sm1 r1
theorem re_idx (hu : X.A.units + 1 < cLine) (hs : PlainIx b) (ha : PE X a (rdE X.K G W ma)) (hb : PE X b (rdE X.K G W mb)) : PE X (.Subscript a b pos) (rdE X.K G W (mIdx ma mb)) := by
  refine ⟨fun pins s σ H Q I ⟨F, ι, env, h, en, sm, p⟩ => ?_⟩
  exact Subscript_ (bin2 ha hb I en sm p fun u1 u2 s2 v1 v2 x y ι2 H2 h2 I2 _ sm2 rx ry q1 q2 p2 => idx_ok hu I2 sm2 rx ry q1 q2 p2 (hs _ _))
abbrev RO : List Addr → Hp → Option Int → Option Int → Prop := fun _ _ o o' => o' = o
abbrev rdO (K : PySem.W.Frag) (G : Cg) (W : WX) (m : M (Option Int)) : TO := rdG RO K G W m
theorem PO.imp {e : Option Expr} {t t' : TO} (h : PO X e t) (i : ∀ σ H Q, t' σ H Q → t σ H Q) : PO X e t' := ⟨fun pins s σ H Q I q => h.run pins s σ H Q I (i σ H Q q)⟩
theorem ro_none : PO X none (rdO X.K G W (mPart none)) := PO.imp po_none fun σ H Q ⟨F, ι, env, h, en, sm, p⟩ => PostG.val (x := (none : Option Int)) (v := (none : Option Int)) p sm rfl
theorem ro_some (he : PE X e (rdE X.K G W me)) : PO X (some e) (rdO X.K G W (mPart (some me))) :=
  PO.imp (po_some he) fun σ H Q ⟨F, ι, env, h, en, sm, p⟩ => rd_bind en sm p fun ι1 H1 h1 x v e1 sm1 r1 p1 => by
    split at p1
    · cases r1
      exact ⟨_, rfl, p1.val sm1 rfl⟩
    · exact p1.elim
/-- what a slice's rule wants: any simulation -/
def rSl (K : PySem.W.Frag) (G : Cg) (W : WX) (σ : St) : V → Option Int → Option Int → Hp → VK → Prop := fun v lo hi H Q => ∃ F ι h x, Sim K G F ι h H ∧ RV K ι H x v ∧ PostE K G F W σ Q ι H (opSlice x lo hi h)
theorem re_slice {lo hi : Option Expr} {ml mh : M (Option Int)} {p2 : Pos} (he : PE X e (rdE X.K G W me)) (hl : PO X lo (rdO X.K G W ml)) (hh : PO X hi (rdO X.K G W mh)) : PE X (.Subscript e (.Slice lo hi none p2) pos) (rdE X.K G W (mSlice me ml mh)) := by
  have hr2 : SlR X (fun v lo hi H Q => ∃ σ', rSl X.K G W σ' v lo hi H Q) := by
    intro pins s σ H x v vl vu lo hi sl Q I rx hs pl pu ⟨σ', F, ι, h, y, sm, ry, p⟩
    refine slice_ok (W := W) (G := G) I sm ry rx hs pl pu ?_
    cases e : opSlice y lo hi h with
    | ok z h' =>
      rw [e] at p
      exact p
    | exc c fs h' =>
      exfalso
      unfold opSlice newT newL at e
      repeat' split at e
      all_goals cases e
    | bad =>
      rw [e] at p
      exact p
  refine PE.imp (pe_slice hr2 he hl hh) fun σ H Q ⟨F, ι, env, h, en, sm, p⟩ => rd_bind en sm p fun ι1 H1 h1 x v e1 sm1 r1 p1 => rd_bind (en.ext e1) sm1 p1 fun ι2 H2 h2 l l' e2 sm2 r2 p2 =>
    rd_bind ((en.ext e1).ext e2) sm2 p2 fun ι3 H3 h3 u u' e3 sm3 r3 p3 => by
      cases r2
      cases r3
      exact ⟨σ, F, ι3, h3, x, sm3, (r1.ext e2).ext e3, p3⟩
theorem getF_ok {K : PySem.W.Frag} {ι : List Addr} {H : Hp} {f : Nat} (inj : ∀ g, G.att g = G.att f → g = f) : ∀ {fs : List (Nat × Val)} {vs : List (Str × V)}, FF K G ι H fs vs →
    (getF f fs = none ∧ vs.lookup (G.att f) = none) ∨ ∃ x v, getF f fs = some x ∧ vs.lookup (G.att f) = some v ∧ RV K ι H x v
  | [], _, .nil => .inl ⟨rfl, rfl⟩
  | (g, x) :: fs, (n, v) :: vs, .cons q r => by
    have q1 : G.att g = n := q.1
    have q2 : RV K ι H x v := q.2
    subst q1
    unfold getF
    by_cases e : g = f
    · subst e
      rw [if_pos (Nat.beq_refl _), List.lookup_cons_self]
      exact .inr ⟨x, v, rfl, rfl, q2⟩
    · rw [if_neg (fun z => e (Nat.eq_of_beq_eq_true z)), List.lookup_cons]
      have e2 : (G.att f == G.att g) = false := by
        rw [beq_eq_false_iff_ne]
        exact fun z => e (inj g z.symm)
      rw [e2]
      exact getF_ok inj r
theorem insAt_ok {K : PySem.W.Frag} {F : Hp} {ι : List Addr} {H : Hp} {h : EH} {x : Val} {v : V} {n c : Nat} {fs : List (Nat × Val)} (e : insAt x h = some (n, c, fs)) (sm : Sim K G F ι h H) (r : RV K ι H x v) :
    ∃ a dx vs, c < G.nc ∧ x = .r n ∧ h[n]? = some (.ins c fs) ∧ ι[n]? = some a ∧ v = .ref a ∧ H a = some (.ins (G.cls c) dx vs) ∧ FF K G ι H fs vs := by
  cases x with
  | r m =>
    have e1 : (match h[m]? with
      | some (.ins c fs) => some (m, c, fs)
      | _ => none) = some (n, c, fs) := e
    split at e1
    · rename_i c' fs' e2
      cases e1
      obtain ⟨a, ha, rfl⟩ := r
      obtain ⟨hc, dx, vs, h1, h2⟩ := sm.atA e2 ha
      exact ⟨a, dx, vs, hc, rfl, e2, ha, rfl, h1, h2⟩
    · cases e1
  | _ => cases e
/-- an attribute: the classes' facts -/
theorem re_fld {f : Nat} (hb : attributeBase e (G.att f) X.env (eval e X.env) = eval e X.env) (inj : ∀ g, G.att g = G.att f → g = f) (hc : ∀ c, c < G.nc → Cls X.K (G.cls c)) (hn : ∀ c, c < G.nc → NoAttr X.K (G.cls c) (G.att f)) (he : PE X e (rdE X.K G W me)) :
    PE X (.Attribute e (G.att f) pos) (rdE X.K G W (mFld me f)) :=
  PE.imp (pe_fld he hb) fun σ H Q ⟨F, ι, env, h, en, sm, p⟩ => rd_bind en sm p fun ι1 H1 h1 x v e1 sm1 r1 p1 => by
    split at p1
    · rename_i n c fs ei
      obtain ⟨a, dx, vs, hlt, _, _, _, rfl, hi, ff⟩ := insAt_ok ei sm1 r1
      rcases getF_ok inj ff with ⟨z, _⟩ | ⟨y, w, z1, z2, z3⟩
      · rw [z] at p1
        exact p1.elim
      · rw [z1] at p1
        exact ⟨a, _, dx, vs, w, rfl, hi, hc c hlt, hn c hlt, z2, p1.val sm1 z3⟩
    · exact p1.elim
end
end Ev

set_option Elab.async false
set_option linter.all false
set_option maxRecDepth 100000
set_option maxHeartbeats 4000000
/-! Ev, 6: rules for targets, statements, by pieces of the evaluator. -/
namespace Ev
open PySem PySem.Spec PyProof.Rows L2

/-- what comes of a statement -/
inductive RS where
  | nx (env : Env') (h : EH) | rt (v : Val) (h : EH) | bk (env : Env') (h : EH) | ct (env : Env') (h : EH) | exc (c : Nat) (fs : List D) (env : Env') (h : EH) | bad
abbrev MS := Env' → EH → RS
def RS.bind (r : RS) (f : MS) : RS := match r with
  | .nx env h => f env h
  | r => r
/-- a piece of an expression, then a statement -/
def R.run {α : Type} (r : R α) (env : Env') (f : α → EH → RS) : RS := match r with
  | .ok x h => f x h
  | .exc c fs h => .exc c fs env h
  | .bad => .bad
def PostS (K : PySem.W.Frag) (G : Cg) (F : Hp) (W : WX) (D : Ends) (ι : List Addr) (H : Hp) : RS → Prop
  | .nx env h => ∀ ι' H' σ', Ext ι H ι' H' → EnvR K ι' H' env σ' → Sim K G F ι' h H' → D.nx σ' H'
  | .rt x h => ∀ ι' H' v, Ext ι H ι' H' → Sim K G F ι' h H' → RV K ι' H' x v → D.rt v H'
  | .bk env h => ∀ ι' H' σ', Ext ι H ι' H' → EnvR K ι' H' env σ' → Sim K G F ι' h H' → D.bk σ' H'
  | .ct env h => ∀ ι' H' σ', Ext ι H ι' H' → EnvR K ι' H' env σ' → Sim K G F ι' h H' → D.ct σ' H'
  | .exc c fs env h => ∀ ι' H' σ' cv d, Ext ι H ι' H' → EnvR K ι' H' env σ' → Sim K G F ι' h H' → XR K G H' c fs cv d → W cv d σ' H'
  | .bad => False
theorem PostS.ext {K : PySem.W.Frag} {G : Cg} {F : Hp} {W : WX} {D : Ends} {ι ι' : List Addr} {H H' : Hp} (x : Ext ι H ι' H') : ∀ {r : RS}, PostS K G F W D ι H r → PostS K G F W D ι' H' r
  | .nx _ _, p => fun ι2 H2 σ e en s => p ι2 H2 σ (x.trans e) en s
  | .rt _ _, p => fun ι2 H2 v e s r => p ι2 H2 v (x.trans e) s r
  | .bk _ _, p => fun ι2 H2 σ e en s => p ι2 H2 σ (x.trans e) en s
  | .ct _ _, p => fun ι2 H2 σ e en s => p ι2 H2 σ (x.trans e) en s
  | .exc _ _ _ _, p => fun ι2 H2 σ cv d e en s r => p ι2 H2 σ cv d (x.trans e) en s r
  | .bad, p => p
def rdS (K : PySem.W.Frag) (G : Cg) (W : WX) (m : MS) : TS := fun D σ H => ∃ F ι env h, EnvR K ι H env σ ∧ Sim K G F ι h H ∧ PostS K G F W D ι H (m env h)
section
variable {K : PySem.W.Frag} {G : Cg} {F : Hp} {W : WX} {D : Ends} {ι : List Addr} {H : Hp} {h : EH} {env : Env'} {σ : St}
/-- an expression's reading, from what is wanted behind the statement -/
theorem rs_run {α β : Type} {rel : List Addr → Hp → α → β → Prop} {m : M α} {f : α → EH → RS} {Q1 : β → Hp → Prop} (en : EnvR K ι H env σ) (sm : Sim K G F ι h H) (p : PostS K G F W D ι H ((m env h).run env f))
    (k : ∀ ι1 H1 h1 x v, Ext ι H ι1 H1 → Sim K G F ι1 h1 H1 → rel ι1 H1 x v → PostS K G F W D ι1 H1 (f x h1) → Q1 v H1) : rdG rel K G W m σ H Q1 := by
  refine ⟨F, ι, env, h, en, sm, ?_⟩
  cases e : m env h with
  | ok x h1 =>
    rw [e] at p
    exact fun ι1 H1 v x1 s1 r1 => k ι1 H1 h1 x v x1 s1 r1 (PostS.ext x1 p)
  | exc c fs h1 =>
    rw [e] at p
    exact fun ι1 H1 cv d x1 s1 r1 => p ι1 H1 σ cv d x1 (en.ext x1) s1 r1
  | bad =>
    rw [e] at p
    exact p
end

/-! ### targets -/
abbrev RE (K : PySem.W.Frag) : List Addr → Hp → Env' → St → Prop := fun ι H env σ => EnvR K ι H env σ
/-- what a target does with a value -/
abbrev MT := Val → Env' → EH → R Env'
def rdTG (K : PySem.W.Frag) (G : Cg) (W : WX) (m : MT) : TG := fun v σ H Q => ∃ F ι env h x, EnvR K ι H env σ ∧ Sim K G F ι h H ∧ RV K ι H x v ∧ PostG (RE K) K G F W σ Q ι H (m x env h)
abbrev MTs := List Val → Env' → EH → R Env'
def rdTGs (K : PySem.W.Frag) (G : Cg) (W : WX) (m : MTs) : TGs := fun vs σ H Q => ∃ F ι env h xs, EnvR K ι H env σ ∧ Sim K G F ι h H ∧ RVs K ι H xs vs ∧ PostG (RE K) K G F W σ Q ι H (m xs env h)
def tgName (i : Nat) : MT := fun x env h => .ok (env.set i (some x)) h
def tgNil : MTs := fun xs env h => match xs with
  | [] => .ok env h
  | _ => .bad
def noX {α : Type} : R α → R α
  | .exc _ _ _ => .bad
  | r => r
def tgCons (t : MT) (r : MTs) : MTs := fun xs env h => match xs with
  | x :: ys => (noX (t x env h)).bind fun env1 h1 => noX (r ys env1 h1)
  | _ => .bad
def tgTup (n : Nat) (t : MTs) : MT := fun x env h => match asT x with
  | some xs => if Nat.beq xs.length n = true then noX (t xs env h) else .bad
  | none => .bad
section
variable {X : Cx} {G : Cg} {W : WX} {pos : Pos}
theorem PG.imp {e : Expr} {t t' : TG} (h : PG X e t) (i : ∀ v σ H Q, t' v σ H Q → t v σ H Q) : PG X e t' := ⟨fun pins s σ H v u Q I r q => h.run pins s σ H v u Q I r (i v σ H Q q)⟩
theorem PGs.imp {es : List Expr} {t t' : TGs} (h : PGs X es t) (i : ∀ v σ H Q, t' v σ H Q → t v σ H Q) : PGs X es t' := ⟨fun pins s σ H v u Q I r q => h.run pins s σ H v u Q I r (i v σ H Q q)⟩
theorem rg_name {i : Nat} {x : Str} (hN : X.N.Nodup) (hi : X.N[i]? = some x) (hx : Loc X.env.scope x) (hf : X.fn x = true ∨ X.env.scope.names.lookup x = some .local) : PG X (.Name x pos) (rdTG X.K G W (tgName i)) :=
  PG.imp (pg_name hN hi hx hf) fun v σ H Q ⟨F, ι, env, h, x, en, sm, r, p⟩ => PostG.val (x := env.set i (some x)) (v := σ.set i (some v)) p sm (en.set i r)
theorem rgs_nil : PGs X [] (rdTGs X.K G W tgNil) :=
  PGs.imp pgs_nil fun vs σ H Q ⟨F, ι, env, h, xs, en, sm, r, p⟩ => by
    unfold tgNil at p
    split at p
    · exact ⟨r, p.val sm en⟩
    · exact p.elim
theorem noX_post {α β : Type} {rel : List Addr → Hp → α → β → Prop} {K : PySem.W.Frag} {F : Hp} {σ σ' : St} {W' : WX} {Q : β → Hp → Prop} {ι : List Addr} {H : Hp} {r : R α} (p : PostG rel K G F W σ Q ι H (noX r)) : PostG rel K G F W' σ' Q ι H (noX r) := by
  cases r with
  | ok x h => exact p
  | exc c fs h => exact p
  | bad => exact p
theorem noX_un {α β : Type} {rel : List Addr → Hp → α → β → Prop} {K : PySem.W.Frag} {F : Hp} {σ σ' : St} {W' : WX} {Q : β → Hp → Prop} {ι : List Addr} {H : Hp} {r : R α} (p : PostG rel K G F W σ Q ι H (noX r)) : PostG rel K G F W' σ' Q ι H r := by
  cases r with
  | ok x h => exact p
  | exc c fs h => exact p.elim
  | bad => exact p
theorem rgs_cons {e : Expr} {es : List Expr} {t : MT} {u : MTs} (hs : (assignEach (e :: es) X.env).map (·.2) = assign e X.env :: (assignEach es X.env).map (·.2)) (h1 : PG X e (rdTG X.K G W t)) (h2 : PGs X es (rdTGs X.K G W u)) : PGs X (e :: es) (rdTGs X.K G W (tgCons t u)) :=
  PGs.imp (pgs_cons h1 h2 hs) fun vs σ H Q ⟨F, ι, env, h, xs, en, sm, r, p⟩ => by
    unfold tgCons at p
    split at p
    · rename_i x ys
      obtain ⟨v, ws, rfl, r1, r2⟩ := r
      refine ⟨v, ws, rfl, F, ι, env, h, x, en, sm, r1, ?_⟩
      cases e1 : t x env h with
      | ok env1 h1 =>
        rw [e1] at p
        have p : PostG (RE X.K) X.K G F W σ Q ι H (noX (u ys env1 h1)) := p
        exact fun ι1 H1 σ1 x1 s1 en1 => ⟨F, ι1, env1, h1, ys, en1, s1, RVs.ext x1 r2, noX_un (PostG.ext x1 p)⟩
      | exc c fs h1 =>
        rw [e1] at p
        exact p.elim
      | bad =>
        rw [e1] at p
        exact p.elim
    · exact p.elim
theorem rg_tup {es : List Expr} {k : Nat} {t : MTs} {n : Nat} (hc : X.calm = true) (hn : (assignEach es X.env).length = n) (hst : (assignEach es X.env).findIdx? (·.1) = none) (h : PGs X es (rdTGs X.K G W t)) : PG X (.Tuple es k pos) (rdTG X.K G W (tgTup n t)) :=
  PG.imp (pg_tup hc h hn hst) fun v σ H Q ⟨F, ι, env, h, x, en, sm, r, p⟩ => by
    unfold tgTup at p
    split at p
    · rename_i xs eT
      split at p
      · rename_i e1
        obtain ⟨a, vs, rfl, h1, h2⟩ := asT_ok eT r
        exact ⟨a, vs, rfl, h1, by rw [← h2.len]; exact Nat.eq_of_beq_eq_true e1, F, ι, env, h, xs, en, sm, h2, noX_un p⟩
      · exact p.elim
    · exact p.elim
end

/-! ### stores -/
/-- o[i] = v, by values -/
def opSet (o i v : Val) (h : EH) : R Unit := match o with
  | .r n => match h[n]? with
    | some (.lst xs) => match i with
      | .d (.int k) => match ixN xs.length k with
        | some j => .ok () (h.set n (.lst (xs.set j v)))
        | none => .bad
      | _ => .bad
    | some (.dk kvs) => match i with
      | .d k => if (key0 k).isSome && fitsL kvs.length then .ok () (h.set n (.dk (putD kvs k v))) else .bad
      | _ => .bad
    | some (.dt kvs) => match i with
      | .d k => if (keyT k).isSome && fitsL kvs.length then .ok () (h.set n (.dt (putD kvs k v))) else .bad
      | _ => .bad
    | _ => .bad
  | _ => .bad
/-- o.f = v, by values -/
def setF (f : Nat) (v : Val) : List (Nat × Val) → List (Nat × Val)
  | [] => [(f, v)]
  | (g, w) :: r => if Nat.beq g f = true then (g, v) :: r else (g, w) :: setF f v r
def opSetF (o : Val) (f : Nat) (v : Val) (h : EH) : R Unit := match insAt o h with
  | some (n, c, fs) => if Nat.blt fs.length 1000 = true then .ok () (h.set n (.ins c (setF f v fs))) else .bad
  | none => .bad
abbrev RU : List Addr → Hp → Unit → Unit → Prop := fun _ _ _ _ => True
def mSub (o i : M Val) : MT := fun v env h => (o env h).bind fun ov h1 => (i env h1).bind fun iv h2 => (opSet ov iv v h2).bind fun _ h3 => .ok env h3
def mAtt (o : M Val) (f : Nat) : MT := fun v env h => (o env h).bind fun ov h1 => (opSetF ov f v h1).bind fun _ h2 => .ok env h2
section
variable {X : Cx} {G : Cg} {W : WX} {pos : Pos}
theorem set_ok (hu : X.A.units + 1 < cLine) {pins : List (Addr × Obj)} {s : Shared} {σ : St} {H F : Hp} {ι : List Addr} {h : EH} {o i v : Val} {vo vi vv : V} {uo ui uv : Value} {Q : Unit → Hp → Prop} (I : Inv X pins σ H s) (sm : Sim X.K G F ι h H) (ro : RV X.K ι H o vo)
    (ri : RV X.K ι H i vi) (rv : RV X.K ι H v vv) (eo : RelV vo uo) (ei : RelV vi ui) (ev : RelV vv uv) (p : PostG RU X.K G F W σ Q ι H (opSet o i v h)) :
    wpAny (model X.prog X.w) X.A (setItem uo ui uv) (fun _ s' => ∃ H', Inv X pins σ H' s' ∧ Q () H') X.xe s := by
  have fin : ∀ {n : Nat} {a : Addr} {b b0 : Ob} {ob : HO}, PostG RU X.K G F W σ Q ι H (.ok () (h.set n b)) → h[n]? = some b0 → wr b0 = true → ι[n]? = some a → ObR X.K G ι (upd H a ob) a b → Q () (upd H a ob) := fun p hn w ha hb => by
    exact p ι _ () (Ext.imm (sm.immSet hn w ha)) (sm.set hn w ha hb) trivial
  unfold opSet at p
  split at p
  · rename_i n
    split at p
    · rename_i xs en
      split at p
      · rename_i k
        split at p
        · rename_i j ej
          cases ri
          obtain ⟨a, ha, rfl⟩ := ro
          obtain ⟨vs, h1, h2⟩ := sm.atA en ha
          refine set_list pins s σ H _ _ vv uo ui uv (fun H' => Q () H') I eo ei ev ⟨a, vs, k, j, rfl, rfl, h1, by rw [← h2.len]; exact ej, ?_⟩
          exact fin p en rfl ha ⟨_, upd_same, (h2.set j rv).ext (Ext.imm (sm.immSet en rfl ha))⟩
        · exact p.elim
      · exact p.elim
    · rename_i kvs en
      split at p
      · rename_i k
        split at p
        · rename_i e1
          obtain ⟨e1, e2⟩ := Bool.and_eq_true_iff.mp e1
          obtain ⟨kk, hk⟩ := Option.isSome_iff_exists.mp e1
          obtain ⟨a, ha, rfl⟩ := ro
          obtain ⟨ks, h1, h2⟩ := sm.atA en ha
          rw [key0_rd hk ri] at ei
          obtain rfl : uo = Value.ref a := eo
          refine d_setItem hu I (DPut.k h1 (by rw [← KK.len h2]; exact fitsL_lt e2)) ei ev fun s' I' => ⟨_, I', ?_⟩
          exact fin p en rfl ha ⟨_, upd_same, KK.ext (Ext.imm (sm.immSet en rfl ha)) (h2.put (fun {a b k} => key0_inj) hk rv)⟩
        · exact p.elim
      · exact p.elim
    · rename_i kvs en
      split at p
      · rename_i k
        split at p
        · rename_i e1
          obtain ⟨e1, e2⟩ := Bool.and_eq_true_iff.mp e1
          obtain ⟨kk, hk⟩ := Option.isSome_iff_exists.mp e1
          obtain ⟨a, ha, rfl⟩ := ro
          obtain ⟨ks, h1, h2⟩ := sm.atA en ha
          obtain ⟨b, rfl, hb⟩ := keyT_rd hk ri
          obtain rfl : uo = Value.ref a := eo
          refine d_setItem hu I (DPut.t h1 hb (by rw [← KK.len h2]; exact fitsL_lt e2)) ei ev fun s' I' => ⟨_, I', ?_⟩
          exact fin p en rfl ha ⟨_, upd_same, KK.ext (Ext.imm (sm.immSet en rfl ha)) (h2.put (fun {a b k} => keyT_inj) hk rv)⟩
        · exact p.elim
      · exact p.elim
    · exact p.elim
  · exact p.elim
theorem FF.put {K : PySem.W.Frag} {ι : List Addr} {H : Hp} {f : Nat} {x : Val} {v : V} (inj : ∀ g, G.att g = G.att f → g = f) (r : RV K ι H x v) : ∀ {fs : List (Nat × Val)} {vs : List (Str × V)}, FF K G ι H fs vs → FF K G ι H (setF f x fs) (putF (G.att f) v vs)
  | [], _, .nil => .cons ⟨rfl, r⟩ .nil
  | (g, y) :: fs, (n, w) :: vs, .cons q qs => by
    have q1 : G.att g = n := q.1
    unfold setF putF
    by_cases e : g = f
    · subst e
      rw [if_pos (Nat.beq_refl _), if_pos q1.symm]
      exact .cons ⟨q1, r⟩ qs
    · rw [if_neg (fun z => e (Nat.eq_of_beq_eq_true z)), if_neg (fun z => e (inj g (q1.trans z)))]
      exact .cons q (FF.put inj r qs)
theorem setF_ok {f : Nat} (inj : ∀ g, G.att g = G.att f → g = f) (hc : ∀ c, c < G.nc → Cls X.K (G.cls c)) (hn : ∀ c, c < G.nc → NoAttr X.K (G.cls c) (G.att f)) {pins : List (Addr × Obj)} {s : Shared} {σ : St} {H F : Hp} {ι : List Addr} {h : EH} {o v : Val} {vo vv : V} {uo uv : Value} {Q : Unit → Hp → Prop} (I : Inv X pins σ H s) (sm : Sim X.K G F ι h H) (ro : RV X.K ι H o vo)
    (rv : RV X.K ι H v vv) (eo : RelV vo uo) (ev : RelV vv uv) (p : PostG RU X.K G F W σ Q ι H (opSetF o f v h)) :
    wpAny (model X.prog X.w) X.A (setAttr uo (G.att f) uv) (fun _ s' => ∃ H', Inv X pins σ H' s' ∧ Q () H') X.xe s := by
  unfold opSetF at p
  split at p
  · rename_i n c fs ei
    split at p
    · rename_i hl
      obtain ⟨a, dx, vs, hlt, _, en, ha, rfl, hi, ff⟩ := insAt_ok ei sm ro
      obtain rfl : uo = Value.ref a := eo
      refine setattr_ok I hi (hc c hlt) (hn c hlt) (by rw [← Paired.length ff]; exact Nat.le_of_ble_eq_true hl) ev fun s' I' => ⟨_, I', ?_⟩
      exact p ι _ () (Ext.imm (sm.immSet en rfl ha)) (sm.set en rfl ha ⟨hlt, _, _, upd_same, FF.ext (Ext.imm (sm.immSet en rfl ha)) (ff.put inj rv)⟩) trivial
    · exact p.elim
  · exact p.elim
theorem rg_sub {o i : Expr} {mo mi : M Val} (hu : X.A.units + 1 < cLine) (ho : PE X o (rdE X.K G W mo)) (hi : PE X i (rdE X.K G W mi)) : PG X (.Subscript o i pos) (rdTG X.K G W (mSub mo mi)) := by
  refine ⟨fun pins s σ H v u Q I r ⟨F, ι, env, h, x, en, sm, rx, p⟩ => ?_⟩
  rw [arm_assign_Subscript]
  unfold mSub at p
  refine wpAny_bind (wpAny_holding (thn (ho.run pins s σ H _ I (rd_bind (rel := RV X.K) (Q1 := fun v H1 => ∃ ι1 h1 y, Ext ι H ι1 H1 ∧ Sim X.K G F ι1 h1 H1 ∧ RV X.K ι1 H1 y v ∧ PostG (RE X.K) X.K G F W σ Q ι1 H1 ((mi env h1).bind fun iv h2 => (opSet y iv x h2).bind fun _ h3 => .ok env h3)) en sm p
    fun ι1 H1 h1 y v e1 s1 r1 p1 => ⟨ι1, h1, y, e1, s1, r1, p1⟩)) fun ov s1 ⟨vo, H1, I1, q1, ι1, h1, y, e1, sm1, ry, p1⟩ => ?_))
  refine wpAny_bind (wpAny_holding (thn (hi.run pins s1 σ H1 _ I1 (rd_bind (rel := RV X.K) (Q1 := fun v H2 => ∃ ι2 h2 z, Ext ι1 H1 ι2 H2 ∧ Sim X.K G F ι2 h2 H2 ∧ RV X.K ι2 H2 z v ∧ PostG (RE X.K) X.K G F W σ Q ι2 H2 ((opSet y z x h2).bind fun _ h3 => .ok env h3)) (en.ext e1) sm1 p1
    fun ι2 H2 h2 z v e2 s2 r2 p2 => ⟨ι2, h2, z, e2, s2, r2, p2⟩)) fun iv s2 ⟨vi, H2, I2, q2, ι2, h2, z, e2, sm2, rz, p2⟩ => ?_))
  refine wpAny_bind (wpAny_standAt (wpAny_bind (wpAny_holding (thn (set_ok (W := W) (Q := fun _ H3 => Q σ H3) hu I2 sm2 (ry.ext e2) rz ((rx.ext e1).ext e2) q1 q2 r ?_) fun _ s3 ⟨H3, I3, q3⟩ => ?_))))
  · cases e : opSet y z x h2 with
    | ok u h3 =>
      rw [e] at p2
      exact fun ι3 H3 _ e3 s3 _ => PostG.val (rel := RE X.K) (x := env) (PostG.ext e3 p2) s3 (((en.ext e1).ext e2).ext e3)
    | exc c fs h3 =>
      rw [e] at p2
      exact p2
    | bad =>
      rw [e] at p2
      exact p2
  · exact wpAny_release ⟨σ, H3, I3, q3⟩
theorem rg_att {o : Expr} {mo : M Val} {f : Nat} (inj : ∀ g, G.att g = G.att f → g = f) (hc : ∀ c, c < G.nc → Cls X.K (G.cls c)) (hn : ∀ c, c < G.nc → NoAttr X.K (G.cls c) (G.att f)) (ho : PE X o (rdE X.K G W mo)) :
    PG X (.Attribute o (G.att f) pos) (rdTG X.K G W (mAtt mo f)) := by
  refine ⟨fun pins s σ H v u Q I r ⟨F, ι, env, h, x, en, sm, rx, p⟩ => ?_⟩
  rw [arm_assign_Attribute]
  unfold mAtt at p
  refine wpAny_bind (wpAny_holding (thn (ho.run pins s σ H _ I (rd_bind (rel := RV X.K) (Q1 := fun v H1 => ∃ ι1 h1 y, Ext ι H ι1 H1 ∧ Sim X.K G F ι1 h1 H1 ∧ RV X.K ι1 H1 y v ∧ PostG (RE X.K) X.K G F W σ Q ι1 H1 ((opSetF y f x h1).bind fun _ h2 => .ok env h2)) en sm p
    fun ι1 H1 h1 y v e1 s1 r1 p1 => ⟨ι1, h1, y, e1, s1, r1, p1⟩)) fun ov s1 ⟨vo, H1, I1, q1, ι1, h1, y, e1, sm1, ry, p1⟩ => ?_))
  refine wpAny_bind (wpAny_standAt (wpAny_bind (wpAny_holding (thn (setF_ok (W := W) (Q := fun _ H3 => Q σ H3) inj hc hn I1 sm1 ry (rx.ext e1) q1 r ?_) fun _ s3 ⟨H3, I3, q3⟩ => ?_))))
  · cases e : opSetF y f x h1 with
    | ok u h3 =>
      rw [e] at p1
      exact fun ι3 H3 _ e3 s3 _ => PostG.val (rel := RE X.K) (x := env) (PostG.ext e3 p1) s3 ((en.ext e1).ext e3)
    | exc c fs h3 =>
      rw [e] at p1
      exact p1
    | bad =>
      rw [e] at p1
      exact p1
  · exact wpAny_release ⟨σ, H3, I3, q3⟩
end

/-! ### statements -/
def sSeq (a b : MS) : MS := fun env h => (a env h).bind b
def sNext : MS := fun env h => .nx env h
def sExpr (a : M Val) : MS := fun env h => (a env h).run env fun _ h1 => .nx env h1
def sRet (a : M Val) : MS := fun env h => (a env h).run env fun x h1 => .rt x h1
def sIf (t : M Bool) (a b : MS) : MS := fun env h => (t env h).run env fun k h1 => if k = true then a env h1 else b env h1
def sAsg (a : M Val) (t : MT) : MS := fun env h => (a env h).run env fun x h1 => (t x env h1).run env fun env2 h2 => .nx env2 h2
section
variable {X : Cx} {G : Cg} {W : WX} {pos : Pos} {st : Stmt} {rest : List Stmt} {a b : MS} {e : Expr} {me : M Val}
theorem rss_nil : PSs X [] (rdS X.K G W sNext) := PSs.imp pss_nil fun D σ H ⟨F, ι, env, h, en, sm, p⟩ => p ι H σ (Ext.refl _ _) en sm
theorem rss_cons (h1 : PS X st (rdS X.K G W a)) (h2 : PSs X rest (rdS X.K G W b)) : PSs X (st :: rest) (rdS X.K G W (sSeq a b)) :=
  PSs.imp (pss_cons h1 h2) fun D σ H ⟨F, ι, env, h, en, sm, p⟩ => by
    refine ⟨F, ι, env, h, en, sm, ?_⟩
    have p : PostS X.K G F W D ι H ((a env h).bind b) := p
    cases e : a env h with
    | nx env1 h1 =>
      rw [e] at p
      exact fun ι1 H1 σ1 x1 en1 s1 => ⟨F, ι1, env1, h1, en1, s1, PostS.ext x1 p⟩
    | rt v h1 =>
      rw [e] at p
      exact p
    | bk env1 h1 =>
      rw [e] at p
      exact p
    | ct env1 h1 =>
      rw [e] at p
      exact p
    | exc c fs env1 h1 =>
      rw [e] at p
      exact p
    | bad =>
      rw [e] at p
      exact p
theorem rs_pass : PS X (.Pass pos) (rdS X.K G W sNext) := PS.imp ps_pass fun D σ H ⟨F, ι, env, h, en, sm, p⟩ => p ι H σ (Ext.refl _ _) en sm
theorem rs_break : PS X (.Break pos) (rdS X.K G W fun env h => .bk env h) := PS.imp ps_break fun D σ H ⟨F, ι, env, h, en, sm, p⟩ => p ι H σ (Ext.refl _ _) en sm
theorem rs_cont : PS X (.Continue pos) (rdS X.K G W fun env h => .ct env h) := PS.imp ps_continue fun D σ H ⟨F, ι, env, h, en, sm, p⟩ => p ι H σ (Ext.refl _ _) en sm
theorem rs_expr (hs : swapsWith e none pos.line X.env = pure false) (he : PE X e (rdE X.K G W me)) : PS X (.Expr e pos) (rdS X.K G W (sExpr me)) :=
  PS.imp (ps_expr he hs) fun D σ H ⟨F, ι, env, h, en, sm, p⟩ => rs_run en sm p fun ι1 H1 h1 x v e1 s1 r1 p1 => p1 ι1 H1 σ (Ext.refl _ _) (en.ext e1) s1
theorem rs_ret (he : PE X e (rdE X.K G W me)) : PS X (.Return (some e) pos) (rdS X.K G W (sRet me)) :=
  PS.imp (ps_ret he) fun D σ H ⟨F, ι, env, h, en, sm, p⟩ => rs_run en sm p fun ι1 H1 h1 x v e1 s1 r1 p1 => p1 ι1 H1 v (Ext.refl _ _) s1 r1
theorem rs_retN : PS X (.Return none pos) (rdS X.K G W fun _ h => .rt (.d .non) h) := PS.imp ps_retN fun D σ H ⟨F, ι, env, h, en, sm, p⟩ => p ι H .non (Ext.refl _ _) sm rfl
theorem rs_if {c : Expr} {A B : List Stmt} {mc : M Bool} (hc : PT X c (rdT X.K G W mc)) (ha : PSs X A (rdS X.K G W a)) (hb : PSs X B (rdS X.K G W b)) : PS X (.If c A B pos) (rdS X.K G W (sIf mc a b)) :=
  PS.imp (ps_if hc ha hb) fun D σ H ⟨F, ι, env, h, en, sm, p⟩ => rs_run en sm p fun ι1 H1 h1 x v e1 s1 r1 p1 => by
    cases r1
    cases x with
    | true =>
      rw [if_pos rfl] at p1 ⊢
      exact ⟨F, ι1, env, h1, en.ext e1, s1, p1⟩
    | false =>
      rw [if_neg (by decide)] at p1 ⊢
      exact ⟨F, ι1, env, h1, en.ext e1, s1, p1⟩
theorem asg_post {t : MT} {D : Ends} {σ : St} {H F : Hp} {ι : List Addr} {env : Env'} {h : EH} {x : Val} {v : V} (en : EnvR X.K ι H env σ) (sm : Sim X.K G F ι h H) (r : RV X.K ι H x v) (p : PostS X.K G F W D ι H ((t x env h).run env fun env2 h2 => .nx env2 h2)) : rdTG X.K G W t v σ H D.nx := by
  refine ⟨F, ι, env, h, x, en, sm, r, ?_⟩
  cases e : t x env h with
  | ok env1 h1 =>
    rw [e] at p
    exact fun ι1 H1 σ1 x1 s1 en1 => p ι1 H1 σ1 x1 en1 s1
  | exc c fs h1 =>
    rw [e] at p
    exact fun ι1 H1 cv d x1 s1 xr => p ι1 H1 σ cv d x1 (en.ext x1) s1 xr
  | bad =>
    rw [e] at p
    exact p
theorem rs_asg {tg : Expr} {t : MT} (hs : swapsWithSole [tg] e pos.line X.env = pure false) (hw : swappedStores [tg] e X.env = pure none) (h1 : (assignEach [tg] X.env).map (·.2) = [assign tg X.env]) (he : PE X e (rdE X.K G W me)) (hg : PG X tg (rdTG X.K G W t)) :
    PS X (.Assign [tg] e pos) (rdS X.K G W (sAsg me t)) :=
  PS.imp (ps_asg he hg hs hw h1) fun D σ H ⟨F, ι, env, h, en, sm, p⟩ => rs_run en sm p fun ι1 H1 h1 x v e1 s1 r1 p1 => asg_post (en.ext e1) s1 r1 p1
end
end Ev

set_option Elab.async false
set_option linter.all false
set_option maxRecDepth 100000
set_option maxHeartbeats 4000000
/-! Ev, 7: what is walked, loops, comprehensions. -/
namespace Ev
open PySem PySem.Spec PyProof.Rows L2

/-! ### what is walked -/
/-- seq: items that stand still; live: a list as it stands at each turn; zip: two of them -/
inductive Src where
  | seq (xs : List Val) | live (x : Val) | enum (x : Val) | zip (x y : Val)
/-- the i-th: none: not told; some none: the end -/
def Src.at : Src → Nat → EH → Option (Option Val)
  | .seq xs, i, _ => some xs[i]?
  | .live x, i, h => (getS x h).map fun xs => xs[i]?
  | .enum x, i, h => (getS x h).map fun xs => xs[i]?.map fun y => mkT [.d (.int i), y]
  | .zip x y, i, h => match getS x h, getS y h with
    | some xs, some ys => some (match xs[i]?, ys[i]? with
      | some a, some b => some (mkT [a, b])
      | _, _ => none)
    | _, _ => none
/-- J goes as src does, from (ι₀, H₀) on -/
def RI (K : PySem.W.Frag) (G : Cg) : List Addr → Hp → Src → It → Prop := fun ι₀ H₀ src J => ∀ (F : Hp) (i : Nat) (ι : List Addr) (h : EH) (H : Hp), Ext ι₀ H₀ ι H → Sim K G F ι h H →
  (src.at i h = some none → J.stop i H) ∧ ∀ x, src.at i h = some (some x) → J.go i H ∧ ∀ v H', J.yld i H v H' → Ext ι H ι H' ∧ Sim K G F ι h H' ∧ RV K ι H' x v ∧ (∀ a o, H a = some o → H' a = some o)
abbrev rdI (K : PySem.W.Frag) (G : Cg) (W : WX) (m : M Src) : TI := rdG (RI K G) K G W m
theorem PI.imp {X : Cx} {tg e : Expr} {t t' : TI} (h : PI X tg e t) (i : ∀ σ H Q, t' σ H Q → t σ H Q) : PI X tg e t' := ⟨fun pins s σ H R I q => h.run pins s σ H R I (i σ H R q)⟩
section
variable {X : Cx} {G : Cg} {W : WX} {pos : Pos} {tg e : Expr} {me : M Val}
theorem same_refl (H : Hp) : ∀ a o, H a = some o → H a = some o := fun _ _ h => h
theorem RVs.none_at {K : PySem.W.Frag} {ι : List Addr} {H : Hp} {xs : List Val} {vs : List V} {i : Nat} (r : RVs K ι H xs vs) (e : xs[i]? = none) : vs.length ≤ i := by
  rw [← r.len]
  exact List.getElem?_eq_none_iff.mp e
theorem ri_tup {K : PySem.W.Frag} {ι : List Addr} {H : Hp} {a : Addr} {xs : List Val} {vs : List V} (h : SqT K H a vs) (r : RVs K ι H xs vs) : RI K G ι H (.seq xs) (Itt K a) := fun F i ι1 h1 H1 x1 sm => by
  have h2 := SqT.imm x1.2 h
  have r2 := r.ext x1
  refine ⟨fun e => ⟨vs, h2, r2.none_at (Option.some.inj e)⟩, fun x e => ?_⟩
  obtain ⟨v, e1, e2⟩ := r2.get (Option.some.inj e)
  refine ⟨⟨vs, v, h2, e1⟩, fun w H' y => ?_⟩
  obtain ⟨rfl, y⟩ := y
  have := y vs h2
  rw [e1] at this
  cases this
  exact ⟨Ext.refl _ _, sm, e2, same_refl _⟩
theorem ri_live {K : PySem.W.Frag} {ι : List Addr} {H : Hp} {x : Val} {v : V} {a : Addr} (e : v = .ref a) (r : RV K ι H x v) (nT : asT x = none) : RI K G ι H (.live x) (Itl K a) := fun F i ι1 h1 H1 x1 sm => by
  subst e
  have r1 := r.ext x1
  have key : ∀ xs, getS x h1 = some xs → ∃ vs, SqL K H1 a vs ∧ RVs K ι1 H1 xs vs := fun xs e => by
    unfold getS at e
    rw [nT] at e
    cases q2 : getL x h1 with
    | some ys =>
      simp only [q2] at e
      cases e
      obtain ⟨b, n, vs, _, _, _, e1, e2, e3⟩ := getL_ok q2 sm r1
      cases e1
      exact ⟨vs, SqL.of e2, e3⟩
    | none =>
      simp only [q2] at e
      obtain ⟨b, vs, e1, e2, e3⟩ := getZ_ok e sm r1
      cases e1
      exact ⟨vs, e2, e3⟩
  refine ⟨fun e => ?_, fun y e => ?_⟩
  · obtain ⟨xs, e1, e2⟩ := Option.map_eq_some_iff.mp e
    obtain ⟨vs, h1, h2⟩ := key xs e1
    exact ⟨vs, h1, h2.none_at e2⟩
  · obtain ⟨xs, e1, e2⟩ := Option.map_eq_some_iff.mp e
    obtain ⟨vs, h1, h2⟩ := key xs e1
    obtain ⟨w, e3, e4⟩ := h2.get e2
    refine ⟨⟨vs, w, h1, e3⟩, fun u H' yl => ?_⟩
    obtain ⟨rfl, yl⟩ := yl
    have := yl vs h1
    rw [e3] at this
    cases this
    exact ⟨Ext.refl _ _, sm, e4, same_refl _⟩
theorem yPair {K : PySem.W.Frag} {F : Hp} {ι : List Addr} {h : EH} {H : Hp} {x y : Val} {v w : V} {T : Addr} (sm : Sim K G F ι h H) (hT : H T = none) (rx : RV K ι H x v) (ry : RV K ι H y w) :
    Ext ι H ι (upd H T (.tup [v, w])) ∧ Sim K G F ι h (upd H T (.tup [v, w])) ∧ RV K ι (upd H T (.tup [v, w])) (mkT [x, y]) (.ref T) ∧ ∀ a o, H a = some o → upd H T (.tup [v, w]) a = some o := by
  have x1 : Ext ι H ι (upd H T (.tup [v, w])) := Ext.imm (Imm.new hT)
  exact ⟨x1, sm.junk hT, mkT_ok ⟨_, _, rfl, rx.ext x1, _, _, rfl, ry.ext x1, rfl⟩ upd_same, fun a o e => by rw [upd_ne (ne_of_none e hT)]; exact e⟩
/-- a list by the layer's reading, from the evaluator's -/
theorem getSL {K : PySem.W.Frag} {F : Hp} {ι : List Addr} {h : EH} {H : Hp} {x : Val} {xs : List Val} {a : Addr} (nT : asT x = none) (sm : Sim K G F ι h H) (r : RV K ι H x (.ref a)) (e : getS x h = some xs) : ∃ vs, SqL K H a vs ∧ RVs K ι H xs vs := by
  unfold getS at e
  rw [nT] at e
  cases q2 : getL x h with
  | some ys =>
    simp only [q2] at e
    cases e
    obtain ⟨b, n, vs, _, _, _, e1, e2, e3⟩ := getL_ok q2 sm r
    cases e1
    exact ⟨vs, SqL.of e2, e3⟩
  | none =>
    simp only [q2] at e
    obtain ⟨b, vs, e1, e2, e3⟩ := getZ_ok e sm r
    cases e1
    exact ⟨vs, e2, e3⟩
theorem ri_enumL {K : PySem.W.Frag} {ι : List Addr} {H : Hp} {x : Val} {a : Addr} (r : RV K ι H x (.ref a)) (nT : asT x = none) : RI K G ι H (.enum x) (Ite K a) := fun F i ι1 h1 H1 x1 sm => by
  have r1 := r.ext x1
  refine ⟨fun e => ?_, fun y e => ?_⟩
  · obtain ⟨xs, e1, e2⟩ := Option.map_eq_some_iff.mp e
    obtain ⟨vs, h1, h2⟩ := getSL nT sm r1 e1
    exact ⟨vs, h1, h2.none_at (Option.map_eq_none_iff.mp e2)⟩
  · obtain ⟨xs, e1, e2⟩ := Option.map_eq_some_iff.mp e
    obtain ⟨vs, h1, h2⟩ := getSL nT sm r1 e1
    obtain ⟨z, e3, rfl⟩ := Option.map_eq_some_iff.mp e2
    obtain ⟨w, e4, e5⟩ := h2.get e3
    refine ⟨⟨vs, w, h1, e4⟩, fun u H' ⟨T, w', eu, hT, eH, yl⟩ => ?_⟩
    subst eu eH
    have := yl vs h1
    rw [e4] at this
    cases this
    exact yPair sm hT rfl e5
theorem ri_zipL {K : PySem.W.Frag} {ι : List Addr} {H : Hp} {x y : Val} {a b : Addr} (r : RV K ι H x (.ref a)) (r' : RV K ι H y (.ref b)) (nT : asT x = none) (nT' : asT y = none) : RI K G ι H (.zip x y) (Itz K a b) := fun F i ι1 h1 H1 x1 sm => by
  have r1 := r.ext x1
  have r2 := r'.ext x1
  refine ⟨fun e => ?_, fun z e => ?_⟩
  · have e : (match getS x h1, getS y h1 with
      | some xs, some ys => some (match xs[i]?, ys[i]? with
        | some a, some b => some (mkT [a, b])
        | _, _ => none)
      | _, _ => none) = some none := e
    split at e
    · rename_i xs ys e1 e2
      obtain ⟨vs, h1, h2⟩ := getSL nT sm r1 e1
      obtain ⟨ws, h3, h4⟩ := getSL nT' sm r2 e2
      refine ⟨vs, ws, h1, h3, ?_⟩
      have e := Option.some.inj e
      split at e
      · cases e
      · rename_i hno
        cases q1 : xs[i]? with
        | none => exact .inl (h2.none_at q1)
        | some z =>
          cases q2 : ys[i]? with
          | none => exact .inr (h4.none_at q2)
          | some z' => exact (hno z z' q1 q2).elim
    · cases e
  · have e : (match getS x h1, getS y h1 with
      | some xs, some ys => some (match xs[i]?, ys[i]? with
        | some a, some b => some (mkT [a, b])
        | _, _ => none)
      | _, _ => none) = some (some z) := e
    split at e
    · rename_i xs ys e1 e2
      obtain ⟨vs, h1, h2⟩ := getSL nT sm r1 e1
      obtain ⟨ws, h3, h4⟩ := getSL nT' sm r2 e2
      have e := Option.some.inj e
      split at e
      · rename_i z1 z2 q1 q2
        cases e
        obtain ⟨v1, e3, e4⟩ := h2.get q1
        obtain ⟨v2, e5, e6⟩ := h4.get q2
        refine ⟨⟨vs, ws, v1, v2, h1, h3, e3, e5⟩, fun u H' ⟨T, w1, w2, eu, hT, eH, y1, y2⟩ => ?_⟩
        subst eu eH
        have z1 := y1 vs h1
        have z2 := y2 ws h3
        rw [e3] at z1
        rw [e5] at z2
        cases z1
        cases z2
        exact yPair sm hT e4 e6
      · cases e
    · cases e
theorem zip_at {α β γ : Type} (f : α → β → γ) : ∀ (xs : List α) (ys : List β) (j : Nat), ((xs.zip ys).map fun p => f p.1 p.2)[j]? = match xs[j]?, ys[j]? with
    | some p, some q => some (f p q)
    | _, _ => none
  | [], ys, j => by simp
  | x :: xs, [], j => by
    simp
  | x :: xs, y :: ys, 0 => by simp
  | x :: xs, y :: ys, j + 1 => by
    rw [List.zip_cons_cons, List.map_cons, List.getElem?_cons_succ, List.getElem?_cons_succ, List.getElem?_cons_succ]
    exact zip_at f xs ys j
theorem ri_zipT {K : PySem.W.Frag} {ι : List Addr} {H : Hp} {a b : Addr} {xs ys : List Val} {vs ws : List V} (ha : SqT K H a vs) (hb : SqT K H b ws) (r : RVs K ι H xs vs) (r' : RVs K ι H ys ws) :
    RI K G ι H (.seq ((xs.zip ys).map fun p => mkT [p.1, p.2])) (RZ.ItzT K a b) := fun F i ι1 h1 H1 x1 sm => by
  have ha2 := SqT.imm x1.2 ha
  have hb2 := SqT.imm x1.2 hb
  have r1 := r.ext x1
  have r2 := r'.ext x1
  have hz : ∀ j : Nat, (((xs.zip ys).map fun p => mkT [p.1, p.2])[j]? : Option Val) = match xs[j]?, ys[j]? with
      | some p, some q => some (mkT [p, q])
      | _, _ => none := fun j => by
    rw [zip_at (fun a b => mkT [a, b])]
    cases xs[j]? <;> cases ys[j]? <;> rfl
  refine ⟨fun e => ?_, fun z e => ?_⟩
  · have e := Option.some.inj (show some _ = some _ from e)
    rw [hz] at e
    split at e
    · cases e
    · rename_i hno
      refine ⟨vs, ws, ha2, hb2, ?_⟩
      cases q1 : xs[i]? with
      | none => exact .inl (r1.none_at q1)
      | some z =>
        cases q2 : ys[i]? with
        | none => exact .inr (r2.none_at q2)
        | some z' => exact (hno z z' q1 q2).elim
  · have e := Option.some.inj (show some _ = some _ from e)
    rw [hz] at e
    split at e
    · rename_i z1 z2 q1 q2
      cases e
      obtain ⟨v1, e3, e4⟩ := r1.get q1
      obtain ⟨v2, e5, e6⟩ := r2.get q2
      refine ⟨⟨vs, ws, v1, v2, ha2, hb2, e3, e5⟩, fun u H' ⟨T, w1, w2, eu, hT, eH, y1, y2⟩ => ?_⟩
      subst eu eH
      have z1 := y1 vs ha2
      have z2 := y2 ws hb2
      rw [e3] at z1
      rw [e5] at z2
      cases z1
      cases z2
      exact yPair sm hT e4 e6
    · cases e
end

/-! ### pieces that are walked -/
/-- a value that is walked -/
def srcOf (x : Val) : Option Src := match x with
  | .d (.str s) => some (.seq (s.map fun c => .d (.str [c])))
  | x => match asT x with
    | some xs => some (.seq xs)
    | none => some (.live x)
def iVal (a : M Val) : M Src := fun env h => (a env h).bind fun x h1 => match x with
  | .d (.str s) => .ok (.seq (s.map fun c => .d (.str [c]))) h1
  | x => match asT x with
    | some xs => .ok (.seq xs) h1
    | none => match getS x h1 with
      | some _ => .ok (.live x) h1
      | none => .bad
def rng (lo : Int) (n : Nat) : List Val := (List.range n).map fun (i : Nat) => .d (.int (lo + i))
def okR (j : Int) : Bool := decide (-(2 ^ 62) ≤ j) && decide (j < 2 ^ 62)
def iRange1 (a : M (List Val)) : M Src := fun env h => (a env h).bind fun xs h1 => match xs with
  | [.d (.int j)] => if okR j = true then .ok (.seq (rng 0 j.toNat)) h1 else .bad
  | _ => .bad
def iRange2 (a : M (List Val)) : M Src := fun env h => (a env h).bind fun xs h1 => match xs with
  | [.d (.int i), .d (.int j)] => if (okR i && okR j) = true then .ok (.seq (rng i (j - i).toNat)) h1 else .bad
  | _ => .bad
def iZip (a : M (List Val)) : M Src := fun env h => (a env h).bind fun xs h1 => match xs with
  | [x, y] => match asT x, asT y with
    | some xs, some ys => .ok (.seq ((xs.zip ys).map fun p => mkT [p.1, p.2])) h1
    | none, none => match getS x h1, getS y h1 with
      | some _, some _ => .ok (.zip x y) h1
      | _, _ => .bad
    | _, _ => .bad
  | _ => .bad
section
variable {X : Cx} {G : Cg} {W : WX} {pos : Pos} {tg e : Expr} {me : M Val} {ma : M (List Val)}
theorem getS_list {K : PySem.W.Frag} {F : Hp} {ι : List Addr} {h : EH} {H : Hp} {x : Val} {xs : List Val} {v : V} (nT : asT x = none) (sm : Sim K G F ι h H) (r : RV K ι H x v) (e : getS x h = some xs) : ∃ a vs, v = .ref a ∧ SqL K H a vs ∧ RVs K ι H xs vs := by
  have e0 := e
  unfold getS at e0
  rw [nT] at e0
  cases q2 : getL x h with
  | some ys =>
    simp only [q2] at e0
    cases e0
    obtain ⟨b, n, vs, _, _, _, e1, e2, e3⟩ := getL_ok q2 sm r
    exact ⟨b, vs, e1, SqL.of e2, e3⟩
  | none =>
    simp only [q2] at e0
    obtain ⟨b, vs, e1, e2, e3⟩ := getZ_ok e0 sm r
    exact ⟨b, vs, e1, e2, e3⟩
theorem ri_str {K : PySem.W.Frag} {ι : List Addr} {H : Hp} {s : List Nat} : RI K G ι H (.seq (s.map fun c => .d (.str [c]))) (Its ⟨s.toArray⟩) := fun F i ι1 h1 H1 x1 sm => by
  refine ⟨fun e => ?_, fun y e => ?_⟩
  · have e := Option.some.inj (show some _ = some _ from e)
    rw [List.getElem?_eq_none_iff, List.length_map] at e
    show (s.toArray).size ≤ i
    simpa using e
  · have e := Option.some.inj (show some _ = some _ from e)
    rw [List.getElem?_map] at e
    obtain ⟨c, e1, rfl⟩ := Option.map_eq_some_iff.mp e
    have hi := (List.getElem?_eq_some_iff.mp e1).1
    refine ⟨by show i < (s.toArray).size; simpa using hi, fun v H' ⟨eH, c', ec, ev⟩ => ?_⟩
    subst eH ev
    have ec : s.toArray[i]? = some c' := ec
    rw [List.getElem?_toArray, e1] at ec
    cases ec
    exact ⟨Ext.refl _ _, sm, rfl, same_refl _⟩
theorem ri_rng {K : PySem.W.Frag} {ι : List Addr} {H : Hp} {lo : Int} {n : Nat} : RI K G ι H (.seq (rng lo n)) (Itr lo n) := fun F i ι1 h1 H1 x1 sm => by
  refine ⟨fun e => ?_, fun y e => ?_⟩
  · have e := Option.some.inj (show some _ = some _ from e)
    unfold rng at e
    rw [List.getElem?_eq_none_iff, List.length_map, List.length_range] at e
    exact e
  · have e := Option.some.inj (show some _ = some _ from e)
    unfold rng at e
    rw [List.getElem?_map] at e
    obtain ⟨c, e1, rfl⟩ := Option.map_eq_some_iff.mp e
    obtain ⟨hi, ec⟩ := List.getElem?_eq_some_iff.mp e1
    rw [List.length_range] at hi
    rw [List.getElem_range] at ec
    subst ec
    refine ⟨hi, fun v H' ⟨eH, ev⟩ => ?_⟩
    subst eH ev
    exact ⟨Ext.refl _ _, sm, rfl, same_refl _⟩
theorem pie_list {pins : List (Addr × Obj)} {s1 : Shared} {σ : St} {H1 : Hp} {R : It → Hp → Prop} {a : Addr} {vs : List V} (I1 : Inv X pins σ H1 s1) (hq : SqL X.K H1 a vs) (q : R (Itl X.K a) H1) : wpAny (model X.prog X.w) X.A (pyIter (.ref a)) (PIE X pins σ tg R) X.xe s1 := by
  obtain ⟨its, rv, p, hz⟩ := I1.list hq
  refine wpAny_pyIter_list p.isList ⟨_, [s1.heap.objs.size], _, _, H1, rfl, I1.kept (t' := s1.toks) (fun b o e => Heap.get?_push_of_some _ e), turn_list a _, ⟨_, Heap.get?_push_size _ rfl, rfl, rfl⟩, ?_, q⟩
  intro b hb
  rw [List.mem_singleton] at hb
  subst hb
  exact I1.fpOk (Nat.le_refl _) (I1.hok.fresh (Nat.le_refl _))
theorem pie_tup {pins : List (Addr × Obj)} {s1 : Shared} {σ : St} {H1 : Hp} {R : It → Hp → Prop} {a : Addr} {vs : List V} (I1 : Inv X pins σ H1 s1) (hq : SqT X.K H1 a vs) (q : R (Itt X.K a) H1) : wpAny (model X.prog X.w) X.A (pyIter (.ref a)) (PIE X pins σ tg R) X.xe s1 := by
  obtain ⟨its, rv, p, hz⟩ := I1.tuple hq
  have p' : s1.heap.IsTuple a its.toArray := p
  refine wpAny_pyIter_tuple p' ⟨_, [s1.heap.objs.size], _, _, H1, rfl, I1.kept (t' := s1.toks) (fun b o e => Heap.get?_push_of_some _ e), turn_tuple a _, ⟨_, Heap.get?_push_size _ rfl, rfl, rfl⟩, ?_, q⟩
  intro b hb
  rw [List.mem_singleton] at hb
  subst hb
  exact I1.fpOk (Nat.le_refl _) (I1.hok.fresh (Nat.le_refl _))
theorem pie_str {pins : List (Addr × Obj)} {s1 : Shared} {σ : St} {H1 : Hp} {R : It → Hp → Prop} {z : Str} {u : Value} (I1 : Inv X pins σ H1 s1) (r : RelV (.str z) u) (q : R (Its z) H1) : wpAny (model X.prog X.w) X.A (pyIter u) (PIE X pins σ tg R) X.xe s1 := by
  obtain ⟨t, rfl⟩ := r
  cases ha : z.cps.all (· < 128) with
  | false => exact wpAny_pyIter_wide ha (pi_one (tk := s1.toks) I1 _ (turn_str _ z t _ (.inr rfl)) ⟨_, Heap.get?_push_size _ rfl, rfl, rfl⟩ q)
  | true => exact wpAny_pyIter_ascii ha (pi_one (tk := s1.toks) I1 _ (turn_str _ z t _ (.inl rfl)) ⟨_, Heap.get?_push_size _ rfl, rfl, rfl⟩ q)
theorem pi_val (he : PE X e (rdE X.K G W me)) : PI X tg e (rdI X.K G W (iVal me)) := by
  refine ⟨fun pins s σ H R I ⟨F, ι, env, h, en, sm, p⟩ => ?_⟩
  unfold iVal at p
  refine thn (he.run pins s σ H _ I (rd_bind (rel := RV X.K) (Q1 := fun v H1 => ((∃ z, v = V.str z ∧ R (Its z) H1) ∨ (∃ a vs, v = .ref a ∧ SqT X.K H1 a vs ∧ R (Itt X.K a) H1)) ∨ ∃ a vs, v = .ref a ∧ SqL X.K H1 a vs ∧ R (Itl X.K a) H1) en sm p
    fun ι1 H1 h1 x v e1 sm1 r1 p1 => ?_)) fun u s1 ⟨v, H1, I1, q1, c⟩ => ?_
  · split at p1
    · cases r1
      exact .inl (.inl ⟨_, rfl, p1.val sm1 ri_str⟩)
    · split at p1
      · rename_i xs eT
        obtain ⟨a, vs, rfl, h2, h3⟩ := asT_ok eT r1
        exact .inl (.inr ⟨a, vs, rfl, h2, p1.val sm1 (ri_tup h2 h3)⟩)
      · rename_i nT
        split at p1
        · rename_i xs eS
          obtain ⟨a, vs, rfl, h2, h3⟩ := getS_list nT sm1 r1 eS
          exact .inr ⟨a, vs, rfl, h2, p1.val sm1 (ri_live rfl r1 nT)⟩
        · exact p1.elim
  · rcases c with (⟨z, ez, q⟩ | ⟨a, vs, ez, hq, q⟩) | ⟨a, vs, ez, hq, q⟩
    · subst ez
      exact pie_str I1 q1 q
    · subst ez
      obtain rfl : u = Value.ref a := q1
      exact pie_tup I1 hq q
    · subst ez
      obtain rfl : u = Value.ref a := q1
      exact pie_list I1 hq q
end
end Ev

set_option Elab.async false
set_option linter.all false
set_option maxRecDepth 100000
set_option maxHeartbeats 4000000
/-! Ev, 8: for, while, comprehensions. -/
namespace Ev
open PySem PySem.Spec PyProof.Rows L2

section
variable {X : Cx} {G : Cg} {W : WX} {pos : Pos} {tg e : Expr} {me : M Val} {ma : M (List Val)}
theorem okR_ok {j : Int} (h : okR j = true) : -(2 ^ 62) ≤ j ∧ j < 2 ^ 62 := by
  obtain ⟨h1, h2⟩ := Bool.and_eq_true_iff.mp h
  exact ⟨of_decide_eq_true h1, of_decide_eq_true h2⟩
theorem vals1 {K : PySem.W.Frag} {ι : List Addr} {H : Hp} {x : Val} {vs : List V} (r : RVs K ι H [x] vs) : ∃ v, vs = [v] ∧ RV K ι H x v := by
  obtain ⟨v, ws, rfl, h1, h2⟩ := r
  cases h2
  exact ⟨v, rfl, h1⟩
theorem vals2 {K : PySem.W.Frag} {ι : List Addr} {H : Hp} {x y : Val} {vs : List V} (r : RVs K ι H [x, y] vs) : ∃ v w, vs = [v, w] ∧ RV K ι H x v ∧ RV K ι H y w := by
  obtain ⟨v, ws, rfl, h1, h2⟩ := r
  obtain ⟨w, rfl, h3⟩ := vals1 h2
  exact ⟨v, w, rfl, h1, h3⟩
theorem ri_range1 {a : Expr} {p : Pos} (hg : Gl X "range") (hm : X.mg "range" = none) (hs : starEach [a] X.env = [(false, eval a X.env)]) (ha : PA X [a] (rdA X.K G W ma)) : PI X tg (.Call (.Name "range" p) [a] [] pos) (rdI X.K G W (iRange1 ma)) :=
  PI.imp (pi_range1 hg hm ha hs) fun σ H R ⟨F, ι, env, h, en, sm, p⟩ => rd_bind en sm p fun ι1 H1 h1 xs vs e1 sm1 r1 p1 => by
    split at p1
    · rename_i j
      split at p1
      · rename_i z
        obtain ⟨v, rfl, rv⟩ := vals1 r1
        cases rv
        exact ⟨j, rfl, (okR_ok z).1, (okR_ok z).2, p1.val sm1 ri_rng⟩
      · exact p1.elim
    · exact p1.elim
theorem ri_range2 {a b : Expr} {p : Pos} (hg : Gl X "range") (hm : X.mg "range" = none) (hs : starEach [a, b] X.env = [(false, eval a X.env), (false, eval b X.env)]) (hs2 : starEach [b] X.env = [(false, eval b X.env)]) (ha : PA X [a, b] (rdA X.K G W ma)) :
    PI X tg (.Call (.Name "range" p) [a, b] [] pos) (rdI X.K G W (iRange2 ma)) :=
  PI.imp (pi_range2 hg hm ha hs hs2) fun σ H R ⟨F, ι, env, h, en, sm, p⟩ => rd_bind en sm p fun ι1 H1 h1 xs vs e1 sm1 r1 p1 => by
    split at p1
    · rename_i i j
      split at p1
      · rename_i z
        obtain ⟨z1, z2⟩ := Bool.and_eq_true_iff.mp z
        obtain ⟨v, w, rfl, rv, rw'⟩ := vals2 r1
        cases rv
        cases rw'
        exact ⟨i, j, rfl, ⟨(okR_ok z1).1, (okR_ok z1).2, (okR_ok z2).1, (okR_ok z2).2⟩, p1.val sm1 ri_rng⟩
      · exact p1.elim
    · exact p1.elim
theorem ri_zip {a b : Expr} {p tpos : Pos} {elts : List Expr} {kk : Nat} (hg : Gl X "zip") (hm : X.mg "zip" = none) (hs : starEach [a, b] X.env = (false, eval a X.env) :: starEach [b] X.env) (hpl : (backTo pos (starEach [b] X.env)).any (·.1) = false) (ha : PA X [a, b] (rdA X.K G W ma)) :
    PI X (.Tuple elts kk tpos) (.Call (.Name "zip" p) [a, b] [] pos) (rdI X.K G W (iZip ma)) :=
  PI.imp (RZ.pi_zipA hg hm ha hs hpl) fun σ H R ⟨F, ι, env, h, en, sm, p⟩ => rd_bind en sm p fun ι1 H1 h1 xs vs e1 sm1 r1 p1 => by
    split at p1
    · rename_i x y
      obtain ⟨v, w, rfl, rv, rw'⟩ := vals2 r1
      split at p1
      · rename_i xs ys e2 e3
        obtain ⟨a, vs, rfl, h2, h3⟩ := asT_ok e2 rv
        obtain ⟨b, ws, rfl, h4, h5⟩ := asT_ok e3 rw'
        exact ⟨a, b, vs, ws, rfl, .inr ⟨h2, h4, p1.val sm1 (ri_zipT h2 h4 h3 h5)⟩⟩
      · rename_i n1 n2
        split at p1
        · rename_i xs ys e2 e3
          obtain ⟨a, vs, rfl, h2, h3⟩ := getS_list n1 sm1 rv e2
          obtain ⟨b, ws, rfl, h4, h5⟩ := getS_list n2 sm1 rw' e3
          exact ⟨a, b, vs, ws, rfl, .inl ⟨h2, h4, p1.val sm1 (ri_zipL rv rw' n1 n2)⟩⟩
        · exact p1.elim
      · exact p1.elim
    · exact p1.elim

/-! ### for -/
/-- what a turn's end does: k is the next turn -/
def RS.turn (r : RS) (k : MS) : RS := match r with
  | .nx env h => k env h
  | .ct env h => k env h
  | .bk env h => .nx env h
  | r => r
def loopG (src : Src) (t : MT) (b : MS) : Nat → Nat → MS
  | 0, _, _, _ => .bad
  | w + 1, i, env, h => match src.at i h with
    | none => .bad
    | some none => .nx env h
    | some (some x) => (t x env h).run env fun env1 h1 => (b env1 h1).turn fun env2 h2 => loopG src t b w (i + 1) env2 h2
/-- over items that stand still -/
def loopL (t : MT) (b : MS) : List Val → MS
  | [], env, h => .nx env h
  | x :: r, env, h => (t x env h).run env fun env1 h1 => (b env1 h1).turn fun env2 h2 => loopL t b r env2 h2
theorem loopL_eq (xs : List Val) (t : MT) (b : MS) : ∀ (w i : Nat) (env : Env') (h : EH), xs.length - i < w → loopG (.seq xs) t b w i env h = loopL t b (xs.drop i) env h
  | 0, i, env, h, z => absurd z (Nat.not_lt_zero _)
  | w + 1, i, env, h, z => by
    unfold loopG
    by_cases hi : i < xs.length
    · have e : (Src.seq xs).at i h = some (some xs[i]) := by
        show some xs[i]? = _
        rw [List.getElem?_eq_getElem hi]
      rw [e, List.drop_eq_getElem_cons hi]
      unfold loopL
      have ih : ∀ env h, loopG (.seq xs) t b w (i + 1) env h = loopL t b (xs.drop (i + 1)) env h := fun env h => loopL_eq xs t b w (i + 1) env h (by omega)
      simp only [ih]
    · have e : (Src.seq xs).at i h = some none := by
        show some xs[i]? = _
        rw [List.getElem?_eq_none (by omega)]
      rw [e, List.drop_eq_nil_of_le (by omega)]
      rfl
/-- w: how many turns over what may change -/
def mLoop (w : Nat) (src : Src) (t : MT) (b : MS) : MS := match src with
  | .seq xs => loopL t b xs
  | s => loopG s t b w 0
theorem mLoop_eq (w : Nat) (src : Src) (t : MT) (b : MS) (env : Env') (h : EH) : ∃ w', mLoop w src t b env h = loopG src t b w' 0 env h := by
  cases src with
  | seq xs => exact ⟨xs.length + 1, (loopL_eq xs t b (xs.length + 1) 0 env h (by omega)).symm⟩
  | _ => exact ⟨w, rfl⟩
def sFor (w : Nat) (src : M Src) (t : MT) (b : MS) : MS := fun env h => (src env h).run env fun s h1 => mLoop w s t b env h1
theorem turn_post {K : PySem.W.Frag} {F : Hp} {D : Ends} {ι : List Addr} {H : Hp} {r : RS} {k : MS} {N : St → Hp → Prop} (hN : ∀ ι' H' σ' env' h', Ext ι H ι' H' → EnvR K ι' H' env' σ' → Sim K G F ι' h' H' → PostS K G F W D ι' H' (k env' h') → N σ' H')
    (p : PostS K G F W D ι H (r.turn k)) : PostS K G F W { D with nx := N, ct := N, bk := D.nx } ι H r := by
  cases r with
  | nx env h => exact fun ι' H' σ' e en s => hN ι' H' σ' env h e en s (PostS.ext e p)
  | ct env h => exact fun ι' H' σ' e en s => hN ι' H' σ' env h e en s (PostS.ext e p)
  | bk env h => exact p
  | rt v h => exact p
  | exc c fs env h => exact p
  | bad => exact p
theorem rs_for {iter : Expr} {body : List Stmt} {w : Nat} {mi : M Src} {t : MT} {b : MS} (hp : PassesOwn (model X.prog X.w) X.A X.env X.xe) (hc : X.calm = true) (hs : ∀ x, foldedSetIterable iter X.env x = pure x) (hi : PI X tg iter (rdI X.K G W mi)) (hg : PG X tg (rdTG X.K G W t))
    (hb : PSs X body (rdS X.K G W b)) : PS X (.For tg iter body [] pos) (rdS X.K G W (sFor w mi t b)) :=
  PS.imp (ps_for hp hc hi hg hb hs) fun D σ H ⟨F, ι, env, h, en, sm, p⟩ => rs_run en sm p fun ι0 H0 h0 src J e0 sm0 ri p0 => by
    obtain ⟨w', ew⟩ := mLoop_eq w src t b env h0
    rw [ew] at p0
    refine ⟨fun i m σ H => ∃ ι env h, Ext ι0 H0 ι H ∧ EnvR X.K ι H env σ ∧ Sim X.K G F ι h H ∧ PostS X.K G F W D ι H (loopG src t b m i env h), ⟨w', ι0, env, h0, Ext.refl _ _, en.ext e0, sm0, p0⟩, ?_⟩
    rintro i m σ1 H1 ⟨ι1, env1, h1, x1, en1, sm1, p1⟩
    cases m with
    | zero => exact p1.elim
    | succ m =>
      obtain ⟨r1, r2⟩ := ri F i ι1 h1 H1 x1 sm1
      unfold loopG at p1
      split at p1
      · exact p1.elim
      · rename_i ea
        exact .inl ⟨r1 ea, p1 ι1 H1 σ1 (Ext.refl _ _) en1 sm1⟩
      · rename_i x ea
        obtain ⟨go, yl⟩ := r2 x ea
        refine .inr ⟨go, fun σ' H' => ∃ ι env h, Ext ι0 H0 ι H' ∧ EnvR X.K ι H' env σ' ∧ Sim X.K G F ι h H' ∧ PostS X.K G F W D ι H' (loopG src t b m (i + 1) env h), fun σ' H' n => ⟨m, Nat.lt_succ_self _, n⟩, fun v H2 y => ?_⟩
        obtain ⟨x2, sm2, rx, _⟩ := yl v H2 y
        refine ⟨F, ι1, env1, h1, x, en1.ext x2, sm2, rx, ?_⟩
        cases et : t x env1 h1 with
        | ok env3 h3 =>
          rw [et] at p1
          refine fun ι3 H3 σ3 x3 sm3 en3 => ⟨F, ι3, env3, h3, en3, sm3, ?_⟩
          refine turn_post (fun ι4 H4 σ4 env4 h4 x4 en4 sm4 p4 => ⟨ι4, env4, h4, ((x1.trans x2).trans x3).trans x4, en4, sm4, p4⟩) (PostS.ext (x2.trans x3) p1)
        | exc c fs h3 =>
          rw [et] at p1
          exact fun ι3 H3 cv d x3 sm3 xr => p1 ι3 H3 σ1 cv d (x2.trans x3) (en1.ext (x2.trans x3)) sm3 xr
        | bad =>
          rw [et] at p1
          exact p1.elim

/-! ### while -/
def loopW (t : M Bool) (b : MS) : Nat → MS
  | 0, _, _ => .bad
  | w + 1, env, h => (t env h).run env fun k h1 => if k = true then (b env h1).turn fun env2 h2 => loopW t b w env2 h2 else .nx env h1
theorem rs_while {c : Expr} {body : List Stmt} {w : Nat} {t : M Bool} {b : MS} (hp : PassesOwn (model X.prog X.w) X.A X.env X.xe) (hc : PT X c (rdT X.K G W t)) (hb : PSs X body (rdS X.K G W b)) : PS X (.While c body [] pos) (rdS X.K G W (loopW t b w)) :=
  PS.imp (ps_while hp hc hb) fun D σ H ⟨F, ι, env, h, en, sm, p⟩ => by
    refine ⟨fun m σ H => ∃ ι env h, EnvR X.K ι H env σ ∧ Sim X.K G F ι h H ∧ PostS X.K G F W D ι H (loopW t b m env h), ⟨w, ι, env, h, en, sm, p⟩, ?_⟩
    rintro m σ1 H1 ⟨ι1, env1, h1, en1, sm1, p1⟩
    cases m with
    | zero => exact p1.elim
    | succ m =>
      unfold loopW at p1
      refine rs_run en1 sm1 p1 fun ι2 H2 h2 k v x2 sm2 r2 p2 => ?_
      cases r2
      cases k with
      | false =>
        rw [if_neg (by decide)] at p2 ⊢
        exact p2 ι2 H2 σ1 (Ext.refl _ _) (en1.ext x2) sm2
      | true =>
        rw [if_pos rfl] at p2 ⊢
        refine ⟨fun σ' H' => ∃ ι env h, EnvR X.K ι H' env σ' ∧ Sim X.K G F ι h H' ∧ PostS X.K G F W D ι H' (loopW t b m env h), fun σ' H' n => ⟨m, Nat.lt_succ_self _, n⟩, F, ι2, env1, h2, en1.ext x2, sm2, ?_⟩
        exact turn_post (fun ι4 H4 σ4 env4 h4 x4 en4 sm4 p4 => ⟨ι4, env4, h4, en4, sm4, p4⟩) p2
end

/-! ### comprehensions -/
/-- a comprehension's target: a name, several -/
inductive CT where
  | one (i : Nat) | many (is : List Nat)
def CT.slots : CT → List Nat
  | .one i => [i]
  | .many is => is
def setAll : List Nat → List Val → Env' → Env'
  | i :: is, x :: xs, env => setAll is xs (env.set i (some x))
  | _, _, env => env
def CT.put : CT → MT
  | .one i, x, env, h => .ok (env.set i (some x)) h
  | .many is, x, env, h => match asT x with
    | some xs => if Nat.beq xs.length is.length = true then .ok (setAll is xs env) h else .bad
    | none => .bad
def wipeE (env : Env') : List Nat → Env'
  | [] => env
  | v :: vs => (wipeE env vs).set v none
def compG (src : Src) (t : CT) (c : M Bool) (e : M Val) (env : Env') : Nat → Nat → EH → R (List Val)
  | 0, _, _ => .bad
  | w + 1, i, h => match src.at i h with
    | none => .bad
    | some none => .ok [] h
    | some (some x) => (t.put x env h).bind fun env1 h1 => (c env1 h1).bind fun k h2 => if k = true then (e env1 h2).bind fun y h3 => (compG src t c e env w (i + 1) h3).bind fun ys h4 => .ok (y :: ys) h4 else compG src t c e env w (i + 1) h2
def compL (t : CT) (c : M Bool) (e : M Val) (env : Env') : List Val → EH → R (List Val)
  | [], h => .ok [] h
  | x :: r, h => (t.put x env h).bind fun env1 h1 => (c env1 h1).bind fun k h2 => if k = true then (e env1 h2).bind fun y h3 => (compL t c e env r h3).bind fun ys h4 => .ok (y :: ys) h4 else compL t c e env r h2
theorem compL_eq (xs : List Val) (t : CT) (c : M Bool) (e : M Val) (env : Env') : ∀ (w i : Nat) (h : EH), xs.length - i < w → compG (.seq xs) t c e env w i h = compL t c e env (xs.drop i) h
  | 0, i, h, z => absurd z (Nat.not_lt_zero _)
  | w + 1, i, h, z => by
    unfold compG
    by_cases hi : i < xs.length
    · have ex : (Src.seq xs).at i h = some (some xs[i]) := by
        show some xs[i]? = _
        rw [List.getElem?_eq_getElem hi]
      rw [ex, List.drop_eq_getElem_cons hi]
      unfold compL
      have ih : ∀ h, compG (.seq xs) t c e env w (i + 1) h = compL t c e env (xs.drop (i + 1)) h := fun h => compL_eq xs t c e env w (i + 1) h (by omega)
      simp only [ih]
    · have ex : (Src.seq xs).at i h = some none := by
        show some xs[i]? = _
        rw [List.getElem?_eq_none (by omega)]
      rw [ex, List.drop_eq_nil_of_le (by omega)]
      rfl
def mCompS (w : Nat) (src : Src) (t : CT) (c : M Bool) (e : M Val) (env : Env') (h : EH) : R (List Val) := match src with
  | .seq xs => compL t c e env xs h
  | s => compG s t c e env w 0 h
theorem mCompS_eq (w : Nat) (src : Src) (t : CT) (c : M Bool) (e : M Val) (env : Env') (h : EH) : ∃ w', mCompS w src t c e env h = compG src t c e env w' 0 h := by
  cases src with
  | seq xs => exact ⟨xs.length + 1, (compL_eq xs t c e env (xs.length + 1) 0 h (by omega)).symm⟩
  | _ => exact ⟨w, rfl⟩
/-- the items of a comprehension, own: the slots of its names -/
def mItems (w : Nat) (src : M Src) (t : CT) (c : M Bool) (e : M Val) (own : List Nat) : M (List Val) := fun env h => (src env h).bind fun s h1 => noX (mCompS w s t c e (wipeE env own) h1)
def mComp (w : Nat) (src : M Src) (t : CT) (c : M Bool) (e : M Val) (own : List Nat) : M Val := fun env h => (mItems w src t c e own env h).bind newL
def mYes : M Bool := fun _ h => .ok true h
/-- nothing leaves a comprehension's block -/
abbrev WF : WX := fun _ _ _ _ => False
theorem takesF {X : Cx} : Takes X WF := fun _ _ ⟨_, _, _, _, _, _, _, _, _, _, _, _, _, _, _, _, z⟩ => z.elim
theorem wipe_mem {σ : St} {i : Nat} {o : Option V} : ∀ {vs : List Nat}, i ∈ vs → wipe (σ.set i o) vs = wipe σ vs
  | [], h => by cases h
  | v :: vs, h => by
    show (wipe (σ.set i o) vs).set v none = (wipe σ vs).set v none
    by_cases hi : i ∈ vs
    · rw [wipe_mem hi]
    · have hv : i = v := by
        rcases List.mem_cons.mp h with e | e
        · exact e
        · exact absurd e hi
      subst hv
      have key : ∀ (ws : List Nat), i ∉ ws → wipe (σ.set i o) ws = (wipe σ ws).set i o := by
        intro ws
        induction ws with
        | nil => intro _; rfl
        | cons u us ih =>
          intro hn
          show (wipe (σ.set i o) us).set u none = ((wipe σ us).set u none).set i o
          rw [ih (fun z => hn (List.mem_cons_of_mem _ z)), List.set_comm _ _ (fun z => hn (by rw [z]; exact List.mem_cons_self))]
      rw [key vs hi, List.set_set]
theorem wipe_wipe {σ : St} : ∀ {vs ws : List Nat}, (∀ v ∈ ws, v ∈ vs) → wipe (wipe σ ws) vs = wipe σ vs
  | vs, [], _ => rfl
  | vs, w :: ws, h => by
    show wipe ((wipe σ ws).set w none) vs = _
    rw [wipe_mem (h w List.mem_cons_self)]
    exact wipe_wipe fun v hv => h v (List.mem_cons_of_mem _ hv)
theorem EnvR.none {K : PySem.W.Frag} {ι : List Addr} {H : Hp} {env : Env'} {σ : St} (h : EnvR K ι H env σ) (i : Nat) : EnvR K ι H (env.set i none) (σ.set i none) := by
  refine ⟨by simp [h.1], fun j y e => ?_⟩
  by_cases hj : j = i
  · subst hj
    have hlt : j < env.length := by
      have z := (List.getElem?_eq_some_iff.mp e).1
      simpa using z
    rw [List.getElem?_set_self hlt] at e
    cases e
  · rw [List.getElem?_set_ne (Ne.symm hj)] at e
    obtain ⟨w, e1, r1⟩ := h.2 j y e
    exact ⟨w, by rw [List.getElem?_set_ne (Ne.symm hj)]; exact e1, r1⟩
theorem EnvR.wipe {K : PySem.W.Frag} {ι : List Addr} {H : Hp} {env : Env'} {σ : St} (h : EnvR K ι H env σ) : ∀ vs : List Nat, EnvR K ι H (wipeE env vs) (L2.wipe σ vs)
  | [] => h
  | v :: vs => (EnvR.wipe h vs).none v
def gAll : List Nat → TGs
  | [] => gNil
  | i :: is => gCons (gName i) (gAll is)
def CT.g (K : PySem.W.Frag) : CT → TG
  | .one i => gName i
  | .many is => gTup K is.length (gAll is)
theorem gAll_ok {K : PySem.W.Frag} {ι : List Addr} {H : Hp} {own : List Nat} {Q : St → Hp → Prop} : ∀ {is : List Nat} {xs : List Val} {vs : List V} {env : Env'} {σ : St}, xs.length = is.length → (∀ i ∈ is, i ∈ own) → RVs K ι H xs vs → EnvR K ι H env σ →
    (∀ σ2, EnvR K ι H (setAll is xs env) σ2 → wipe σ2 own = wipe σ own → Q σ2 H) → gAll is vs σ H Q
  | [], [], vs, env, σ, _, _, r, en, k => ⟨r, k σ en rfl⟩
  | i :: is, x :: xs, vs, env, σ, hl, hm, r, en, k => by
    obtain ⟨v, ws, rfl, r1, r2⟩ := r
    refine ⟨v, ws, rfl, gAll_ok (xs := xs) (env := env.set i (some x)) (by simpa using hl) (fun j hj => hm j (List.mem_cons_of_mem _ hj)) r2 (en.set i r1) fun σ2 en2 hw => k σ2 en2 ?_⟩
    rw [hw, wipe_mem (hm i List.mem_cons_self)]
  | [], _ :: _, _, _, _, hl, _, _, _, _ => by simp at hl
  | _ :: _, [], _, _, _, hl, _, _, _, _ => by simp at hl
theorem CT.ok {K : PySem.W.Frag} {t : CT} {ι : List Addr} {h h1 : EH} {H : Hp} {own : List Nat} {Q : St → Hp → Prop} {x : Val} {v : V} {env env1 : Env'} {σ : St} (e : t.put x env h = .ok env1 h1) (hm : ∀ i ∈ t.slots, i ∈ own) (r : RV K ι H x v) (en : EnvR K ι H env σ)
    (k : h1 = h → ∀ σ2, EnvR K ι H env1 σ2 → wipe σ2 own = wipe σ own → Q σ2 H) : t.g K v σ H Q := by
  cases t with
  | one i =>
    cases e
    exact k rfl _ (en.set i r) (wipe_mem (hm i (by simp [CT.slots])))
  | many is =>
    have e1 : (match asT x with
      | some xs => if Nat.beq xs.length is.length = true then .ok (setAll is xs env) h else .bad
      | none => .bad) = R.ok env1 h1 := e
    split at e1
    · rename_i xs eT
      split at e1
      · rename_i eb
        cases e1
        obtain ⟨a, vs, rfl, h2, h3⟩ := asT_ok eT r
        have hl : xs.length = is.length := Nat.eq_of_beq_eq_true eb
        exact ⟨a, vs, rfl, h2, by rw [← h3.len, hl], gAll_ok hl hm h3 en fun σ2 en2 hw => k rfl σ2 en2 hw⟩
      · cases e1
    · cases e1
theorem Sim.adopt {K : PySem.W.Frag} {G : Cg} {F : Hp} {ι : List Addr} {h : EH} {H : Hp} {D : Addr} {xs : List Val} {vs : List V} (s : Sim K G (upd F D (.lst vs)) ι h H) (hF : F D = none) (r : RVs K ι H xs vs) : Sim K G F (ι ++ [D]) (h ++ [.lst xs]) H := by
  have hD : H D = some (.lst vs) := s.fr D _ upd_same
  have x : Ext ι H (ι ++ [D]) H := ⟨⟨[D], rfl⟩, Imm.refl H⟩
  have nD : D ∉ ι := fun m => by
    have z := s.out D m
    rw [upd_same] at z
    cases z
  refine ⟨by simp [s.len], fun n o a e ea => ?_, ?_, fun a o e => s.fr a o (by rw [upd_ne (ne_of_none e hF)]; exact e), fun a m => ?_⟩
  · by_cases hn : n < h.length
    · rw [List.getElem?_append_left hn] at e
      rw [List.getElem?_append_left (by rw [s.len]; exact hn)] at ea
      exact (s.ob n o a e ea).ext x rfl
    · have hl : n = h.length := by
        have z := (List.getElem?_eq_some_iff.mp e).1
        rw [List.length_append, List.length_singleton] at z
        omega
      subst hl
      rw [List.getElem?_append_right (Nat.le_refl _)] at e
      rw [List.getElem?_append_right (by rw [s.len]; exact Nat.le_refl _), s.len] at ea
      simp at e ea
      subst e ea
      exact ⟨vs, hD, r.ext x⟩
  · rw [List.nodup_append]
    refine ⟨s.nd, by simp, fun a ha b hb => ?_⟩
    simp at hb
    subst hb
    rintro rfl
    exact nD ha
  · rcases List.mem_append.mp m with m1 | m1
    · have z := s.out a m1
      have ne : a ≠ D := fun q => nD (q ▸ m1)
      rw [upd_ne ne] at z
      exact z
    · simp at m1
      subst m1
      exact hF
theorem Sim.reframe {K : PySem.W.Frag} {G : Cg} {F F' : Hp} {ι : List Addr} {h : EH} {H : Hp} (s : Sim K G F ι h H) (f : ∀ a o, F' a = some o → H a = some o) (o : ∀ a ∈ ι, F' a = none) : Sim K G F' ι h H := ⟨s.len, s.ob, s.nd, f, o⟩
/-- an object besides is changed -/
theorem Sim.setF {K : PySem.W.Frag} {G : Cg} {F : Hp} {ι : List Addr} {h : EH} {H : Hp} {D : Addr} {o u : HO} (s : Sim K G (upd F D o) ι h H) (hm : Mut (some o)) : Sim K G (upd F D u) ι h (upd H D u) ∧ Imm H (upd H D u) := by
  have hD : H D = some o := s.fr D _ upd_same
  have nD : ∀ a ∈ ι, a ≠ D := fun a m z => by
    subst z
    have z := s.out a m
    rw [upd_same] at z
    cases z
  have im : Imm H (upd H D u) := Imm.set hD hm
  refine ⟨⟨s.len, fun n q a e ea => (s.ob n q a e ea).ext (Ext.imm im) (upd_ne (nD a (List.mem_of_getElem? ea))), s.nd, fun a q e => ?_, fun a m => ?_⟩, im⟩
  · by_cases ha : a = D
    · subst ha
      rw [upd_same] at e ⊢
      exact e
    · rw [upd_ne ha] at e ⊢
      exact s.fr a q (by rw [upd_ne ha]; exact e)
  · have z := s.out a m
    rw [upd_ne (nD a m)] at z ⊢
    exact z
section
variable {X : Cx} {G : Cg} {W : WX} {pos : Pos}
/-- the reading of a comprehension -/
theorem comp_read {w : Nat} {mi : M Src} {t : CT} {c : M Bool} {me : M Val} {own : List Nat} (hm : ∀ i ∈ t.slots, i ∈ own) {K : PySem.W.Frag} (σ : St) (H : Hp) (Q : VK) (q : rdE K G W (mComp w mi t c me own) σ H Q) :
    tLc (rdI K G W mi) (t.g K) (rdT K G WF c) (rdE K G WF me) own σ H Q := by
  obtain ⟨F, ι, env, h, en, sm, p⟩ := q
  unfold mComp mItems at p
  rw [bindAssoc] at p
  refine rd_bind en sm p fun ι0 H0 h0 src J e0 sm0 ri p0 => ?_
  intro D hD
  obtain ⟨w', ew⟩ := mCompS_eq w src t c me (wipeE env own) h0
  rw [ew] at p0
  obtain ⟨nDι, nDF⟩ := sm0.newA hD
  have xD : Ext ι0 H0 ι0 (upd H0 D (.lst [])) := Ext.imm (Imm.new hD)
  refine ⟨fun i m H => ∃ ι h acc vs, Ext ι0 H0 ι H ∧ RVs K ι H acc vs ∧ Sim K G (upd F D (.lst vs)) ι h H ∧ PostE K G F W σ Q ι H ((noX (compG src t c me (wipeE env own) m i h)).bind fun ys h' => newL (acc ++ ys) h'),
    ⟨w', ι0, h0, [], [], xD, rfl, ?_, PostG.ext xD p0⟩, ?_⟩
  · refine (sm0.junk hD).reframe (fun a o e => ?_) fun a m => ?_
    · by_cases ha : a = D
      · subst ha
        rw [upd_same] at e ⊢
        exact e
      · rw [upd_ne ha] at e ⊢
        exact sm0.fr a o e
    · have ne : a ≠ D := fun z => nDι (z ▸ m)
      rw [upd_ne ne]
      exact sm0.out a m
  rintro i m H1 ⟨ι1, h1, acc, vs, x1, racc, sm1, p1⟩
  have hD1 : H1 D = some (.lst vs) := sm1.fr D _ upd_same
  cases m with
  | zero => exact p1.elim
  | succ m =>
    obtain ⟨r1, r2⟩ := ri _ i ι1 h1 H1 x1 sm1
    unfold compG at p1
    split at p1
    · exact p1.elim
    · rename_i ea
      refine .inl ⟨r1 ea, ?_⟩
      have p2 : PostE K G F W σ Q ι1 H1 (newL (acc ++ []) h1) := p1
      rw [List.append_nil] at p2
      unfold newL at p2
      split at p2
      · refine p2 (ι1 ++ [D]) H1 (.ref D) ⟨⟨[D], rfl⟩, Imm.refl _⟩ (sm1.adopt nDF racc) ⟨D, ?_, rfl⟩
        rw [← sm1.len]
        exact getNew
      · exact p2.elim
    · rename_i x ea
      obtain ⟨go, yl⟩ := r2 x ea
      refine .inr ⟨go, fun H' => ∃ ι h acc vs, Ext ι0 H0 ι H' ∧ RVs K ι H' acc vs ∧ Sim K G (upd F D (.lst vs)) ι h H' ∧ PostE K G F W σ Q ι H' ((noX (compG src t c me (wipeE env own) m (i + 1) h)).bind fun ys h' => newL (acc ++ ys) h'),
        fun H' n => ⟨m, Nat.lt_succ_self _, n⟩, fun v H2 y => ?_⟩
      obtain ⟨x2, sm2, rx, _⟩ := yl v H2 y
      have enw : EnvR K ι1 H2 (wipeE env own) (wipe σ own) := ((en.wipe own).ext (e0.trans x1)).ext x2
      cases et : t.put x (wipeE env own) h1 with
      | exc c' fs h3 =>
        rw [et] at p1
        exact p1.elim
      | bad =>
        rw [et] at p1
        exact p1.elim
      | ok env3 h3 =>
        rw [et] at p1
        refine CT.ok (own := own) et hm rx enw fun eh σ2 en2 hw => ⟨?_, ?_⟩
        · rw [hw]
          exact wipe_wipe fun v hv => hv
        · subst eh
          have p2 : PostE K G F W σ Q ι1 H2 ((noX ((c env3 h3).bind fun k h2 => if k = true then (me env3 h2).bind fun y h3 => (compG src t c me (wipeE env own) m (i + 1) h3).bind fun ys h4 => .ok (y :: ys) h4 else compG src t c me (wipeE env own) m (i + 1) h2)).bind fun ys h' => newL (acc ++ ys) h') := PostG.ext x2 p1
          refine ⟨_, ι1, env3, h3, en2, sm2, ?_⟩
          cases ec : c env3 h3 with
          | exc c' fs h4 =>
            rw [ec] at p2
            exact p2.elim
          | bad =>
            rw [ec] at p2
            exact p2.elim
          | ok k h4 =>
            rw [ec] at p2
            refine fun ι4 H4 k' x4 sm4 rk => ?_
            cases rk
            have p4 := PostG.ext x4 p2
            cases k with
            | false =>
              rw [if_neg (by decide)]
              exact ⟨ι4, h4, acc, vs, (x1.trans x2).trans x4, (racc.ext x2).ext x4, sm4, p4⟩
            | true =>
              rw [if_pos rfl]
              have p5 : PostE K G F W σ Q ι4 H4 ((noX ((me env3 h4).bind fun y h3 => (compG src t c me (wipeE env own) m (i + 1) h3).bind fun ys h4 => .ok (y :: ys) h4)).bind fun ys h' => newL (acc ++ ys) h') := p4
              refine ⟨_, ι4, env3, h4, en2.ext x4, sm4, ?_⟩
              cases ee : me env3 h4 with
              | exc c' fs h5 =>
                rw [ee] at p5
                exact p5.elim
              | bad =>
                rw [ee] at p5
                exact p5.elim
              | ok z h5 =>
                rw [ee] at p5
                refine fun ι5 H5 vz x5 sm5 rz => ?_
                have p6 : PostE K G F W σ Q ι5 H5 ((noX ((compG src t c me (wipeE env own) m (i + 1) h5).bind fun ys h4 => .ok (z :: ys) h4)).bind fun ys h' => newL (acc ++ ys) h') := PostG.ext x5 p5
                have racc5 := ((racc.ext x2).ext x4).ext x5
                have hD5 : H5 D = some (.lst vs) := sm5.fr D _ upd_same
                -- the length
                have hlen : vs.length < sizeLine := by
                  rw [← racc5.len]
                  cases eg : compG src t c me (wipeE env own) m (i + 1) h5 with
                  | exc c' fs h6 =>
                    rw [eg] at p6
                    exact p6.elim
                  | bad =>
                    rw [eg] at p6
                    exact p6.elim
                  | ok ys h6 =>
                    rw [eg] at p6
                    have p7 : PostE K G F W σ Q ι5 H5 (newL (acc ++ (z :: ys)) h6) := p6
                    unfold newL at p7
                    split at p7
                    · rename_i ef
                      have z := fits_le ef
                      rw [List.length_append, List.length_cons] at z
                      omega
                    · exact p7.elim
                obtain ⟨sm6, im6⟩ := sm5.setF (u := .lst (vs ++ [vz])) trivial
                have x6 : Ext ι5 H5 ι5 (upd H5 D (.lst (vs ++ [vz]))) := Ext.imm im6
                refine ⟨vs, hD5, hlen, ι5, h5, acc ++ [z], vs ++ [vz], (((x1.trans x2).trans x4).trans x5).trans x6, (racc5.append (RVs.one rz)).ext x6, sm6, ?_⟩
                have p7 := PostG.ext x6 p6
                have eq : ((noX ((compG src t c me (wipeE env own) m (i + 1) h5).bind fun ys h4 => .ok (z :: ys) h4)).bind fun ys h' => newL (acc ++ ys) h') = ((noX (compG src t c me (wipeE env own) m (i + 1) h5)).bind fun ys h' => newL (acc ++ [z] ++ ys) h') := by
                  cases compG src t c me (wipeE env own) m (i + 1) h5 with
                  | ok ys h6 =>
                    show newL (acc ++ (z :: ys)) h6 = newL (acc ++ [z] ++ ys) h6
                    rw [List.append_assoc]
                    rfl
                  | exc c' fs h6 => rfl
                  | bad => rfl
                rw [eq] at p7
                exact p7
end
end Ev

set_option Elab.async false
set_option linter.all false
set_option maxRecDepth 100000
set_option maxHeartbeats 4000000
/-! Ev, 9: chains, augmented assignments, parallel assignments, comprehensions as values. -/
namespace Ev
open PySem PySem.Spec PyProof.Rows L2

section
variable {X : Cx} {G : Cg} {W : WX} {pos : Pos} {a b c e : Expr} {ma mb mc me : M Val}
/-- one piece -/
theorem st_e {γ δ : Type} {rel' : List Addr → Hp → γ → δ → Prop} {Q : δ → Hp → Prop} {f : Val → EH → R γ} {Qf : Value → Shared → Prop} (ha : PE X a (rdE X.K G W ma)) {pins : List (Addr × Obj)} {s : Shared} {σ : St} {H F : Hp} {ι : List Addr} {env : Env'} {h : EH}
    (I : Inv X pins σ H s) (en : EnvR X.K ι H env σ) (sm : Sim X.K G F ι h H) (p : PostG rel' X.K G F W σ Q ι H ((ma env h).bind f))
    (k : ∀ u s1 v ι1 H1 h1 x, Inv X pins σ H1 s1 → Ext ι H ι1 H1 → Sim X.K G F ι1 h1 H1 → RV X.K ι1 H1 x v → RelV v u → PostG rel' X.K G F W σ Q ι1 H1 (f x h1) → Qf u s1) : wpAny (model X.prog X.w) X.A (eval a X.env) Qf X.xe s :=
  thn (ha.run pins s σ H _ I (rd_bind (Q1 := fun v H1 => ∃ ι1 h1 x, Ext ι H ι1 H1 ∧ Sim X.K G F ι1 h1 H1 ∧ RV X.K ι1 H1 x v ∧ PostG rel' X.K G F W σ Q ι1 H1 (f x h1)) en sm p
    fun ι1 H1 h1 x v e1 s1 r1 p1 => ⟨ι1, h1, x, e1, s1, r1, p1⟩)) fun u1 s1 ⟨v1, H1, I1, q1, ι1, h1, x, e1, sm1, rx, p1⟩ => k u1 s1 v1 ι1 H1 h1 x I1 e1 sm1 rx q1 p1
theorem re_chain {op op' : CmpOp} {o o' : Val → Val → EH → R Val} (ho : Op2 X G W (compareOp op) o) (ho' : Op2 X G W (compareOp op') o') (ha : PE X a (rdE X.K G W ma)) (hb : PE X b (rdE X.K G W mb)) (hc : PE X c (rdE X.K G W mc)) (hm : lastMarks [op, op'] [b, c] = false) :
    PE X (.Compare a [op, op'] [b, c] pos) (rdE X.K G W (mChain o o' ma mb mc)) := by
  refine ⟨fun pins s σ H Q I ⟨F, ι, env, h, en, sm, p⟩ => ?_⟩
  refine Compare_chain (st_e ha I en sm p fun u1 s1 v1 ι1 H1 h1 x I1 e1 sm1 r1 q1 p1 => chain_link (st_e hb I1 (en.ext e1) sm1 p1 fun u2 s2 v2 ι2 H2 h2 y I2 e2 sm2 r2 q2 p2 => ?_)) hm
  refine thn (ho I2 sm2 (r1.ext e2) r2 q1 q2 (PostG.bind p2)) fun d s3 ⟨v3, H3, I3, q3, ι3, h3, z, e3, sm3, r3, p3⟩ => ?_
  obtain ⟨k, rfl, rfl, p4⟩ := isB r3 p3
  cases q3
  refine wpAny_truthy_bool ?_
  cases k with
  | false =>
    rw [if_neg (by decide)] at p4
    exact ite_ff ⟨.bl false, H3, I3, rfl, PostG.val (v := V.bl false) p4 sm3 rfl⟩
  | true =>
    rw [if_pos rfl] at p4
    exact ite_tt (chain_last (st_e hc I3 ((en.ext e1).ext (e2.trans e3)) sm3 p4 fun u4 s4 v4 ι4 H4 h4 w I4 e4 sm4 r4 q4 p5 => ho' I4 sm4 (r2.ext (e3.trans e4)) r4 q2 q4 p5))
theorem rt_chain {op op' : CmpOp} {o o' : Val → Val → EH → R Val} (ho : Op2 X G W (compareOp op) o) (ho' : Op2 X G W (compareOp op') o') (ha : PE X a (rdE X.K G W ma)) (hb : PE X b (rdE X.K G W mb)) (hc : PE X c (rdE X.K G W mc)) (hm : lastMarks [op, op'] [b, c] = false) :
    PT X (.Compare a [op, op'] [b, c] pos) (rdT X.K G W (mB (mChain o o' ma mb mc))) := by
  refine ⟨fun pins s σ H Q I ⟨F, ι, env, h, en, sm, p⟩ => ?_⟩
  unfold mB mChain at p
  simp only [bindAssoc] at p
  refine isTrue_chain (st_e ha I en sm p fun u1 s1 v1 ι1 H1 h1 x I1 e1 sm1 r1 q1 p1 => test_link (st_e hb I1 (en.ext e1) sm1 p1 fun u2 s2 v2 ι2 H2 h2 y I2 e2 sm2 r2 q2 p2 => ?_)) hm
  refine thn (ho I2 sm2 (r1.ext e2) r2 q1 q2 (PostG.bind p2)) fun d s3 ⟨v3, H3, I3, q3, ι3, h3, z, e3, sm3, r3, p3⟩ => ?_
  obtain ⟨k, rfl, rfl, p4⟩ := isB r3 p3
  cases q3
  refine wpAny_truthy_bool ?_
  cases k with
  | false =>
    rw [if_neg (by decide)] at p4
    exact ite_ff ⟨H3, I3, p4.val sm3 rfl⟩
  | true =>
    rw [if_pos rfl, bindAssoc] at p4
    refine ite_tt (test_last (st_e hc I3 ((en.ext e1).ext (e2.trans e3)) sm3 p4 fun u4 s4 v4 ι4 H4 h4 w I4 e4 sm4 r4 q4 p5 => ?_))
    refine thn (ho' I4 sm4 (r2.ext (e3.trans e4)) r4 q2 q4 (PostG.bind p5)) fun d s5 ⟨v5, H5, I5, q5, ι5, h5, z5, e5, sm5, r5, p6⟩ => ?_
    rw [← bind_ok' (asB z5 h5)] at p6
    obtain ⟨k2, rfl, rfl, p7⟩ := isB r5 p6
    cases q5
    exact wpAny_truthy_bool ⟨H5, I5, p7.val sm5 rfl⟩

theorem PostG_imp {α β : Type} {rel : List Addr → Hp → α → β → Prop} {K : PySem.W.Frag} {F : Hp} {σ : St} {Q Q' : β → Hp → Prop} {ι : List Addr} {H : Hp} {r : R α} (p : PostG rel K G F W σ Q ι H r) (k : ∀ v H', Q v H' → Q' v H') : PostG rel K G F W σ Q' ι H r := by
  cases r with
  | ok x h1 => exact fun ι1 H1 v x1 s1 r1 => k v H1 (p ι1 H1 v x1 s1 r1)
  | exc c fs h1 => exact p
  | bad => exact p
/-! ### augmented assignments -/
/-- a list grown in place -/
def opIAdd (x y : Val) (h : EH) : R Val := match x with
  | .r n => match h[n]? with
    | some (.lst xs) => match getS y h with
      | some ys => if fits (xs.length + ys.length) = true then .ok (.r n) (h.set n (.lst (xs ++ ys))) else .bad
      | none => .bad
    | _ => .bad
  | _ => opAdd x y h
def sAug (i : Nat) (o : Val → Val → EH → R Val) (me : M Val) : MS := fun env h => match env[i]? with
  | some (some x) => (me env h).run env fun y h1 => (noX (o x y h1)).run env fun z h2 => .nx (env.set i (some z)) h2
  | _ => .bad
/-- a quiet piece behind -/
theorem run_noX {α β : Type} {K : PySem.W.Frag} {F : Hp} {rel : List Addr → Hp → α → β → Prop} {D : Ends} {ι : List Addr} {H : Hp} {env : Env'} {r : R α} {f : α → EH → RS} {σ' : St} (p : PostS K G F W D ι H ((noX r).run env f)) :
    PostG rel K G F WF σ' (fun v H1 => ∃ ι1 h1 x, Ext ι H ι1 H1 ∧ Sim K G F ι1 h1 H1 ∧ rel ι1 H1 x v ∧ PostS K G F W D ι1 H1 (f x h1)) ι H r := by
  cases r with
  | ok x h1 => exact fun ι1 H1 v x1 s1 r1 => ⟨ι1, h1, x, x1, s1, r1, PostS.ext x1 p⟩
  | exc c fs h1 => exact p.elim
  | bad => exact p.elim
theorem rs_aug {i : Nat} {x : Str} {op : Operator} {o : Val → Val → EH → R Val} {pos' : Pos} (hN : X.N.Nodup) (hi : X.N[i]? = some x) (hx : Loc X.env.scope x) (hf : X.fn x = true ∨ X.env.scope.names.lookup x = some .local) (ho : Op2 X G WF (inplaceOp op) o) (he : PE X e (rdE X.K G W me)) :
    PS X (.AugAssign (.Name x pos') op e pos) (rdS X.K G W (sAug i o me)) :=
  PS.imp (ps_aug (ti := fun v u H Q => ∃ F ι h x y σ0, Sim X.K G F ι h H ∧ RV X.K ι H x v ∧ RV X.K ι H y u ∧ PostE X.K G F WF σ0 Q ι H (o x y h)) hN hi hx he
    (fun pins s σ H v u vu uu Q I r1 r2 ⟨F, ι, h, x, y, σ0, sm, rx, ry, p⟩ => ho I sm rx ry r1 r2 (by
      cases e : o x y h with
      | ok z h1 => rw [e] at p; exact p
      | exc c fs h1 => rw [e] at p; exact fun ι1 H1 cv d x1 s1 xr => p ι1 H1 cv d x1 s1 xr
      | bad => rw [e] at p; exact p)) hf) fun D σ H ⟨F, ι, env, h, en, sm, p⟩ => by
    unfold sAug at p
    split at p
    · rename_i x ex
      obtain ⟨v, e1, r⟩ := en.2 i x ex
      refine ⟨v, e1, rs_run en sm p fun ι1 H1 h1 y u x1 sm1 ry p1 => ⟨F, ι1, h1, x, y, σ, sm1, r.ext x1, ry, ?_⟩⟩
      have z := run_noX (rel := RV X.K) (σ' := σ) p1
      cases e : o x y h1 with
      | ok z' h2 =>
        rw [e] at z
        intro ι2 H2 w x2 s2 r2
        obtain ⟨ι3, h3, z3, x3, s3, r3, p3⟩ := z ι2 H2 w x2 s2 r2
        exact p3 ι3 H2 _ (Ext.refl _ _) (((en.ext x1).ext x3).set i r3) s3
      | exc c fs h2 => rw [e] at z; exact z
      | bad => rw [e] at z; exact z
    · exact p.elim
theorem wf_any {α β : Type} {rel : List Addr → Hp → α → β → Prop} {K : PySem.W.Frag} {F : Hp} {σ σ' : St} {W' : WX} {Q : β → Hp → Prop} {ι : List Addr} {H : Hp} {r : R α} (p : PostG rel K G F WF σ Q ι H r) : PostG rel K G F W' σ' Q ι H r := by
  cases r with
  | ok x h1 => exact p
  | exc c fs h1 =>
    exact fun ι1 H1 cv d x1 s1 xr => (p ι1 H1 cv d x1 s1 xr).elim
  | bad => exact p
end
end Ev

set_option Elab.async false
set_option linter.all false
set_option maxRecDepth 100000
set_option maxHeartbeats 4000000
/-! Ev, 10: operators in place, parallel assignments, comprehensions as values. -/
namespace Ev
open PySem PySem.Spec PyProof.Rows L2

section
variable {X : Cx} {G : Cg} {W : WX} {pos : Pos} {a b c e : Expr} {ma mb mc me : M Val}
def ipAdd : Val → Val → EH → R Val
  | .d (.int i), .d (.int j), h => .ok (.d (.int (i + j))) h
  | .d (.str s), .d (.str t), h => if fits (s.length + t.length) = true then .ok (.d (.str (s ++ t))) h else .bad
  | .r n, y, h => match getL (.r n) h, getL y h with
    | some xs, some ys => if fits (xs.length + ys.length) = true then .ok (.r n) (h.set n (.lst (xs ++ ys))) else .bad
    | _, _ => .bad
  | _, _, _ => .bad
theorem op2_iadd : Op2 X G W (inplaceOp .Add) ipAdd := by
  intro pins s σ H F ι h x y vx vy ux uy Q I sm rx ry ex ey p
  unfold ipAdd at p
  split at p
  · cases rx
    cases ry
    exact iop_add pins s σ H _ _ _ _ Q I ex ey ⟨_, _, rfl, rfl, p.val sm (vi _ _ _ _)⟩
  · cases rx
    cases ry
    split at p
    · rename_i s' t' _ z
      refine iop_add_str pins s σ H _ _ _ _ Q I ex ey ⟨_, _, rfl, rfl, ?_, ?_⟩
      · rw [str_len, str_len]
        exact fits_le z
      · rw [str_app]
        exact p.val sm rfl
    · exact p.elim
  · rename_i n _
    split at p
    · rename_i xs ys e1 e2
      split at p
      · rename_i z
        obtain ⟨a, n', vs, e3, hn, ha, rfl, h1, r1⟩ := getL_ok e1 sm rx
        obtain ⟨b, m, ws, rfl, hm, hb, rfl, h2, r2⟩ := getL_ok e2 sm ry
        cases e3
        have im := Ext.imm (ι := ι) (sm.immSet (o := .lst (vs ++ ws)) hn rfl ha)
        refine iop_ext pins s σ H _ _ _ _ Q I ex ey ⟨a, b, vs, ws, rfl, rfl, h1, h2, by rw [← r1.len, ← r2.len]; exact fits_le z, ?_⟩
        exact p ι _ _ im (sm.set hn rfl ha ⟨_, upd_same, (r1.append r2).ext im⟩) ⟨a, ha, rfl⟩
      · exact p.elim
    · exact p.elim
  · exact p.elim
theorem op2_isub : Op2 X G W (inplaceOp .Sub) opSub := by
  intro pins s σ H F ι h x y vx vy ux uy Q I sm rx ry ex ey p
  unfold opSub at p
  split at p
  · cases rx
    cases ry
    exact iop_sub pins s σ H _ _ _ _ Q I ex ey ⟨_, _, rfl, rfl, p.val sm (vi _ _ _ _)⟩
  · exact p.elim
theorem op2_ixor : Op2 X G W (inplaceOp .BitXor) opXor := by
  intro pins s σ H F ι h x y vx vy ux uy Q I sm rx ry ex ey p
  unfold opXor at p
  split at p
  · cases rx
    cases ry
    exact iop_xor pins s σ H _ _ _ _ Q I ex ey ⟨_, _, rfl, rfl, p.val sm (vi _ _ _ _)⟩
  · exact p.elim
theorem op2_ishr : Op2 X G W (inplaceOp .RShift) opShr := by
  intro pins s σ H F ι h x y vx vy ux uy Q I sm rx ry ex ey p
  unfold opShr at p
  split at p
  · cases rx
    cases ry
    split at p
    · rename_i z
      exact iop_shr pins s σ H _ _ _ _ Q I ex ey ⟨_, _, rfl, rfl, z, p.val sm (vi _ _ _ _)⟩
    · exact p.elim
  · exact p.elim
/-- o[i] by values: a list, a dict -/
def opGet (x y : Val) (h : EH) : R Val := match y with
  | .d k => match getL x h with
    | some xs => match k with
      | .int i => match atV xs i with
        | some v => .ok v h
        | none => .bad
      | _ => .bad
    | none => match dGet x k h with
      | some (some v) => .ok v h
      | _ => .bad
  | _ => .bad
theorem get_ok (hu : X.A.units + 1 < cLine) {pins : List (Addr × Obj)} {s : Shared} {σ : St} {H F : Hp} {ι : List Addr} {h : EH} {x y : Val} {vx vy : V} {ux uy : Value} {Q : VK} (I : Inv X pins σ H s) (sm : Sim X.K G F ι h H)
    (rx : RV X.K ι H x vx) (ry : RV X.K ι H y vy) (ex : RelV vx ux) (ey : RelV vy uy) (p : PostE X.K G F W σ Q ι H (opGet x y h)) : wpAny (model X.prog X.w) X.A (getItem ux uy) (EP X pins σ Q) X.xe s := by
  unfold opGet at p
  split at p
  · rename_i k
    split at p
    · rename_i xs e1
      split at p
      · rename_i i
        split at p
        · rename_i v e2
          obtain ⟨a, n, vs, rfl, hn, ha, rfl, h1, r1⟩ := getL_ok e1 sm rx
          obtain ⟨w, hw, rw'⟩ := atV_ok r1 e2
          cases ry
          obtain rfl : ux = Value.ref a := ex
          obtain ⟨t, rfl⟩ := ey
          obtain ⟨its, r, pl, hz⟩ := I.list (SqL.of h1)
          obtain ⟨j, h1', h2, h3, h4, h5⟩ := atI_get hw
          obtain ⟨w2, ew, rw2⟩ := r.get h2
          have hl := r.length
          have hn := line63
          have fin : EP X pins σ Q w2 s := ⟨w, H, I, rw2, p.val sm rw'⟩
          by_cases h0 : 0 ≤ i
          · have hj : i.toNat = j := by
              rw [seqIndex_of h0 h5] at h1'
              exact Option.some.inj h1'
            exact wpAny_getItem_list pl.isList h0 (by omega) (by rw [hj]; simpa using ew) fin
          · have hj : (i + (its.toArray.size : Int)).toNat = j := by
              rw [seqIndex_neg (by omega) h4] at h1'
              rw [List.size_toArray, ← hl]
              exact Option.some.inj h1'
            exact wpAny_getItem_list_neg pl.isList (by omega) (by rw [List.size_toArray] <;> omega) (by omega) (by rw [hj]; simpa using ew) fin
        · exact p.elim
      · exact p.elim
    · split at p
      · rename_i y' e
        obtain ⟨a, w, rfl, g, g1, _⟩ := dGet_ok e sm rx ry
        obtain ⟨w', rfl, rw'⟩ := g1 _ rfl
        obtain rfl : ux = Value.ref a := ex
        exact d_getItem hu I g ey fun w2 s2 I2 r2 => ⟨w', H, I2, r2, p.val sm rw'⟩
      · exact p.elim
  · exact p.elim
/-- o[i] op= e -/
def sAugS (o i : M Val) (op : Val → Val → EH → R Val) (me : M Val) : MS := fun env h => (o env h).run env fun ov h1 => (i env h1).run env fun iv h2 => (noX (opGet ov iv h2)).run env fun x h3 => (me env h3).run env fun y h4 => (noX (op x y h4)).run env fun z h5 =>
  (noX (opSet ov iv z h5)).run env fun _ h6 => .nx env h6
theorem rs_augS {o i : Expr} {mo mi : M Val} {op : Operator} {f : Val → Val → EH → R Val} {tpos : Pos} (hu : X.A.units + 1 < cLine) (ha : ∀ ov iv new, augStore i ov iv new = (do holding [new, ov, iv] (setItem ov iv new); release [new, ov, iv] []; pure .next))
    (ho : PE X o (rdE X.K G W mo)) (hi : PE X i (rdE X.K G W mi)) (hp : Op2 X G WF (inplaceOp op) f) (he : PE X e (rdE X.K G W me)) : PS X (.AugAssign (.Subscript o i tpos) op e pos) (rdS X.K G W (sAugS mo mi f me)) :=
  PS.imp (ps_augS (tget := fun v u H Q => ∃ F ι h x y σ0, Sim X.K G F ι h H ∧ RV X.K ι H x v ∧ RV X.K ι H y u ∧ PostE X.K G F WF σ0 Q ι H (opGet x y h))
    (tip := fun v u H Q => ∃ F ι h x y σ0, Sim X.K G F ι h H ∧ RV X.K ι H x v ∧ RV X.K ι H y u ∧ PostE X.K G F WF σ0 Q ι H (f x y h))
    (tset := fun v u w H Q => ∃ F ι h x y z σ0, Sim X.K G F ι h H ∧ RV X.K ι H x v ∧ RV X.K ι H y u ∧ RV X.K ι H z w ∧ PostG RU X.K G F WF σ0 (fun _ => Q) ι H (opSet x y z h)) ho hi
    (fun pins s σ H v u vu uu Q I r1 r2 ⟨F, ι, h, x, y, σ0, sm, rx, ry, p⟩ => get_ok (W := WF) hu I sm rx ry r1 r2 (wf_any p)) he
    (fun pins s σ H v u vu uu Q I r1 r2 ⟨F, ι, h, x, y, σ0, sm, rx, ry, p⟩ => hp I sm rx ry r1 r2 (wf_any p))
    (fun pins s σ H v u w vu uu wu Q I r1 r2 r3 ⟨F, ι, h, x, y, z, σ0, sm, rx, ry, rz, p⟩ => set_ok (W := WF) (Q := fun _ => Q) hu I sm rx ry rz r1 r2 r3 (wf_any p)) ha) fun D σ H ⟨F, ι, env, h, en, sm, p⟩ =>
    rs_run en sm p fun ι1 H1 h1 ov v1 x1 sm1 r1 p1 => rs_run (en.ext x1) sm1 p1 fun ι2 H2 h2 iv v2 x2 sm2 r2 p2 => ⟨F, ι2, h2, ov, iv, σ, sm2, r1.ext x2, r2, by
      have z := run_noX (rel := RV X.K) (σ' := σ) p2
      refine PostG_imp z fun v H' ⟨ι3, h3, x, x3, s3, r3, p3⟩ => ?_
      refine rs_run (((en.ext x1).ext x2).ext x3) s3 p3 fun ι4 H4 h4 y v4 x4 sm4 r4 p4 => ⟨F, ι4, h4, x, y, σ, sm4, r3.ext x4, r4, ?_⟩
      have z4 := run_noX (rel := RV X.K) (σ' := σ) p4
      refine PostG_imp z4 fun v H' ⟨ι5, h5, w, x5, s5, r5, p5⟩ => ?_
      refine ⟨F, ι5, h5, ov, iv, w, σ, s5, (((r1.ext x2).ext x3).ext x4).ext x5, ((r2.ext x3).ext x4).ext x5, r5, ?_⟩
      have z6 := run_noX (rel := RU) (σ' := σ) p5
      exact PostG_imp z6 fun v H' ⟨ι7, h7, w, x7, s7, r7, p7⟩ => p7 ι7 H' σ (Ext.refl _ _) ((((((en.ext x1).ext x2).ext x3).ext x4).ext x5).ext x7) s7⟩
/-- o.f op= e -/
def sAugF (o : M Val) (f : Nat) (op : Val → Val → EH → R Val) (me : M Val) : MS := fun env h => (o env h).run env fun ov h1 => match insAt ov h1 with
  | some (_, c, fs) => match getF f fs with
    | some x => (me env h1).run env fun y h4 => (noX (op x y h4)).run env fun z h5 => match insAt ov h5 with
      | some (n', c', fs') => if Nat.beq c' c = true ∧ Nat.blt fs'.length 1000 = true then .nx env (h5.set n' (.ins c' (setF f z fs'))) else .bad
      | none => .bad
    | none => .bad
  | none => .bad
theorem rs_augF {o : Expr} {mo : M Val} {f : Nat} {op : Operator} {g : Val → Val → EH → R Val} {tpos : Pos} (inj : ∀ g, G.att g = G.att f → g = f) (hc : ∀ c, c < G.nc → Cls X.K (G.cls c)) (hn : ∀ c, c < G.nc → NoAttr X.K (G.cls c) (G.att f))
    (ho : PE X o (rdE X.K G W mo)) (hp : Op2 X G WF (inplaceOp op) g) (he : PE X e (rdE X.K G W me)) : PS X (.AugAssign (.Attribute o (G.att f) tpos) op e pos) (rdS X.K G W (sAugF mo f g me)) :=
  PS.imp (ps_fldaug (rd := fun v u H Q => ∃ F ι h x y σ0, Sim X.K G F ι h H ∧ RV X.K ι H x v ∧ RV X.K ι H y u ∧ PostE X.K G F WF σ0 Q ι H (g x y h)) ho he
    (fun pins s σ H v u vu uu Q I r1 r2 ⟨F, ι, h, x, y, σ0, sm, rx, ry, p⟩ => hp I sm rx ry r1 r2 (wf_any p))) fun D σ H ⟨F, ι, env, h, en, sm, p⟩ =>
    rs_run en sm p fun ι1 H1 h1 ov v1 x1 sm1 r1 p1 => by
      split at p1
      · rename_i n c fs ei
        split at p1
        · rename_i x ef
          obtain ⟨a, dx, vs, hlt, ex, hn1, ha, rfl, hi, ff⟩ := insAt_ok ei sm1 r1
          rcases getF_ok inj ff with ⟨z, _⟩ | ⟨y, w, z1, z2, z3⟩
          · rw [z] at ef
            cases ef
          · rw [z1] at ef
            cases ef
            refine ⟨a, _, dx, vs, w, rfl, hi, hc c hlt, hn c hlt, z2, rs_run (en.ext x1) sm1 p1 fun ι2 H2 h2 y2 v2 x2 sm2 r2 p2 => ⟨F, ι2, h2, x, y2, σ, sm2, z3.ext x2, r2, ?_⟩⟩
            refine PostG_imp (run_noX (rel := RV X.K) (σ' := σ) p2) fun v H' ⟨ι5, h5, w5, x5, s5, r5, p5⟩ => ?_
            split at p5
            · rename_i n' c' fs' ei'
              split at p5
              · rename_i cond
                obtain ⟨c1, c2⟩ := cond
                obtain rfl := Nat.eq_of_beq_eq_true c1
                obtain ⟨a', dx', vs', hlt', ex', hn', ha', ea, hi', ff'⟩ := insAt_ok ei' s5 ((r1.ext x2).ext x5)
                cases ea
                refine ⟨dx', vs', hi', by rw [← Paired.length ff']; exact Nat.le_of_ble_eq_true c2, ?_⟩
                have im := Ext.imm (ι := ι5) (s5.immSet (o := .ins (G.cls c') dx' (putF (G.att f) v vs')) hn' rfl ha')
                exact p5 ι5 _ σ im (((((en.ext x1).ext x2).ext x5)).ext im) (s5.set hn' rfl ha' ⟨hlt', _, _, upd_same, FF.ext im (ff'.put inj r5)⟩)
              · exact p5.elim
            · exact p5.elim
        · exact p1.elim
      · exact p1.elim

/-! ### a, b = x, y -/
def sPar (is : List Nat) (ma : M (List Val)) : MS := fun env h => (ma env h).run env fun xs h1 => if Nat.beq xs.length is.length = true then .nx (setAll is xs env) h1 else .bad
theorem rs_par2 {i j : Nat} {x y : Str} {a b : Expr} {ma : M (List Val)} {px py pt : Pos} {kt k2 pt2} (hc : X.calm = true) (hN : X.N.Nodup) (hi : X.N[i]? = some x) (hj : X.N[j]? = some y) (hij : i ≠ j)
    (hx : X.env.scope.names.lookup x = some .local) (hy : X.env.scope.names.lookup y = some .local)
    (hw : swappedStores [.Tuple [.Name x px, .Name y py] kt pt] (.Tuple [a, b] k2 pt2) X.env = pure (some [x, y]))
    (hs : swapsWithSole [.Tuple [.Name x px, .Name y py] kt pt] (.Tuple [a, b] k2 pt2) pos.line X.env = pure false) (ha : PA X [a, b] (rdA X.K G W ma)) :
    PS X (.Assign [.Tuple [.Name x px, .Name y py] kt pt] (.Tuple [a, b] k2 pt2) pos) (rdS X.K G W (sPar [i, j] ma)) :=
  PS.imp (ps_par hc hN hi hj hij hx hy ha hw hs) fun D σ H ⟨F, ι, env, h, en, sm, p⟩ => rs_run en sm p fun ι1 H1 h1 xs vs e1 sm1 r1 p1 => by
    split at p1
    · rename_i z
      match xs, z, r1, p1 with
      | [x, y], _, r1, p1 =>
        obtain ⟨v, w, rfl, rx, ry⟩ := vals2 r1
        exact ⟨v, w, rfl, p1 ι1 H1 _ (Ext.refl _ _) (((en.ext e1).set i rx).set j ry) sm1⟩
    · exact p1.elim
theorem vals3 {K : PySem.W.Frag} {ι : List Addr} {H : Hp} {x y z : Val} {vs : List V} (r : RVs K ι H [x, y, z] vs) : ∃ u v w, vs = [u, v, w] ∧ RV K ι H x u ∧ RV K ι H y v ∧ RV K ι H z w := by
  obtain ⟨u, ws, rfl, h1, h2⟩ := r
  obtain ⟨v, w, rfl, h3, h4⟩ := vals2 h2
  exact ⟨u, v, w, rfl, h1, h3, h4⟩
theorem rs_par3 {i j l : Nat} {x y z : Str} {a b c : Expr} {ma : M (List Val)} {px py pz pt : Pos} {kt k2 pt2} (hc : X.calm = true) (hN : X.N.Nodup) (hi : X.N[i]? = some x) (hj : X.N[j]? = some y) (hl : X.N[l]? = some z) (hij : i ≠ j) (hil : i ≠ l) (hjl : j ≠ l)
    (hx : X.env.scope.names.lookup x = some .local) (hy : X.env.scope.names.lookup y = some .local) (hz : X.env.scope.names.lookup z = some .local)
    (hw : swappedStores [.Tuple [.Name x px, .Name y py, .Name z pz] kt pt] (.Tuple [a, b, c] k2 pt2) X.env = pure (some [x, y, z]))
    (hs : swapsWithSole [.Tuple [.Name x px, .Name y py, .Name z pz] kt pt] (.Tuple [a, b, c] k2 pt2) pos.line X.env = pure false) (ha : PA X [a, b, c] (rdA X.K G W ma)) :
    PS X (.Assign [.Tuple [.Name x px, .Name y py, .Name z pz] kt pt] (.Tuple [a, b, c] k2 pt2) pos) (rdS X.K G W (sPar [i, j, l] ma)) :=
  PS.imp (ps_par3 hc hN hi hj hl hij hil hjl hx hy hz ha hw hs) fun D σ H ⟨F, ι, env, h, en, sm, p⟩ => rs_run en sm p fun ι1 H1 h1 xs vs e1 sm1 r1 p1 => by
    split at p1
    · rename_i q
      match xs, q, r1, p1 with
      | [x, y, z], _, r1, p1 =>
        obtain ⟨u, v, w, rfl, rx, ry, rz⟩ := vals3 r1
        exact ⟨u, v, w, rfl, p1 ι1 H1 _ (Ext.refl _ _) ((((en.ext e1).set i rx).set j ry).set l rz) sm1⟩
    · exact p1.elim

/-! ### comprehensions -/
theorem re_lc {elt tg iter : Expr} {ifs : List Expr} {scope : Scope} {own : List (Str × Nat)} {w : Nat} {mi : M Src} {t : CT} {tc : M Bool} (hc : X.calm = true) (hN : X.N.Nodup) (ok : BlkOk X.N X.env.scope scope own) (hm : ∀ i ∈ t.slots, i ∈ own.map (·.2)) (hs : ∀ x, foldedSetIterable iter X.env x = pure x)
    (hi : PI X tg iter (rdI X.K G W mi)) (hg : ∀ (s : Shared) (H : Hp) (C : Addr) (cl : List (Str × Addr)) (fp : List Addr), PG (X.blk s H scope (compEnvC scope cl C X.env) fp) tg (t.g X.K))
    (ht : ∀ (s : Shared) (H : Hp) (C : Addr) (cl : List (Str × Addr)) (fp : List Addr), PTs (X.blk s H scope (compEnvC scope cl C X.env) fp) ifs (rdT X.K G WF tc))
    (he : ∀ (s : Shared) (H : Hp) (C : Addr) (cl : List (Str × Addr)) (fp : List Addr), PE (X.blk s H scope (compEnvC scope cl C X.env) fp) elt (rdE X.K G WF me)) :
    PE X (.ListComp elt [⟨tg, iter, ifs, 0⟩] scope pos) (rdE X.K G W (mComp w mi t tc me (own.map (·.2)))) :=
  PE.imp (pe_lc hc hN hi ok hg ht he hs) fun σ H Q q => comp_read hm σ H Q q
/-- name = [..] on one line -/
theorem rs_setLc {i : Nat} {y : Str} {py spos : Pos} {elt tg iter : Expr} {ifs : List Expr} {scope : Scope} {own : List (Str × Nat)} {w : Nat} {mi : M Src} {t : CT} {tc : M Bool} (hc : X.calm = true) (hN : X.N.Nodup) (hy : X.N[i]? = some y) (hyl : X.env.scope.names.lookup y = some .local)
    (hsw : swapsWith (.ListComp elt [⟨tg, iter, ifs, 0⟩] scope pos) (some (.Name y py)) spos.line X.env = pure true) (ok : BlkOk X.N X.env.scope scope own) (hm : ∀ i ∈ t.slots, i ∈ own.map (·.2)) (hs : ∀ x, foldedSetIterable iter X.env x = pure x)
    (hi : PI X tg iter (rdI X.K G W mi)) (hg : ∀ (s : Shared) (H : Hp) (C : Addr) (cl : List (Str × Addr)) (fp : List Addr), PG (X.blk s H scope (compEnvC scope cl C X.env) fp) tg (t.g X.K))
    (ht : ∀ (s : Shared) (H : Hp) (C : Addr) (cl : List (Str × Addr)) (fp : List Addr), PTs (X.blk s H scope (compEnvC scope cl C X.env) fp) ifs (rdT X.K G WF tc))
    (he : ∀ (s : Shared) (H : Hp) (C : Addr) (cl : List (Str × Addr)) (fp : List Addr), PE (X.blk s H scope (compEnvC scope cl C X.env) fp) elt (rdE X.K G WF me)) :
    PS X (.Assign [.Name y py] (.ListComp elt [⟨tg, iter, ifs, 0⟩] scope pos) spos) (rdS X.K G W (sAsg (mComp w mi t tc me (own.map (·.2))) (tgName i))) :=
  PS.imp (ps_setLc hc hN hy hyl hsw hi ok hg ht he hs) fun D σ H ⟨F, ι, env, h, en, sm, p⟩ => by
    refine comp_read hm σ H _ (rs_run en sm p fun ι1 H1 h1 x v e1 sm1 r1 p1 => ?_)
    exact p1 ι1 H1 _ (Ext.refl _ _) ((en.ext e1).set i r1) sm1
theorem ts_nil : PTs X [] (rdT X.K G W mYes) := ⟨fun pins s σ H Q I ⟨F, ι, env, h, en, sm, p⟩ => wpAny_tests_nil ⟨H, I, p.val sm rfl⟩⟩
end
end Ev


set_option Elab.async false
set_option linter.all false
set_option maxRecDepth 100000
set_option maxHeartbeats 4000000
/-! Ev, 11: defs, calls, methods, instances. -/
namespace Ev
open PySem PySem.Spec PyProof.Rows L2

/-! ### what a call leaves -/
mutual
def Val.lt (n : Nat) : Val → Bool
  | .d _ => true
  | .r m => Nat.blt m n
  | .t xs => Val.lts n xs
  | .z _ => true
def Val.lts (n : Nat) : List Val → Bool
  | [] => true
  | x :: xs => Val.lt n x && Val.lts n xs
end
def kvLt (n : Nat) : List (D × Val) → Bool
  | [] => true
  | (_, x) :: r => Val.lt n x && kvLt n r
def fsLt (n : Nat) : List (Nat × Val) → Bool
  | [] => true
  | (_, x) :: r => Val.lt n x && fsLt n r
def Ob.lt (n : Nat) : Ob → Bool
  | .lst xs => Val.lts n xs
  | .dk kvs => kvLt n kvs
  | .dt kvs => kvLt n kvs
  | .ins _ fs => fsLt n fs
def allLt (n : Nat) : List Ob → Bool
  | [] => true
  | o :: r => Ob.lt n o && allLt n r
/-- what is younger than n is forgotten, if nothing tells of it -/
def gc (n : Nat) (v : Val) (h : EH) : R Val := if (Val.lt n v && allLt n (h.take n)) = true then .ok v (h.take n) else .ok v h
section
variable {K : PySem.W.Frag} {G : Cg} {F : Hp} {ι : List Addr} {H : Hp} {h : EH} {n : Nat}
mutual
theorem RV.cut : ∀ {x : Val} {v : V}, Val.lt n x = true → RV K ι H x v → RV K (ι.take n) H x v
  | .d _, _, _, r => r
  | .r m, v, e, r => by
    obtain ⟨a, h1, h2⟩ := r
    exact ⟨a, by rw [List.getElem?_take_of_lt (Nat.le_of_ble_eq_true e)]; exact h1, h2⟩
  | .t xs, v, e, r => by
    obtain ⟨a, vs, h1, h2, h3⟩ := r
    exact ⟨a, vs, h1, h2, RVs.cut e h3⟩
  | .z _, _, _, r => r
theorem RVs.cut : ∀ {xs : List Val} {vs : List V}, Val.lts n xs = true → RVs K ι H xs vs → RVs K (ι.take n) H xs vs
  | [], _, _, r => r
  | x :: xs, vs, e, r => by
    obtain ⟨e1, e2⟩ := Bool.and_eq_true_iff.mp e
    obtain ⟨v, ws, h1, h2, h3⟩ := r
    exact ⟨v, ws, h1, RV.cut e1 h2, RVs.cut e2 h3⟩
end
theorem KK.cut {κ : Type} {f : D → Option κ} : ∀ {xs : List (D × Val)} {ys : List (κ × V)}, kvLt n xs = true → KK K ι H f xs ys → KK K (ι.take n) H f xs ys
  | [], _, _, .nil => .nil
  | (d, x) :: xs, (k, v) :: ys, e, .cons q r => by
    obtain ⟨e1, e2⟩ := Bool.and_eq_true_iff.mp e
    exact .cons ⟨q.1, RV.cut e1 q.2⟩ (KK.cut e2 r)
theorem FF.cut : ∀ {xs : List (Nat × Val)} {ys : List (Str × V)}, fsLt n xs = true → FF K G ι H xs ys → FF K G (ι.take n) H xs ys
  | [], _, _, .nil => .nil
  | (d, x) :: xs, (k, v) :: ys, e, .cons q r => by
    obtain ⟨e1, e2⟩ := Bool.and_eq_true_iff.mp e
    exact .cons ⟨q.1, RV.cut e1 q.2⟩ (FF.cut e2 r)
theorem ObR.cut {a : Addr} : ∀ {o : Ob}, Ob.lt n o = true → ObR K G ι H a o → ObR K G (ι.take n) H a o
  | .lst xs, e, ⟨vs, h1, h2⟩ => ⟨vs, h1, RVs.cut e h2⟩
  | .dk xs, e, ⟨vs, h1, h2⟩ => ⟨vs, h1, KK.cut e h2⟩
  | .dt xs, e, ⟨vs, h1, h2⟩ => ⟨vs, h1, KK.cut e h2⟩
  | .ins c fs, e, ⟨hc, dx, vs, h1, h2⟩ => ⟨hc, dx, vs, h1, FF.cut e h2⟩
theorem allLt_get : ∀ {l : List Ob} {m : Nat} {o : Ob}, allLt n l = true → l[m]? = some o → Ob.lt n o = true
  | [], _, _, _, e => by simp at e
  | p :: l, 0, o, h, e => by
    simp at e
    subst e
    exact (Bool.and_eq_true_iff.mp h).1
  | p :: l, m + 1, o, h, e => allLt_get (Bool.and_eq_true_iff.mp h).2 (by simpa using e)
theorem Sim.cut (s : Sim K G F ι h H) (e : allLt n (h.take n) = true) : Sim K G F (ι.take n) (h.take n) H := by
  refine ⟨by simp [s.len], fun m o a eo ea => ?_, s.nd.sublist (List.take_sublist _ _), s.fr, fun a m => s.out a (List.mem_of_mem_take m)⟩
  have lt := allLt_get e eo
  have hm : m < n := by
    have z := (List.getElem?_eq_some_iff.mp eo).1
    simp at z
    omega
  rw [List.getElem?_take_of_lt hm] at eo ea
  exact (s.ob m o a eo ea).cut lt
/-- a younger object is taken up -/
theorem Sim.adopt1 {a : Addr} {o : Ob} (s : Sim K G F ι h H) (na : a ∉ ι) (hF : F a = none) (ho : ObR K G (ι ++ [a]) H a o) : Sim K G F (ι ++ [a]) (h ++ [o]) H := by
  have x : Ext ι H (ι ++ [a]) H := ⟨⟨[a], rfl⟩, Imm.refl H⟩
  refine ⟨by simp [s.len], fun n q b e ea => ?_, ?_, s.fr, fun b m => ?_⟩
  · by_cases hn : n < h.length
    · rw [List.getElem?_append_left hn] at e
      rw [List.getElem?_append_left (by rw [s.len]; exact hn)] at ea
      exact (s.ob n q b e ea).ext x rfl
    · have hl : n = h.length := by
        have z := (List.getElem?_eq_some_iff.mp e).1
        rw [List.length_append, List.length_singleton] at z
        omega
      subst hl
      rw [List.getElem?_append_right (Nat.le_refl _)] at e
      rw [List.getElem?_append_right (by rw [s.len]; exact Nat.le_refl _), s.len] at ea
      simp at e ea
      subst e ea
      exact ho
  · rw [List.nodup_append]
    refine ⟨s.nd, by simp, fun b hb c hc => ?_⟩
    simp at hc
    subst hc
    rintro rfl
    exact na hb
  · rcases List.mem_append.mp m with m1 | m1
    · exact s.out b m1
    · simp at m1
      subst m1
      exact hF
/-- a piece of pure data leaves the heap alone -/
theorem Sim.frame {H' : Hp} {ι' : List Addr} {h' : EH} (s : Sim K G F ι h H) (s' : Sim K G H ι' h' H') (im : Imm H H') : Sim K G F ι h H' := by
  have same : ∀ a o, H a = some o → H' a = some o := s'.fr
  exact ⟨s.len, fun n o a e ea => by
    have q := s.ob n o a e ea
    obtain ⟨x, hx, _⟩ := q.some
    exact q.ext (Ext.imm im) ((same a x hx).trans hx.symm), s.nd, fun a o e => same a o (s.fr a o e), s.out⟩
end

/-! ### calls -/
abbrev Fn := List Val → EH → R Val
/-- a call's end, in the caller's heap -/
def callSh (f : Fn) (xs : List Val) (h : EH) : R Val := match f xs h with
  | .ok v h' => gc h.length v h'
  | r => r
/-- pure data alone is given: the callee runs apart -/
def callFn (f : Fn) (xs : List Val) (h : EH) : R Val := match pures xs with
  | none => callSh f xs h
  | some _ => match f xs [] with
    | .bad => .bad
    | .exc c fs _ => .exc c fs h
    | .ok v h' => match v with
      | .d d => .ok (.d d) h
      | .r n => match h'[n]? with
        | some (.lst ys) => match pures ys with
          | some _ => .ok (.r h.length) (h ++ [.lst ys])
          | none => callSh f xs h
        | _ => callSh f xs h
      | _ => callSh f xs h
/-- what a def promises -/
def SpE (K : PySem.W.Frag) (G : Cg) (f : Fn) : Sp := fun vs H Q E => ∃ F ι h xs, RVs K ι H xs vs ∧ Sim K G F ι h H ∧ PostE K G F (fun cv d _ H' => E cv d H') [] Q ι H (f xs h)
section
variable {K : PySem.W.Frag} {G : Cg} {F : Hp} {ι : List Addr} {H : Hp} {h : EH} {W : WX} {σ : St} {Q : VK}
theorem callSh_sp {f : Fn} {xs : List Val} {vs : List V} (flat : ∀ c d σ σ' H, W c d σ H → W c d σ' H) (sm : Sim K G F ι h H) (r : RVs K ι H xs vs) (p : PostE K G F W σ Q ι H (callSh f xs h)) :
    SpE K G f vs H Q (fun cv d H' => ∀ σ', W cv d σ' H') := by
  refine ⟨F, ι, h, xs, r, sm, ?_⟩
  unfold callSh at p
  cases e : f xs h with
  | bad =>
    rw [e] at p
    exact p.elim
  | exc c fs h' =>
    rw [e] at p
    exact fun ι1 H1 cv d x1 s1 xr σ' => flat _ _ _ _ _ (p ι1 H1 cv d x1 s1 xr)
  | ok v h' =>
    rw [e] at p
    have p : PostE K G F W σ Q ι H (gc h.length v h') := p
    unfold gc at p
    intro ι1 H1 u x1 s1 ru
    split at p
    · rename_i c
      obtain ⟨c1, c2⟩ := Bool.and_eq_true_iff.mp c
      obtain ⟨⟨κ, rfl⟩, im⟩ := x1
      have et : (ι ++ κ).take h.length = ι := by rw [← sm.len]; simp
      have s2 := s1.cut c2
      have r2 := RV.cut c1 ru
      rw [et] at s2 r2
      exact p ι H1 u (Ext.imm im) s2 r2
    · exact p ι1 H1 u x1 s1 ru
mutual
theorem RD.toNil : ∀ {d : D} {v : V}, RD K H d v → RV K [] H (.d d) v := fun {d v} r => r
end
theorem RVs.pure {xs : List Val} {ds : List D} : ∀ {vs : List V}, pures xs = some ds → RVs K ι H xs vs → ∀ ι', RVs K ι' H xs vs := fun {vs} e r ι' => by
  induction xs generalizing ds vs with
  | nil => exact r
  | cons x xs ih =>
    obtain ⟨v, ws, rfl, r1, r2⟩ := r
    cases x with
    | d y =>
      unfold pures at e
      obtain ⟨es, e1, rfl⟩ := Option.map_eq_some_iff.mp e
      exact ⟨v, ws, rfl, r1, ih e1 r2⟩
    | r n => cases e
    | t ys => cases e
    | z ys => cases e
theorem callFn_sp {f : Fn} {xs : List Val} {vs : List V} (flat : ∀ c d σ σ' H, W c d σ H → W c d σ' H) (sm : Sim K G F ι h H) (r : RVs K ι H xs vs) (p : PostE K G F W σ Q ι H (callFn f xs h)) :
    SpE K G f vs H Q (fun cv d H' => ∀ σ', W cv d σ' H') := by
  unfold callFn at p
  split at p
  · exact callSh_sp flat sm r p
  · rename_i ds ep
    have go : ∀ (v : Val) (h' : EH), f xs [] = .ok v h' → (∀ ι' H' u, Imm H H' → Sim K G H ι' h' H' → RV K ι' H' v u → Q u H') → SpE K G f vs H Q (fun cv d H' => ∀ σ', W cv d σ' H') := fun v h' e k => by
      refine ⟨H, [], [], xs, RVs.pure ep r [], Sim.zero H, ?_⟩
      rw [e]
      exact fun ι1 H1 u x1 s1 ru => k ι1 H1 u x1.2 s1 ru
    split at p
    · exact p.elim
    · rename_i c fs h' e
      refine ⟨H, [], [], xs, RVs.pure ep r [], Sim.zero H, ?_⟩
      rw [e]
      exact fun ι1 H1 cv d x1 s1 xr σ' => flat _ _ _ _ _ (p ι H1 cv d (Ext.imm x1.2) (sm.frame s1 x1.2) xr)
    · rename_i v h' e
      split at p
      · rename_i d
        exact go _ _ e fun ι' H' u im s1 ru => p ι H' u (Ext.imm im) (sm.frame s1 im) ru
      · rename_i n
        split at p
        · rename_i ys eo
          split at p
          · rename_i es ey
            refine go _ _ e fun ι' H' u im s1 ru => ?_
            obtain ⟨a, ha, rfl⟩ := ru
            obtain ⟨ws, h1, h2⟩ := s1.ob n _ a eo ha
            have s2 := sm.frame s1 im
            have nH : H a = none := s1.out a (List.mem_of_getElem? ha)
            have na : a ∉ ι := fun m => by
              obtain ⟨q, hq⟩ := sm.mem m
              rw [nH] at hq
              cases hq
            have hF : F a = none := by
              cases eF : F a with
              | none => rfl
              | some o =>
                have z := sm.fr a o eF
                rw [nH] at z
                cases z
            refine p (ι ++ [a]) H' (.ref a) ⟨⟨[a], rfl⟩, im⟩ (s2.adopt1 na hF ⟨ws, h1, RVs.pure ey h2 _⟩) ⟨a, ?_, rfl⟩
            rw [← sm.len]
            exact getNew
          · exact callSh_sp flat sm r p
        · exact callSh_sp flat sm r p
      · exact callSh_sp flat sm r p
end

/-! ### defs -/
def startE (m : Nat) (xs : List Val) : Env' := xs.map some ++ List.replicate (m - xs.length) none
def RS.fn : RS → R Val
  | .nx _ h => .ok (.d .non) h
  | .rt v h => .ok v h
  | .exc c fs _ h => .exc c fs h
  | _ => .bad
/-- a def of n parameters and m names -/
def fnOf (n m : Nat) (b : MS) : Fn := fun xs h => if Nat.beq xs.length n = true then (b (startE m xs) h).fn else .bad
theorem startE_ok {K : PySem.W.Frag} {ι : List Addr} {H : Hp} {xs : List Val} {vs : List V} {N : List Str} (r : RVs K ι H xs vs) : EnvR K ι H (startE N.length xs) (L2.start N vs) := by
  refine ⟨by simp [startE, L2.start, r.len], fun i x e => ?_⟩
  unfold startE at e
  by_cases hi : i < xs.length
  · rw [List.getElem?_append_left (by simpa using hi), List.getElem?_map] at e
    obtain ⟨y, e1, e2⟩ := Option.map_eq_some_iff.mp e
    cases e2
    obtain ⟨v, h1, h2⟩ := r.get e1
    refine ⟨v, ?_, h2⟩
    unfold L2.start
    rw [List.getElem?_append_left (by rw [List.length_map, ← r.len]; exact hi), List.getElem?_map, h1]
    rfl
  · rw [List.getElem?_append_right (by simpa using hi), List.getElem?_replicate] at e
    split at e <;> cases e
/-- the context of a body: the facts that the rules ask for -/
structure Ct (X : Cx) (N : List Str) (names : List (Str × NameKind)) (k : Nat) (W : WX) : Prop where
  hN : X.N = N
  nd : N.Nodup
  calm : X.calm = true
  kf : ∀ x kd, kd ≠ .free → names.lookup x = some kd → X.env.scope.names.lookup x = some kd
  kfr : ∀ x, names.lookup x = some .free → X.env.scope.names.lookup x = some .cell ∨ X.env.scope.names.lookup x = some .free
  fn : ∀ x, names.lookup x = some .cell → X.fn x = true
  room : Room k X.A
  takes : Takes X W
  flat : ∀ c d σ σ' H, W c d σ H → W c d σ' H
  kind : X.env.scope.kind = .function
structure CtS (X : Cx) (N : List Str) (names : List (Str × NameKind)) (k : Nat) (W : WX) : Prop extends Ct X N names k W where
  pass : PassesOwn (model X.prog X.w) X.A X.env X.xe
section
variable {X : Cx} {N : List Str} {names : List (Str × NameKind)} {k : Nat} {W : WX}
theorem Ct.vis (C : Ct X N names k W) {x : Str} {kd : NameKind} (h : names.lookup x = some kd) (hk : kd = .local ∨ kd = .cell ∨ kd = .free) : Vis X.env.scope x := by
  rcases hk with rfl | rfl | rfl
  · exact .inl (C.kf x _ (by decide) h)
  · exact .inr (.inl (C.kf x _ (by decide) h))
  · rcases C.kfr x h with z | z
    · exact .inr (.inl z)
    · exact .inr (.inr z)
theorem Ct.gl (C : Ct X N names k W) {x : Str} (h : names.lookup x = some .globalImplicit) : Gl X x := C.kf x _ (by decide) h
def scOf (names : List (Str × NameKind)) : Scope := ⟨.function, names, false, false, []⟩
theorem Ct.blkOk (C : Ct X N names k W) {scope : Scope} {own : List (Str × Nat)} (hb : blkC N (scOf names) scope own = true) : BlkOk X.N X.env.scope scope own := by
  obtain ⟨h1, h2, h3, h4, h5⟩ := blkOk_by hb
  rw [C.hN]
  refine ⟨h1, h2, h3, fun y hy e => ?_, h5⟩
  rcases h4 y hy e with z | z
  · exact .inl (C.kf _ _ (by decide) z)
  · exact C.kfr _ z
theorem lookup_relS_free {sc : Scope} : ∀ {names : List (Str × NameKind)} {x : Str}, names.lookup x = some .free →
    (names.map fun (n, k) => if (k == NameKind.free && sc.kind == .function && sc.names.lookup n == some .cell) then (n, NameKind.cell) else (n, k)).lookup x = some .cell ∨
    (names.map fun (n, k) => if (k == NameKind.free && sc.kind == .function && sc.names.lookup n == some .cell) then (n, NameKind.cell) else (n, k)).lookup x = some .free
  | [], _, h => by simp at h
  | (n, k₀) :: r, x, h => by
    have ih := @lookup_relS_free sc r x
    rw [List.map_cons]
    show (List.lookup x ((if (k₀ == NameKind.free && sc.kind == .function && sc.names.lookup n == some .cell) = true then (n, NameKind.cell) else (n, k₀)) :: _) = _) ∨ (List.lookup x ((if (k₀ == NameKind.free && sc.kind == .function && sc.names.lookup n == some .cell) = true then (n, NameKind.cell) else (n, k₀)) :: _) = _)
    cases hx : x == n with
    | true =>
      simp only [List.lookup_cons, hx] at h
      cases h
      split
      · exact .inl (by simp only [List.lookup_cons, hx])
      · exact .inr (by simp only [List.lookup_cons, hx])
    | false =>
      simp only [List.lookup_cons, hx] at h
      split
      · simp only [List.lookup_cons, hx]
        exact ih h
      · simp only [List.lookup_cons, hx]
        exact ih h
theorem Ct.blk (C : Ct X N names k W) {scope : Scope} {own : List (Str × Nat)} (hb : blkC N (scOf names) scope own = true) (s : Shared) (H : Hp) (A : Addr) (cl : List (Str × Addr)) (fp : List Addr) :
    Ct (X.blk s H scope (compEnvC scope cl A X.env) fp) N scope.names k WF where
  hN := C.hN
  nd := C.nd
  calm := C.calm
  kf := fun x kd hk h => lookup_relS_keep hk h
  kfr := fun x h => lookup_relS_free h
  fn := fun x h => by
    show (scope.names.lookup x == some .cell) = true
    rw [h]
    rfl
  room := C.room
  takes := takesF
  flat := fun _ _ _ _ _ h => h
  kind := (blkOk_by hb).kind
/-- a def keeps its promise, by its body -/
theorem fn_ok {P : Program} {w : World} {K : PySem.W.Frag} {mg : Str → Option Value} {base : Heap} {G : Cg} {x qual : Str} {params : Arguments} {body : List Stmt} {scope : Scope} {dvs : List V} {kws : List (Str × V)} {f : Addr} {fd : FuncData} {ps : List Str} {b : MS}
    (FD : FunD K x qual params body scope dvs kws f fd) (S : FnScope N ps scope) (hb : ∀ (X : Cx) (W : WX), X.prog = P → X.w = w → X.K = K → X.mg = mg → X.base = base → CtS X N scope.names k W → PSs X body (rdS X.K G W b)) :
    FnOk P w K mg base (CX P w) (k + 1) f fd ps (SpE K G (fnOf ps.length N.length b)) := by
  refine FD.ok S (fun vs H Q E h => ?_) fun cdv A outer s H vs Q E hr h => ?_
  · obtain ⟨F, ι, h, xs, r, sm, p⟩ := h
    unfold fnOf at p
    split at p
    · rename_i z
      rw [← r.len]
      exact Nat.eq_of_beq_eq_true z
    · exact p.elim
  · refine ⟨_, hb (cxOf (CX P w) P w K mg base N qual scope f cdv A outer s H E) (fun cd d _ H' => E cd d H') rfl rfl rfl rfl rfl ?_, ?_⟩
    · refine ⟨⟨rfl, S.nd, rfl, fun x kd _ h => h, fun x h => .inr h, fun _ _ => rfl, hr, takes_of rfl rfl rfl rfl, fun _ _ _ _ _ h => h, S.kind⟩, passes_of rfl⟩
    · obtain ⟨F, ι, h, xs, r, sm, p⟩ := h
      refine ⟨F, ι, startE N.length xs, h, startE_ok r, sm, ?_⟩
      unfold fnOf at p
      split at p
      · cases e : b (startE N.length xs) h with
        | nx env' h' =>
          rw [e] at p
          exact fun ι1 H1 σ1 x1 en1 s1 => p ι1 H1 .non x1 s1 rfl
        | rt v h' =>
          rw [e] at p
          exact fun ι1 H1 v1 x1 s1 r1 => p ι1 H1 v1 x1 s1 r1
        | exc c fs env' h' =>
          rw [e] at p
          exact fun ι1 H1 σ1 cv d x1 en1 s1 xr => p ι1 H1 cv d x1 s1 xr
        | bk env' h' =>
          rw [e] at p
          exact p.elim
        | ct env' h' =>
          rw [e] at p
          exact p.elim
        | bad =>
          rw [e] at p
          exact p.elim
      · exact p.elim

/-! ### calls of defs -/
def mCall (f : Fn) (ds : List D) (ma : M (List Val)) : M Val := fun env h => (ma env h).bind fun xs h1 => callFn f (xs ++ ds.map .d) h1
variable {G : Cg} {f : Fn} {j : Nat} {a : Addr} {fd : FuncData} {ps : List Str} {ds : List D} {dvs : List V} {dus : List Value} {x : Str} {p pos : Pos} {e : Expr} {es : List Expr} {ma : M (List Val)}
theorem xpass (C : Ct X N names k W) : Passes (CX X.prog X.w) X (fun cv d H' => ∀ σ', W cv d σ' H') := passes_call C.takes fun cls d σ H h => h σ
theorem call_imp (C : Ct X N names k W) (hd : ∀ H, RDs X.K H ds dvs) (σ : St) (H : Hp) (Q : VK) (q : rdE X.K G W (mCall f ds ma) σ H Q) : tCall (SpE X.K G f) dvs (fun cv d H' => ∀ σ', W cv d σ' H') (rdA X.K G W ma) σ H Q := by
  obtain ⟨F, ι, env, h, en, sm, p⟩ := q
  exact rd_bind en sm p fun ι1 H1 h1 xs vs x1 sm1 r1 p1 => callFn_sp C.flat sm1 (r1.append (RDs.vals (hd H1))) p1
theorem re_call (C : Ct X N names k W) (FO : FnOk X.prog X.w X.K X.mg X.base (CX X.prog X.w) j a fd ps (SpE X.K G f)) (hj : Nat.ble j k = true) (hg : Gl X x) (hm : X.mg x = some (.ref a)) (hk : PySem.W.keepIn X.K (.ref a) = true) (hb : Binds X.K fd ps dus) (hv : Vals dvs dus) (hd : ∀ H, RDs X.K H ds dvs)
    (hdb : (x == ("__debug__" : Str)) = false) (he : starEach (e :: es) X.env = (false, eval e X.env) :: starEach es X.env) (hpl : (backTo pos (starEach es X.env)).any (·.1) = false) (ha : PA X (e :: es) (rdA X.K G W ma)) :
    PE X (.Call (.Name x p) (e :: es) [] pos) (rdE X.K G W (mCall f ds ma)) :=
  PE.imp (pe_call (FO.mono (Nat.le_of_ble_eq_true hj)) C.room hg hm hk hb hv (xpass C) ha hdb he hpl) fun σ H Q q => call_imp C hd σ H Q q
theorem re_call0 (C : Ct X N names k W) (FO : FnOk X.prog X.w X.K X.mg X.base (CX X.prog X.w) j a fd ps (SpE X.K G f)) (hj : Nat.ble j k = true) (hg : Gl X x) (hm : X.mg x = some (.ref a)) (hk : PySem.W.keepIn X.K (.ref a) = true) (hb : Binds X.K fd ps dus) (hv : Vals dvs dus) (hd : ∀ H, RDs X.K H ds dvs)
    (hdb : (x == ("__debug__" : Str)) = false) : PE X (.Call (.Name x p) [] [] pos) (rdE X.K G W (mCall f ds mNil)) :=
  PE.imp (pe_call0 (FO.mono (Nat.le_of_ble_eq_true hj)) C.room hg hm hk hb hv (xpass C) hdb) fun σ H Q q => by
    obtain ⟨F, ι, env, h, en, sm, p⟩ := q
    exact callFn_sp C.flat sm (RDs.vals (hd H)) p
/-- o.m(..), c the class by its number, g the method's name -/
def mMeth (c g : Nat) (f : Fn) (ds : List D) (mo : M Val) (ma : M (List Val)) : M Val := fun env h => (mo env h).bind fun o h1 => match insAt o h1 with
  | some (_, c', fs) => if Nat.beq c' c = true then match getF g fs with
    | none => (ma env h1).bind fun xs h2 => callFn f (o :: (xs ++ ds.map .d)) h2
    | some _ => .bad
    else .bad
  | none => .bad
theorem meth_imp {c g : Nat} {mo : M Val} (inj : ∀ q, G.att q = G.att g → q = g) (C : Ct X N names k W) (hd : ∀ H, RDs X.K H ds dvs) (σ : St) (H : Hp) (Q : VK) (q : rdE X.K G W (mMeth c g f ds mo ma) σ H Q) :
    tMeth (G.cls c) (G.att g) (SpE X.K G f) dvs (fun cv d H' => ∀ σ', W cv d σ' H') (rdE X.K G W mo) (rdA X.K G W ma) σ H Q := by
  obtain ⟨F, ι, env, h, en, sm, p⟩ := q
  refine rd_bind en sm p fun ι1 H1 h1 ov v x1 sm1 r1 p1 => ?_
  split at p1
  · rename_i n c' fs ei
    split at p1
    · rename_i ec
      obtain rfl := Nat.eq_of_beq_eq_true ec
      obtain ⟨a, dx, vs, hlt, _, _, _, rfl, hi, ff⟩ := insAt_ok ei sm1 r1
      rcases getF_ok inj ff with ⟨z, z'⟩ | ⟨y, w, z, _⟩
      · rw [z] at p1
        refine ⟨a, dx, vs, rfl, hi, z', rd_bind (en.ext x1) sm1 p1 fun ι2 H2 h2 xs us x2 sm2 r2 p2 => ?_⟩
        exact callFn_sp (xs := ov :: (xs ++ ds.map .d)) C.flat sm2 ⟨_, _, rfl, r1.ext x2, r2.append (RDs.vals (hd H2))⟩ p2
      · rw [z] at p1
        exact p1.elim
    · exact p1.elim
  · exact p1.elim
theorem re_meth {c g : Nat} {o : Expr} {mo : M Val} {apos : Pos} {pl : Sem Bool} (inj : ∀ q, G.att q = G.att g → q = g) (C : Ct X N names k W) (FO : FnOk X.prog X.w X.K X.mg X.base (CX X.prog X.w) j a fd ps (SpE X.K G f)) (hj : Nat.ble j k = true) (hc : Cls X.K (G.cls c)) (hm : Meth X.K (G.cls c) (G.att g) a)
    (hb : Binds X.K fd ps dus) (hv : Vals dvs dus) (hd : ∀ H, RDs X.K H ds dvs) (hst : starEach (e :: es) X.env = (false, eval e X.env) :: starEach es X.env) (hpl : (backTo pos (starEach es X.env)).any (·.1) = false)
    (ht : eval (.Call (.Attribute o (G.att g) apos) (e :: es) [] pos) X.env = (do
      let ov ← eval o X.env
      standAt apos.atName
      let (f, first) ← holding [ov] (getMethod ov (G.att g) pl)
      callWith pos f first (backTo pos (starEach (e :: es) X.env)) (backToKw pos (keywordEach [] X.env))))
    (ho : PE X o (rdE X.K G W mo)) (ha : PA X (e :: es) (rdA X.K G W ma)) : PE X (.Call (.Attribute o (G.att g) apos) (e :: es) [] pos) (rdE X.K G W (mMeth c g f ds mo ma)) :=
  PE.imp (pe_meth ho hc hm (FO.mono (Nat.le_of_ble_eq_true hj)) C.room hb hv (xpass C) ha hst hpl ht) fun σ H Q q => meth_imp inj C hd σ H Q q
theorem re_meth0 {c g : Nat} {o : Expr} {mo : M Val} {apos : Pos} {pl : Sem Bool} (inj : ∀ q, G.att q = G.att g → q = g) (C : Ct X N names k W) (FO : FnOk X.prog X.w X.K X.mg X.base (CX X.prog X.w) j a fd ps (SpE X.K G f)) (hj : Nat.ble j k = true) (hc : Cls X.K (G.cls c)) (hm : Meth X.K (G.cls c) (G.att g) a)
    (hb : Binds X.K fd ps dus) (hv : Vals dvs dus) (hd : ∀ H, RDs X.K H ds dvs)
    (ht : eval (.Call (.Attribute o (G.att g) apos) [] [] pos) X.env = (do
      let ov ← eval o X.env
      standAt apos.atName
      let (f, first) ← holding [ov] (getMethod ov (G.att g) pl)
      callWith pos f first (backTo pos (starEach [] X.env)) (backToKw pos (keywordEach [] X.env))))
    (ho : PE X o (rdE X.K G W mo)) : PE X (.Call (.Attribute o (G.att g) apos) [] [] pos) (rdE X.K G W (mMeth c g f ds mo mNil)) :=
  PE.imp (pe_meth0 ho hc hm (FO.mono (Nat.le_of_ble_eq_true hj)) C.room hb hv (xpass C) ht) fun σ H Q q => by
    obtain ⟨F, ι, env, h, en, sm, p⟩ := meth_imp inj C hd σ H Q q
    refine ⟨F, ι, env, h, en, sm, PostG_imp p fun v H' ⟨b, dx, vs, e1, e2, e3, e4⟩ => ⟨b, dx, vs, e1, e2, e3, ?_⟩⟩
    obtain ⟨F1, ι1, env1, h1, en1, sm1, p1⟩ := e4
    exact p1 ι1 H' [] (Ext.refl _ _) sm1 rfl
/-- a new instance -/
def makeFn (c : Nat) (f : Fn) (xs : List Val) (h : EH) : R Val := match f (.r h.length :: xs) (h ++ [.ins c []]) with
  | .ok (.d .non) h' => gc (h.length + 1) (.r h.length) h'
  | .ok _ _ => .bad
  | .exc c fs h' => .exc c fs h'
  | .bad => .bad
def mMake (c : Nat) (f : Fn) (ds : List D) (ma : M (List Val)) : M Val := fun env h => (ma env h).bind fun xs h1 => makeFn c f (xs ++ ds.map .d) h1
theorem makeFn_sp {c : Nat} {F : Hp} {ι : List Addr} {H : Hp} {h : EH} {σ : St} {Q : VK} {xs : List Val} {vs : List V} (hlt : c < G.nc) (flat : ∀ c d σ σ' H, W c d σ H → W c d σ' H) (sm : Sim X.K G F ι h H) (r : RVs X.K ι H xs vs) (p : PostE X.K G F W σ Q ι H (makeFn c f xs h)) (x dx : Addr) (hx : H x = none) (hdx : H dx = none) (hne : dx ≠ x) :
    SpE X.K G f (.ref x :: vs) (upd (upd H dx (.own x)) x (.ins (G.cls c) dx [])) (fun v H2 => v = .non ∧ Q (.ref x) H2) (fun cv d H' => ∀ σ', W cv d σ' H') := by
  have hx1 : (upd H dx (.own x)) x = none := by
    rw [upd_ne (Ne.symm hne)]
    exact hx
  have e1 : Ext ι H (ι ++ [x]) (upd (upd H dx (.own x)) x (.ins (G.cls c) dx [])) := (Ext.imm (Imm.new hdx)).trans (Ext.new hx1)
  have s1 : Sim X.K G F (ι ++ [x]) (h ++ [.ins c []]) (upd (upd H dx (.own x)) x (.ins (G.cls c) dx [])) := (sm.junk hdx).add hx1 ⟨hlt, dx, [], upd_same, .nil⟩
  have el : h.length = ι.length := sm.len.symm
  refine ⟨F, ι ++ [x], h ++ [.ins c []], .r h.length :: xs, ⟨_, _, rfl, ⟨x, by rw [el]; exact getNew, rfl⟩, r.ext e1⟩, s1, ?_⟩
  unfold makeFn at p
  cases e : f (.r h.length :: xs) (h ++ [.ins c []]) with
  | bad =>
    rw [e] at p
    exact p.elim
  | exc c fs h' =>
    rw [e] at p
    exact fun ι1 H1 cv d x1 s1 xr σ' => flat _ _ _ _ _ (p ι1 H1 cv d (e1.trans x1) s1 xr)
  | ok v h' =>
    rw [e] at p
    intro ι1 H1 u x1 s1 ru
    cases v with
    | r n => exact p.elim
    | t n => exact p.elim
    | z n => exact p.elim
    | d d =>
      cases d with
      | non =>
        refine ⟨ru, ?_⟩
        have p : PostE X.K G F W σ Q ι H (gc (h.length + 1) (.r h.length) h') := p
        unfold gc at p
        obtain ⟨⟨κ, ek⟩, im⟩ := x1
        subst ek
        split at p
        · rename_i c
          obtain ⟨c1, c2⟩ := Bool.and_eq_true_iff.mp c
          have et : (ι ++ [x] ++ κ).take (h.length + 1) = ι ++ [x] := by
            rw [el]
            have : ι.length + 1 = (ι ++ [x]).length := by simp
            rw [this, List.take_left]
          have s2 := s1.cut c2
          rw [et] at s2
          exact p (ι ++ [x]) H1 (.ref x) (e1.trans (Ext.imm im)) s2 ⟨x, by rw [el]; exact getNew, rfl⟩
        · exact p (ι ++ [x] ++ κ) H1 (.ref x) (e1.trans ⟨⟨κ, rfl⟩, im⟩) s1 ⟨x, by rw [el]; simp, rfl⟩
      | _ => exact p.elim
theorem re_make {c : Nat} (C : Ct X N names k W) (hlt : c < G.nc) (MK : Mk X.K (G.cls c) a) (FO : FnOk X.prog X.w X.K X.mg X.base (CX X.prog X.w) j a fd ps (SpE X.K G f)) (hj : Nat.ble (j + 1) k = true) (hg : Gl X x) (hm : X.mg x = some (.ref (G.cls c))) (hb : Binds X.K fd ps dus) (hv : Vals dvs dus) (hd : ∀ H, RDs X.K H ds dvs)
    (hdb : (x == ("__debug__" : Str)) = false) (he : starEach (e :: es) X.env = (false, eval e X.env) :: starEach es X.env) (hpl : (backTo pos (starEach es X.env)).any (·.1) = false) (ha : PA X (e :: es) (rdA X.K G W ma)) :
    PE X (.Call (.Name x p) (e :: es) [] pos) (rdE X.K G W (mMake c f ds ma)) :=
  PE.imp (pe_make MK FO (C.room.mono (Nat.le_of_ble_eq_true hj)) hg hm hb hv (xpass C) ha hdb he hpl) fun σ H Q ⟨F, ι, env, h, en, sm, p⟩ =>
    rd_bind en sm p fun ι1 H1 h1 xs vs x1 sm1 r1 p1 x dx hx hdx hne => makeFn_sp hlt C.flat sm1 (r1.append (RDs.vals (hd H1))) p1 x dx hx hdx hne
theorem re_make0 {c : Nat} (C : Ct X N names k W) (hlt : c < G.nc) (MK : Mk X.K (G.cls c) a) (FO : FnOk X.prog X.w X.K X.mg X.base (CX X.prog X.w) j a fd ps (SpE X.K G f)) (hj : Nat.ble (j + 1) k = true) (hg : Gl X x) (hm : X.mg x = some (.ref (G.cls c))) (hb : Binds X.K fd ps dus) (hv : Vals dvs dus) (hd : ∀ H, RDs X.K H ds dvs)
    (hdb : (x == ("__debug__" : Str)) = false) :
    PE X (.Call (.Name x p) [] [] pos) (rdE X.K G W (mMake c f ds mNil)) :=
  PE.imp (pe_make0 MK FO (C.room.mono (Nat.le_of_ble_eq_true hj)) hg hm hb hv (xpass C) hdb) fun σ H Q ⟨F, ι, env, h, en, sm, p⟩ =>
    fun x dx hx hdx hne => makeFn_sp hlt C.flat sm (RDs.vals (hd H)) p x dx hx hdx hne
end
end Ev

set_option Elab.async false
set_option linter.all false
set_option maxRecDepth 100000
set_option maxHeartbeats 4000000
/-! Ev, 12: built-in functions. -/
namespace Ev
open PySem PySem.Spec PyProof.Rows L2

def mOp (op : List Val → EH → R Val) (ma : M (List Val)) : M Val := fun env h => (ma env h).bind fun xs h1 => noX (op xs h1)
theorem CallR.imp {X : Cx} {c : Value} {r r' : List V → Hp → VK → Prop} (h : CallR X c r) (i : ∀ vs H Q, r' vs H Q → r vs H Q) : CallR X c r' := fun pins s σ H xs us Q I rv q => h pins s σ H xs us Q I rv (i xs H Q q)
def rB (K : PySem.W.Frag) (G : Cg) (op : List Val → EH → R Val) : List V → Hp → VK → Prop := fun vs H Q => ∃ F ι h xs, RVs K ι H xs vs ∧ Sim K G F ι h H ∧ PostE K G F WF [] Q ι H (noX (op xs h))
section
variable {X : Cx} {N : List Str} {names : List (Str × NameKind)} {k : Nat} {W : WX} {G : Cg} {x : Str} {p pos : Pos} {e : Expr} {es : List Expr} {ma : M (List Val)} {me : M Val} {op : List Val → EH → R Val} {idn T : String}
theorem b_imp (σ : St) (H : Hp) (Q : VK) (q : rdE X.K G W (mOp op ma) σ H Q) : tCB (rB X.K G op) (rdA X.K G W ma) σ H Q := by
  obtain ⟨F, ι, env, h, en, sm, p⟩ := q
  exact rd_bind en sm p fun ι1 H1 h1 xs vs x1 sm1 r1 p1 => ⟨F, ι1, h1, xs, r1, sm1, noX_post (W' := WF) p1⟩
/-- a built-in function -/
theorem re_b (hc : CallR X (.builtin idn) (rB X.K G op)) (hg : Gl X x) (hm : X.mg x = none) (hv : bootBuiltins x = some (.builtin idn)) (hn : x ≠ "__name__") (hdb : (x == ("__debug__" : Str)) = false)
    (he : starEach (e :: es) X.env = (false, eval e X.env) :: starEach es X.env) (hpl : (backTo pos (starEach es X.env)).any (·.1) = false) (ha : PA X (e :: es) (rdA X.K G W ma)) : PE X (.Call (.Name x p) (e :: es) [] pos) (rdE X.K G W (mOp op ma)) :=
  PE.imp (pe_callB hc hg hm hv ha hn hdb he hpl) b_imp
/-- a built-in type -/
theorem re_bT (hc : CallR X (.type T) (rB X.K G op)) (hg : Gl X x) (hm : X.mg x = none) (hv : bootBuiltins x = some (.type T)) (hn : x ≠ "__name__") (hdb : (x == ("__debug__" : Str)) = false)
    (he : starEach (e :: es) X.env = (false, eval e X.env) :: starEach es X.env) (hpl : (backTo pos (starEach es X.env)).any (·.1) = false) (ha : PA X (e :: es) (rdA X.K G W ma)) : PE X (.Call (.Name x p) (e :: es) [] pos) (rdE X.K G W (mOp op ma)) :=
  PE.imp (pe_callTy hc hg hm hv ha hn hdb he hpl) b_imp

/-! ### lists of ints, of truths -/
def intsV : List Val → Option (List Int)
  | [] => some []
  | .d (.int i) :: r => (intsV r).map (i :: ·)
  | _ :: _ => none
def bls : List Val → Option (List Bool)
  | [] => some []
  | .d (.bl i) :: r => (bls r).map (i :: ·)
  | _ :: _ => none
theorem ints_ok {K : PySem.W.Frag} {ι : List Addr} {H : Hp} : ∀ {xs : List Val} {ns : List Int} {vs : List V}, intsV xs = some ns → RVs K ι H xs vs → vs = ns.map V.int
  | [], ns, vs, e, r => by
    cases e
    exact r
  | .d (.int i) :: xs, ns, vs, e, r => by
    unfold intsV at e
    obtain ⟨ms, e1, rfl⟩ := Option.map_eq_some_iff.mp e
    obtain ⟨v, ws, rfl, h1, h2⟩ := r
    cases h1
    rw [ints_ok e1 h2]
    rfl
  | .d (.non) :: xs, _, _, e, _ => by cases e
  | .d (.bl _) :: xs, _, _, e, _ => by cases e
  | .d (.str _) :: xs, _, _, e, _ => by cases e
  | .d (.tup _ _) :: xs, _, _, e, _ => by cases e
  | .r _ :: xs, _, _, e, _ => by cases e
  | .t _ :: xs, _, _, e, _ => by cases e
  | .z _ :: xs, _, _, e, _ => by cases e
theorem bls_ok {K : PySem.W.Frag} {ι : List Addr} {H : Hp} : ∀ {xs : List Val} {ns : List Bool} {vs : List V}, bls xs = some ns → RVs K ι H xs vs → vs = ns.map V.bl
  | [], ns, vs, e, r => by
    cases e
    exact r
  | .d (.bl i) :: xs, ns, vs, e, r => by
    unfold bls at e
    obtain ⟨ms, e1, rfl⟩ := Option.map_eq_some_iff.mp e
    obtain ⟨v, ws, rfl, h1, h2⟩ := r
    cases h1
    rw [bls_ok e1 h2]
    rfl
  | .d (.non) :: xs, _, _, e, _ => by cases e
  | .d (.int _) :: xs, _, _, e, _ => by cases e
  | .d (.str _) :: xs, _, _, e, _ => by cases e
  | .d (.tup _ _) :: xs, _, _, e, _ => by cases e
  | .r _ :: xs, _, _, e, _ => by cases e
  | .t _ :: xs, _, _, e, _ => by cases e
  | .z _ :: xs, _, _, e, _ => by cases e
/-- the items of a list alone -/
def getM (x : Val) (h : EH) : Option (List Val) := match asT x with
  | some _ => none
  | none => getS x h
theorem getM_ok {K : PySem.W.Frag} {F : Hp} {ι : List Addr} {h : EH} {H : Hp} {x : Val} {xs : List Val} {v : V} (e : getM x h = some xs) (sm : Sim K G F ι h H) (r : RV K ι H x v) : ∃ a vs, v = .ref a ∧ SqL K H a vs ∧ RVs K ι H xs vs := by
  unfold getM at e
  split at e
  · cases e
  · rename_i nT
    exact getS_list nT sm r e
def maxI : List Int → Option Int
  | [] => none
  | i :: r => match maxI r with
    | some m => some (if m > i then m else i)
    | none => some i
def minI : List Int → Option Int
  | [] => none
  | i :: r => match minI r with
    | some m => some (if m < i then m else i)
    | none => some i
theorem maxI_none : ∀ {ns : List Int}, maxI ns = none → ns = []
  | [], _ => rfl
  | i :: r, e => by
    unfold maxI at e
    split at e <;> cases e
theorem maxI_ge : ∀ {ns : List Int} {m : Int}, maxI ns = some m → m ∈ ns ∧ ∀ y ∈ ns, y ≤ m
  | i :: r, m, e => by
    unfold maxI at e
    split at e
    · rename_i m' e'
      obtain ⟨h1, h2⟩ := maxI_ge e'
      cases e
      by_cases c : m' > i
      · rw [if_pos c]
        refine ⟨List.mem_cons_of_mem _ h1, fun y hy => ?_⟩
        rcases List.mem_cons.mp hy with z | z
        · omega
        · exact h2 y z
      · rw [if_neg c]
        refine ⟨List.mem_cons_self, fun y hy => ?_⟩
        rcases List.mem_cons.mp hy with z | z
        · omega
        · have := h2 y z
          omega
    · rename_i e'
      cases e
      have := maxI_none e'
      subst this
      exact ⟨List.mem_cons_self, fun y hy => by simp at hy; omega⟩
theorem minI_none : ∀ {ns : List Int}, minI ns = none → ns = []
  | [], _ => rfl
  | i :: r, e => by
    unfold minI at e
    split at e <;> cases e
theorem minI_le : ∀ {ns : List Int} {m : Int}, minI ns = some m → m ∈ ns ∧ ∀ y ∈ ns, m ≤ y
  | i :: r, m, e => by
    unfold minI at e
    split at e
    · rename_i m' e'
      obtain ⟨h1, h2⟩ := minI_le e'
      cases e
      by_cases c : m' < i
      · rw [if_pos c]
        refine ⟨List.mem_cons_of_mem _ h1, fun y hy => ?_⟩
        rcases List.mem_cons.mp hy with z | z
        · omega
        · exact h2 y z
      · rw [if_neg c]
        refine ⟨List.mem_cons_self, fun y hy => ?_⟩
        rcases List.mem_cons.mp hy with z | z
        · omega
        · have := h2 y z
          omega
    · rename_i e'
      cases e
      have := minI_none e'
      subst this
      exact ⟨List.mem_cons_self, fun y hy => by simp at hy; omega⟩

/-! ### the functions -/
def okI (i : Int) (h : EH) : R Val := .ok (.d (.int i)) h
def bAbs : List Val → EH → R Val
  | [.d (.int i)], h => okI (if i < 0 then -i else i) h
  | _, _ => .bad
theorem c_abs : CallR X (.builtin "abs") (rB X.K G bAbs) := CallR.imp call_abs fun vs H Q ⟨F, ι, h, xs, r, sm, p⟩ => by
  unfold bAbs at p
  split at p
  · obtain ⟨v, rfl, rv⟩ := vals1 r
    cases rv
    exact ⟨_, rfl, p.val sm rfl⟩
  · exact p.elim
def bMax : List Val → EH → R Val
  | [.d (.int i), .d (.int j)], h => okI (if j > i then j else i) h
  | [x], h => match getM x h with
    | some xs => match intsV xs with
      | some ns => match maxI ns with
        | some m => okI m h
        | none => .bad
      | none => .bad
    | none => .bad
  | _, _ => .bad
def bMin : List Val → EH → R Val
  | [.d (.int i), .d (.int j)], h => okI (if j < i then j else i) h
  | [x], h => match getM x h with
    | some xs => match intsV xs with
      | some ns => match minI ns with
        | some m => okI m h
        | none => .bad
      | none => .bad
    | none => .bad
  | _, _ => .bad
theorem CallR.or' {f : Value} {r r' : List V → Hp → VK → Prop} (h : CallR X f r) (h' : CallR X f r') : CallR X f (fun xs H Q => r xs H Q ∨ r' xs H Q) := fun pins s σ H xs us Q I rv q => by
  rcases q with q | q
  · exact h pins s σ H xs us Q I rv q
  · exact h' pins s σ H xs us Q I rv q
theorem c_max (hc : X.calm = true) : CallR X (.builtin "max") (rB X.K G bMax) := CallR.imp (CallR.or' (call_max2 hc) (cr_max hc)) fun vs H Q ⟨F, ι, h, xs, r, sm, p⟩ => by
  unfold bMax at p
  split at p
  · obtain ⟨v, w, rfl, rv, rw'⟩ := vals2 r
    cases rv
    cases rw'
    exact .inl ⟨_, _, rfl, p.val sm rfl⟩
  · split at p
    · rename_i ys e1
      split at p
      · rename_i ns e2
        split at p
        · rename_i m e3
          obtain ⟨v, rfl, rv⟩ := vals1 r
          obtain ⟨a, ws, rfl, h1, h2⟩ := getM_ok e1 sm rv
          rw [ints_ok e2 h2] at h1
          obtain ⟨z1, z2⟩ := maxI_ge e3
          refine .inr ⟨a, ns, rfl, h1, List.length_pos_of_mem z1, fun m' h3 h4 => ?_⟩
          have : m' = m := Int.le_antisymm (z2 _ h3) (h4 _ z1)
          subst this
          exact p.val sm rfl
        · exact p.elim
      · exact p.elim
    · exact p.elim
  · exact p.elim
theorem c_min (hc : X.calm = true) : CallR X (.builtin "min") (rB X.K G bMin) := CallR.imp (CallR.or' (call_min2 hc) (cr_min hc)) fun vs H Q ⟨F, ι, h, xs, r, sm, p⟩ => by
  unfold bMin at p
  split at p
  · obtain ⟨v, w, rfl, rv, rw'⟩ := vals2 r
    cases rv
    cases rw'
    exact .inl ⟨_, _, rfl, p.val sm rfl⟩
  · split at p
    · rename_i ys e1
      split at p
      · rename_i ns e2
        split at p
        · rename_i m e3
          obtain ⟨v, rfl, rv⟩ := vals1 r
          obtain ⟨a, ws, rfl, h1, h2⟩ := getM_ok e1 sm rv
          rw [ints_ok e2 h2] at h1
          obtain ⟨z1, z2⟩ := minI_le e3
          refine .inr ⟨a, ns, rfl, h1, List.length_pos_of_mem z1, fun m' h3 h4 => ?_⟩
          have : m' = m := Int.le_antisymm (h4 _ z1) (z2 _ h3)
          subst this
          exact p.val sm rfl
        · exact p.elim
      · exact p.elim
    · exact p.elim
  · exact p.elim
def bInt : List Val → EH → R Val
  | [.d (.int i)], h => okI i h
  | [.d (.bl b)], h => okI (if b then 1 else 0) h
  | _, _ => .bad
theorem c_int : CallR X (.type "int") (rB X.K G bInt) := CallR.imp call_int1 fun vs H Q ⟨F, ι, h, xs, r, sm, p⟩ => by
  unfold bInt at p
  split at p
  · obtain ⟨v, rfl, rv⟩ := vals1 r
    cases rv
    exact .inl ⟨_, rfl, p.val sm rfl⟩
  · obtain ⟨v, rfl, rv⟩ := vals1 r
    cases rv
    exact .inr ⟨_, rfl, p.val sm rfl⟩
  · exact p.elim
def bLen : List Val → EH → R Val
  | [.d (.str s)], h => if fits s.length = true then okI s.length h else .bad
  | [x], h => match getS x h with
    | some xs => okI xs.length h
    | none => match dictAt x h with
      | some (_, kvs) => okI kvs.length h
      | none => .bad
  | _, _ => .bad
theorem c_len : CallR X (.builtin "len") (rB X.K G bLen) := CallR.imp (CallR.or' call_len (CallR.or' call_lenD call_len_dT)) fun vs H Q ⟨F, ι, h, xs, r, sm, p⟩ => by
  unfold bLen at p
  split at p
  · split at p
    · rename_i z
      obtain ⟨v, rfl, rv⟩ := vals1 r
      cases rv
      refine .inl ⟨_, _, rfl, ⟨by rw [str_len]; exact fits_le z, rfl⟩, ?_⟩
      rw [str_len]
      exact p.val sm rfl
    · exact p.elim
  · rename_i x _
    obtain ⟨v, rfl, rv⟩ := vals1 r
    split at p
    · rename_i ys e1
      obtain ⟨a, ws, rfl, h1, h2⟩ := getS_ok e1 sm rv
      refine .inl ⟨_, ws.length, rfl, ?_, ?_⟩
      · rcases h1 with h1 | h1
        · exact .inl ⟨ws, h1, rfl⟩
        · exact .inr ⟨ws, h1, rfl⟩
      · rw [← h2.len]
        exact p.val sm rfl
    · split at p
      · rename_i t kvs ed
        cases x with
        | r n =>
          obtain ⟨a, ha, rfl⟩ := rv
          have ed1 : (match h[n]? with
            | some (.dk kvs) => some (false, kvs)
            | some (.dt kvs) => some (true, kvs)
            | _ => none) = some (t, kvs) := ed
          split at ed1
          · rename_i kvs' e2
            cases ed1
            obtain ⟨ks, h1, h2⟩ := sm.atA e2 ha
            refine .inr (.inl ⟨a, ks, rfl, h1, ?_⟩)
            rw [← KK.len h2]
            exact p.val sm rfl
          · rename_i kvs' e2
            cases ed1
            obtain ⟨ks, h1, h2⟩ := sm.atA e2 ha
            refine .inr (.inr ⟨a, ks, rfl, h1, ?_⟩)
            rw [← KK.len h2]
            exact p.val sm rfl
          · cases ed1
        | _ => cases ed
      · exact p.elim
  · exact p.elim
def bList : List Val → EH → R Val
  | [x], h => match getS x h with
    | some xs => newL xs h
    | none => .bad
  | _, _ => .bad
theorem noNew {xs : List Val} {h : EH} : noX (newL xs h) = newL xs h := by
  unfold newL
  split <;> rfl
theorem noNewT {xs : List Val} {h : EH} : noX (newT xs h) = newT xs h := by
  unfold newT
  split <;> rfl
theorem c_list : CallR X (.type "list") (rB X.K G bList) := CallR.imp call_list_of fun vs H Q ⟨F, ι, h, xs, r, sm, p⟩ => by
  unfold bList at p
  split at p
  · split at p
    · rename_i ys e1
      obtain ⟨v, rfl, rv⟩ := vals1 r
      obtain ⟨a, ws, rfl, h1, h2⟩ := getS_ok e1 sm rv
      rw [noNew] at p
      obtain ⟨z, q⟩ := PostE.newL p sm h2
      exact ⟨a, ws, rfl, h1, q⟩
    · exact p.elim
  · exact p.elim
def bTuple : List Val → EH → R Val
  | [x], h => match asT x with
    | some _ => .ok x h
    | none => match getS x h with
      | some xs => newT xs h
      | none => .bad
  | _, _ => .bad
theorem c_tuple : CallR X (.type "tuple") (rB X.K G bTuple) := CallR.imp call_tuple_of fun vs H Q ⟨F, ι, h, xs, r, sm, p⟩ => by
  unfold bTuple at p
  split at p
  · rename_i x _
    obtain ⟨v, rfl, rv⟩ := vals1 r
    split at p
    · rename_i ys e1
      obtain ⟨a, ws, rfl, h1, h2⟩ := asT_ok e1 rv
      exact ⟨a, ws, rfl, .inr ⟨h1, p.val sm rv⟩⟩
    · rename_i nT
      split at p
      · rename_i ys e1
        obtain ⟨a, ws, rfl, h1, h2⟩ := getS_list nT sm rv e1
        rw [noNewT] at p
        exact ⟨a, ws, rfl, .inl ⟨h1, (PostE.newT p sm h2).2.1⟩⟩
      · exact p.elim
  · exact p.elim
def bSum : List Val → EH → R Val
  | [x], h => match getM x h with
    | some xs => match intsV xs with
      | some ns => okI ns.sum h
      | none => .bad
    | none => .bad
  | _, _ => .bad
theorem c_sum (hc : X.calm = true) : CallR X (.builtin "sum") (rB X.K G bSum) := CallR.imp (cr_sum hc) fun vs H Q ⟨F, ι, h, xs, r, sm, p⟩ => by
  unfold bSum at p
  split at p
  · split at p
    · rename_i ys e1
      split at p
      · rename_i ns e2
        obtain ⟨v, rfl, rv⟩ := vals1 r
        obtain ⟨a, ws, rfl, h1, h2⟩ := getM_ok e1 sm rv
        rw [ints_ok e2 h2] at h1
        exact ⟨a, ns, rfl, h1, p.val sm rfl⟩
      · exact p.elim
    · exact p.elim
  · exact p.elim
def bAll : List Val → EH → R Val
  | [x], h => match getM x h with
    | some xs => match bls xs with
      | some ns => okB (ns.all id) h
      | none => .bad
    | none => .bad
  | _, _ => .bad
def bAny : List Val → EH → R Val
  | [x], h => match getM x h with
    | some xs => match bls xs with
      | some ns => okB (ns.any id) h
      | none => .bad
    | none => .bad
  | _, _ => .bad
theorem c_all (hc : X.calm = true) : CallR X (.builtin "all") (rB X.K G bAll) := CallR.imp (cr_all hc) fun vs H Q ⟨F, ι, h, xs, r, sm, p⟩ => by
  unfold bAll at p
  split at p
  · split at p
    · rename_i ys e1
      split at p
      · rename_i ns e2
        obtain ⟨v, rfl, rv⟩ := vals1 r
        obtain ⟨a, ws, rfl, h1, h2⟩ := getM_ok e1 sm rv
        rw [bls_ok e2 h2] at h1
        exact ⟨a, ns, rfl, h1, p.val sm rfl⟩
      · exact p.elim
    · exact p.elim
  · exact p.elim
theorem c_any (hc : X.calm = true) : CallR X (.builtin "any") (rB X.K G bAny) := CallR.imp (cr_any hc) fun vs H Q ⟨F, ι, h, xs, r, sm, p⟩ => by
  unfold bAny at p
  split at p
  · split at p
    · rename_i ys e1
      split at p
      · rename_i ns e2
        obtain ⟨v, rfl, rv⟩ := vals1 r
        obtain ⟨a, ws, rfl, h1, h2⟩ := getM_ok e1 sm rv
        rw [bls_ok e2 h2] at h1
        exact ⟨a, ns, rfl, h1, p.val sm rfl⟩
      · exact p.elim
    · exact p.elim
  · exact p.elim
end
end Ev

set_option Elab.async false
set_option linter.all false
set_option maxRecDepth 100000
set_option maxHeartbeats 4000000
/-! Ev, 13: enumerate over a tuple, over a list. -/
namespace Ev
open PySem PySem.Spec PyProof.Rows L2

theorem enum1_meets {v : Value} {o : Obj} {H : Heap → Prop} (B : Begins v o H) :
    Meets (Builtin.«enumerate.__new__» ⟨[.type "enumerate", v], []⟩) (fun _ R s => H s.heap ∧
      R (.ok (.ret (.ref (s.heap.push o).objs.size))) { s with heap := (s.heap.push o).push { cls := .type "enumerate", data := .fields #[.none, .bool false, .ref s.heap.objs.size, rawInt 0, .none, .none] } }) :=
  .of_wp fun prog w A R s h => by
    obtain ⟨hp, g, d, tk, os⟩ := s
    obtain ⟨h1, h⟩ := h
    have hsub := sub_enumerate
    have q1 : ∀ {A' : Around} {E : Value → Shared → Prop} {Q : Value → Shared → Prop}, Q (.ref hp.objs.size) ⟨hp.push o, g, d, tk, os⟩ → wpAny (model prog w) A' (pyIter v) Q E ⟨hp, g, d, tk, os⟩ :=
      fun q => B.iter prog w _ _ ⟨hp, g, d, tk, os⟩ _ h1 q
    wp_walk
    refine wpAny_stack_any fun st => wpAny_pure ?_
    split
    · rename_i c _ _ _ _ _
      cases (c == Value.type "enumerate") <;> (wp_walk using q1; exact ⟨_, rfl, h⟩)
    · wp_walk using q1
      exact ⟨_, rfl, h⟩
theorem enum1_call {prog : Program} {w : World} {A : Around} {E : Value → Shared → Prop} {s : Shared} {v : Value} {o : Obj} {H : Heap → Prop} {Q : Value → Shared → Prop} (B : Begins v o H) (h1 : H s.heap)
    (h : ∀ h', IsEnum h' (s.heap.objs.size + 1) s.heap.objs.size 0 .none → h'.get? s.heap.objs.size = some o → (∀ b o, s.heap.get? b = some o → h'.get? b = some o) → Q (.ref (s.heap.objs.size + 1)) { s with heap := h' }) :
    wpAny (model prog w) A (call (.type "enumerate") [v]) Q E s := by
  refine callType_new F.called_enumerate (by decide) (F.typeCall_enumerate_1 _) (F.newCall_enumerate_1 _) (fun obj => F.args_object_init_2 obj _) F.entry_enumerate_new (enum1_meets B) ⟨h1, ?_⟩
  have hz : (s.heap.push o).objs.size = s.heap.objs.size + 1 := Heap.size_push ..
  show _ ∧ _
  rw [hz]
  have he : IsEnum ((s.heap.push o).push { cls := .type "enumerate", data := .fields #[.none, .bool false, .ref s.heap.objs.size, rawInt 0, .none, .none] }) (s.heap.objs.size + 1) s.heap.objs.size 0 .none := by
    have q := Heap.get?_push_size (s.heap.push o) (o := { cls := .type "enumerate", data := .fields #[.none, .bool false, .ref s.heap.objs.size, rawInt 0, .none, .none] }) rfl
    rw [hz] at q
    exact q
  exact ⟨⟨_, he, rfl⟩, h _ he (Heap.get?_push_of_some _ (Heap.get?_push_size _ B.free)) fun b o x => Heap.get?_push_of_some _ (Heap.get?_push_of_some _ x)⟩
theorem enumT_end {prog : Program} {w : World} {A : Around} {E : Value → Shared → Prop} {s : Shared} {e it a : Addr} {i : Nat} {c : Int} {items : Array Value} {old : Value} {Q : Option Value → Shared → Prop} (hh : A.handled = none) (hE : IsEnum s.heap e it c old)
    (hI : s.heap.IsTupleIter it a i) (hT : s.heap.IsTuple a items) (hx : items[i]? = none) (hQ : ∀ h', Heap.ExtBut it s.heap h' → Q none { s with heap := h' }) : wpAny (model prog w) A (pyNext (.ref e)) Q E s := by
  have tE : s.TypeIs (.ref e) "enumerate" := ⟨_, hE, rfl⟩
  unfold pyNext
  refine wpAny_bind (wpAny_attempt (wpAny_callSpecial?_slot (name := Str.ofString "__next__") tE F.slot_enumerate_next (wpAny_call_entry F.slot_enumerate_next tE F.entry_enumerate_next ?_ (F.args_enumerate_next_1 _))))
  show wpAny _ _ (field (.ref e) 2 >>= _) _ _ _
  refine wpAny_bind (wpAny_field hE rfl (x := .ref it) rfl (wpAny_bind (wpAny_nextOf_tuple_end hh hI hT hx fun h' b he' hx' => ?_)))
  obtain ⟨o, ho, hc⟩ := hx'
  exact wpAny_bind (wpAny_isInstance (T := "StopIteration") (b := true) ⟨o, ho, hc⟩ isSubtype_stop (wpAny_pure (hQ _ he')))
/-- the tuple's items with their places -/
def IteT (K : PySem.W.Frag) (a : Addr) : It :=
  ⟨fun i H => ∃ (xs : List V) (x : V), SqT K H a xs ∧ xs[i]? = some x, fun i H v H' => ∃ T x, v = .ref T ∧ H T = none ∧ H' = upd H T (.tup [.int (i : Nat), x]) ∧ ∀ xs, SqT K H a xs → xs[i]? = some x, fun i H => ∃ xs : List V, SqT K H a xs ∧ xs.length ≤ i⟩
theorem enumT_turn {P : Program} {w : World} {K : PySem.W.Frag} {elts : List Expr} {kk : Nat} {tpos : Pos} (a e it : Addr) :
    Turn P w K (.Tuple elts kk tpos) (IteT K a) [e, it] e (fun i h => (∃ old, IsEnum h e it ((i : Nat) : Int) old) ∧ h.IsTupleIter it a i ∧ e ≠ it ∧ a ≠ it ∧ e ≠ a) where
  mem := by simp
  obj := fun i h st b hb => by
    obtain ⟨⟨old, he⟩, ⟨o, ho, hc, hd⟩, _⟩ := st
    have e' : b = e ∨ b = it := by simpa using hb
    rcases e' with z | z
    · subst z
      exact ⟨_, he, fun v q => nomatch q⟩
    · subst z
      exact ⟨o, ho, fun v q => by rw [hd] at q; cases q⟩
  keep := fun i h h' st k => let ⟨⟨old, he⟩, hi, hne⟩ := st; ⟨⟨old, k e (by simp) _ he⟩, hi.at fun o q => k it (by simp) o q, hne⟩
  item := by
    intro X hP hw hK hc i pins s σ H E I hf st hg
    subst hP hw hK
    obtain ⟨⟨old, he⟩, hit, hne, hai, hea⟩ := st
    obtain ⟨xs, x, hq, hx⟩ := hg
    obtain ⟨its, rv, p, hz⟩ := I.tuple hq
    obtain ⟨u, hu, ru⟩ := rv.get hx
    have hel : e < s.heap.objs.size := Heap.lt_size he
    have hil : it < s.heap.objs.size := by
      obtain ⟨_, q, _⟩ := hit
      exact Heap.lt_size q
    have hlt : i < its.toArray.size := by
      have z := (List.getElem?_eq_some_iff.mp hu).1
      simpa using z
    have D := Draws.tuple (prog := X.prog) (w := X.w) (A := X.A.in1) (I.ok.hd hc) it a hai its.toArray
    refine wpAny_pyNext_enum_itemC D he ⟨hit, p⟩ hlt hne (by simp [hne, hea]) fun y h' tk hy ho hs' hT hsz hk => ?_
    have ey : y = u := by
      have z : its.toArray[i]? = some y := hy
      have z2 : its.toArray[i]? = some u := by simpa using hu
      rw [z] at z2
      exact Option.some.inj z2
    subst ey
    refine ⟨_, rfl, wpAny_letOwnedTupleGo_enum (s := { s with heap := h', toks := tk + 1 }) ho fun h'' he' sb => ?_⟩
    have hT2 : h''.get? s.heap.objs.size = some { cls := .type "tuple", data := .seq #[.int i tk, y] } := (sb.2 _ (Nat.ne_of_gt hel)).trans hT
    have new : ObjOk X.prog X.w (upd H s.heap.objs.size (.tup [.int (i : Nat), x])) h'' s.heap.objs.size (.tup [.int (i : Nat), x]) :=
      ⟨by show 2 ≤ sizeLine; decide, [.int i tk, y], .cons ⟨_, rfl⟩ (.cons ru .nil), ⟨_, hT2, rfl, _, rfl⟩⟩
    have I1 : Inv X pins σ (upd H s.heap.objs.size (.tup [.int (i : Nat), x])) { s with heap := h'', toks := tk + 1 } :=
      I.turnedNew (ch := [e, it]) (fun b ob hb q => (sb.2 b (fun z => hb (by simp [z]))).trans (hk b ob (fun z => hb (by simp [z])) (fun z => hb (by simp [z])) q)) hf (Nat.le_refl _) new
    refine ⟨.ref s.heap.objs.size, _, I1, rfl, ⟨_, x, rfl, I.hok.fresh (Nat.le_refl _), rfl, fun ys hy => by rw [I.tuple_inj hy hq]; exact hx⟩, ⟨⟨y, ?_⟩, hs'.1.at fun o q => (sb.2 it (Ne.symm hne)).trans q, hne, hai, hea⟩, fun b hb => ?_⟩
    · have e1 : ((i + 1 : Nat) : Int) = (i : Int) + 1 := by omega
      rw [e1]
      exact he'
    · have hb' : b < s.heap.objs.size := by
        have e' : b = e ∨ b = it := by simpa using hb
        rcases e' with z | z
        · rw [z]; exact hel
        · rw [z]; exact hil
      rw [upd_ne (Nat.ne_of_lt hb')]
      exact (hf b hb).1
  done := by
    intro X hP hw hK hc i pins s σ H E I hf st hg
    subst hP hw hK
    obtain ⟨⟨old, he⟩, hit, hne, hai, hea⟩ := st
    obtain ⟨xs, hq, hx⟩ := hg
    obtain ⟨its, rv, p, hz⟩ := I.tuple hq
    obtain ⟨f0, f1, f2, f3, f4, f5⟩ := hf it (by simp)
    have hl := rv.length
    exact enumT_end (I.ok.hd hc) he hit p (by simp; omega) fun h' eb => ⟨rfl, I.turned (t' := s.toks) (fun b o hb q => eb b o hb q) f0 f1 f3 f4 f5⟩
  self := fun A i s Q E st h => let ⟨⟨_, he⟩, _⟩ := st; wpAny_pyIter_enum he h
/-- the items with their places, from k on -/
def numb : Nat → List Val → List Val
  | _, [] => []
  | k, x :: r => mkT [.d (.int (k : Int)), x] :: numb (k + 1) r
def iEnumA (ma : M (List Val)) : M Src := fun env h => (ma env h).bind fun xs h1 => match xs with
  | [x] => match asT x with
    | some xs => .ok (.seq (numb 0 xs)) h1
    | none => match getS x h1 with
      | some _ => .ok (.enum x) h1
      | none => .bad
  | _ => .bad
theorem numb_at : ∀ (xs : List Val) (k i : Nat), (numb k xs)[i]? = xs[i]?.map fun y => mkT [.d (.int ((k + i : Nat) : Int)), y]
  | [], k, i => rfl
  | x :: xs, k, 0 => rfl
  | x :: xs, k, i + 1 => by
    show (numb (k + 1) xs)[i]? = _
    rw [numb_at xs (k + 1) i, List.getElem?_cons_succ, show k + 1 + i = k + (i + 1) by omega]
section
variable {X : Cx} {G : Cg} {W : WX} {pos tpos p : Pos} {e : Expr} {ma : M (List Val)}
theorem ri_enumT {K : PySem.W.Frag} {ι : List Addr} {H : Hp} {a : Addr} {xs : List Val} {vs : List V} (h : SqT K H a vs) (r : RVs K ι H xs vs) : RI K G ι H (.seq (numb 0 xs)) (IteT K a) := fun F i ι1 h1 H1 x1 sm => by
  have h' := SqT.imm x1.2 h
  have r1 := r.ext x1
  refine ⟨fun e => ?_, fun y e => ?_⟩
  · have e1 : (numb 0 xs)[i]? = none := Option.some.inj e
    rw [numb_at] at e1
    exact ⟨vs, h', r1.none_at (Option.map_eq_none_iff.mp e1)⟩
  · have e1 : (numb 0 xs)[i]? = some y := Option.some.inj e
    rw [numb_at] at e1
    obtain ⟨z, e3, rfl⟩ := Option.map_eq_some_iff.mp e1
    obtain ⟨w, e4, e5⟩ := r1.get e3
    refine ⟨⟨vs, w, h', e4⟩, fun u H' ⟨T, w', eu, hT, eH, yl⟩ => ?_⟩
    subst eu eH
    have q := yl vs h'
    rw [e4] at q
    cases q
    rw [Nat.zero_add]
    exact yPair sm hT rfl e5
theorem pi_enumT {elts : List Expr} {kk : Nat} {t : TA} (hg : Gl X "enumerate") (hm : X.mg "enumerate" = none) (hs : starEach [e] X.env = [(false, eval e X.env)]) (ha : PA X [e] t) :
    PI X (.Tuple elts kk tpos) (.Call (.Name "enumerate" p) [e] [] pos) (fun σ H R => t σ H fun vs H1 => ∃ a xs, vs = [.ref a] ∧ ((SqL X.K H1 a xs ∧ R (Ite X.K a) H1) ∨ (SqT X.K H1 a xs ∧ R (IteT X.K a) H1))) := by
  refine ⟨fun pins s σ H R I h => ?_⟩
  refine Call_ (ld_blt I hg hm boot_enumerate (PyProof.Rows.callWith_type1 (thn (ha.run pos pins s σ H _ I h) fun us s1 ⟨vs, H1, I1, r1, q1⟩ => ?_) hs rfl))
  obtain ⟨a, xs, ex, q⟩ := q1
  subst ex
  cases r1 with
  | cons r rr =>
    cases rr
    cases r
    have fr : ∀ b ∈ [s1.heap.objs.size + 1, s1.heap.objs.size], s1.heap.objs.size ≤ b := fun b hb => by
      have e' : b = s1.heap.objs.size + 1 ∨ b = s1.heap.objs.size := by simpa using hb
      omega
    rcases q with ⟨hq, q⟩ | ⟨hq, q⟩
    · obtain ⟨its, rv, p', hz⟩ := I1.list hq
      refine call_enumerate_list p'.isList fun h' he hit hsz hk => wpAny_pyIter_enum he ?_
      have I2 : Inv X pins σ H1 { s1 with heap := h' } := I1.kept (t' := s1.toks) hk
      exact ⟨s1.heap.objs.size + 1, [s1.heap.objs.size + 1, s1.heap.objs.size], _, _, H1, rfl, I2, turn_enum a (s1.heap.objs.size + 1) s1.heap.objs.size, ⟨⟨.none, he⟩, hit, Nat.succ_ne_self _⟩, fun b hb => I1.fpOk (fr b hb) (I1.hok.fresh (fr b hb)), q⟩
    · obtain ⟨its, rv, p', hz⟩ := I1.tuple hq
      refine enum1_call (begins_tuple a its.toArray) p' fun h' he hit hk => wpAny_pyIter_enum he ?_
      have I2 : Inv X pins σ H1 { s1 with heap := h' } := I1.kept (t' := s1.toks) hk
      have hlt : a < s1.heap.objs.size := by
        obtain ⟨o, ho, _⟩ := id p'
        exact Heap.lt_size ho
      exact ⟨s1.heap.objs.size + 1, [s1.heap.objs.size + 1, s1.heap.objs.size], _, _, H1, rfl, I2, enumT_turn a (s1.heap.objs.size + 1) s1.heap.objs.size, ⟨⟨.none, he⟩, ⟨_, hit, rfl, rfl⟩, Nat.succ_ne_self _, Nat.ne_of_lt hlt, Nat.ne_of_gt (Nat.lt_succ_of_lt hlt)⟩, fun b hb => I1.fpOk (fr b hb) (I1.hok.fresh (fr b hb)), q⟩
theorem ri_enum {elts : List Expr} {kk : Nat} (hg : Gl X "enumerate") (hm : X.mg "enumerate" = none) (hs : starEach [e] X.env = [(false, eval e X.env)]) (ha : PA X [e] (rdA X.K G W ma)) :
    PI X (.Tuple elts kk tpos) (.Call (.Name "enumerate" p) [e] [] pos) (rdI X.K G W (iEnumA ma)) :=
  PI.imp (pi_enumT hg hm hs ha) fun σ H R ⟨F, ι, env, h, en, sm, p⟩ => rd_bind en sm p fun ι1 H1 h1 xs vs e1 sm1 r1 p1 => by
    split at p1
    · obtain ⟨v, rfl, rv⟩ := vals1 r1
      split at p1
      · rename_i ys eT
        obtain ⟨a, ws, rfl, h2, h3⟩ := asT_ok eT rv
        exact ⟨a, ws, rfl, .inr ⟨h2, p1.val sm1 (ri_enumT h2 h3)⟩⟩
      · rename_i nT
        split at p1
        · rename_i ys eS
          obtain ⟨a, ws, rfl, h2, h3⟩ := getS_list nT sm1 rv eS
          exact ⟨a, ws, rfl, .inl ⟨h2, p1.val sm1 (ri_enumL rv nT)⟩⟩
        · exact p1.elim
    · exact p1.elim
end
end Ev

set_option Elab.async false
set_option linter.all false
set_option maxRecDepth 100000
set_option maxHeartbeats 4000000
/-! Ev, 14: isinstance, ranges as tuples, methods of lists, texts alike, empty dicts. -/
namespace Ev
open PySem PySem.Spec PyProof.Rows L2

/-! ### isinstance: types by number -/
def tyNo (x : Val) (h : EH) : Option Nat := match x with
  | .d (.int _) => some 0
  | .d (.bl _) => some 1
  | .d (.str _) => some 2
  | .d (.tup _ _) => some 3
  | .t _ => some 3
  | .z _ => some 4
  | .d .non => some 6
  | .r n => match h[n]? with
    | some (.lst _) => some 4
    | some (.dk _) => some 5
    | some (.dt _) => some 5
    | _ => none
def tyName : Nat → String
  | 0 => "int" | 1 => "bool" | 2 => "str" | 3 => "tuple" | 4 => "list" | 5 => "dict" | _ => "NoneType"
def isTy (v t : Nat) : Bool := Nat.beq v t || (Nat.beq v 1 && Nat.beq t 0)
theorem isTy_kit : ∀ v, v < 7 → ∀ t, t < 6 → kitB (tyName v) (tyName t) = some (isTy v t) := by decide +kernel
def mIsi (t : Nat) (a : M Val) : M Bool := fun env h => (a env h).bind fun x h1 => match tyNo x h1 with
  | some v => .ok (isTy v t) h1
  | none => .bad
theorem tyX_tup {K : PySem.W.Frag} {H : Hp} {a : Addr} {vs : List V} (h : SqT K H a vs) : TyX K H (.ref a) (.type "tuple") := by
  rcases h with (h | ⟨o, h⟩) | h
  · exact .base (.tup h)
  · exact .fTuple h
  · obtain ⟨o, h⟩ := h
    first
      | (obtain ⟨its, n, h1, h2, _⟩ := h; exact .kTuple h1 h2)
      | (obtain ⟨its, h1, h2, _⟩ := h; exact .kTuple h1 h2)
      | (obtain ⟨h1, h2, _⟩ := h; exact .kTuple h1 h2)
theorem tyNo_ok {K : PySem.W.Frag} {G : Cg} {F : Hp} {ι : List Addr} {h : EH} {H : Hp} {x : Val} {v : V} {n : Nat} (e : tyNo x h = some n) (sm : Sim K G F ι h H) (r : RV K ι H x v) : n < 7 ∧ TyX K H v (.type (tyName n)) := by
  unfold tyNo at e
  split at e
  · cases e
    cases r
    exact ⟨by decide, .base (.int _)⟩
  · cases e
    cases r
    exact ⟨by decide, .base (.bl _)⟩
  · cases e
    cases r
    exact ⟨by decide, .base (.str _)⟩
  · cases e
    obtain ⟨a, vs, rfl, h1, h2⟩ := r
    exact ⟨by decide, tyX_tup h1.sq⟩
  · cases e
    obtain ⟨a, vs, rfl, h1, h2⟩ := r
    exact ⟨by decide, .base (.tup h1)⟩
  · cases e
    obtain ⟨a, rfl, h1⟩ := r
    rcases h1 with ⟨o, h1⟩ | ⟨o, its, n, h1, h2, _⟩
    · exact ⟨by decide, .base (.frz h1)⟩
    · exact ⟨by decide, .kList h1 h2⟩
  · cases e
    cases r
    exact ⟨by decide, .base .non⟩
  · obtain ⟨a, ha, rfl⟩ := r
    split at e
    · rename_i xs e1
      cases e
      obtain ⟨vs, h1, h2⟩ := sm.atA e1 ha
      exact ⟨by decide, .base (.lst h1)⟩
    · rename_i xs e1
      cases e
      obtain ⟨vs, h1, h2⟩ := sm.atA e1 ha
      exact ⟨by decide, .base (.dK h1)⟩
    · rename_i xs e1
      cases e
      obtain ⟨vs, h1, h2⟩ := sm.atA e1 ha
      exact ⟨by decide, .base (.dT h1)⟩
    · cases e
section
variable {X : Cx} {N : List Str} {names : List (Str × NameKind)} {k : Nat} {W : WX} {G : Cg} {x : Str} {p q pos : Pos} {e o : Expr} {es : List Expr} {ma : M (List Val)} {me mo : M Val}
theorem pa_isi {t : Nat} {te : TE} (hg2 : Gl X x) (hm2 : X.mg x = none) (hv : bootBuiltins x = some (.type (tyName t))) (hn : x ≠ "__name__") (hd : (x == ("__debug__" : Str)) = false)
    (hs : starEach [e, .Name x q] X.env = (false, eval e X.env) :: starEach [.Name x q] X.env) (hs2 : starEach [.Name x q] X.env = (false, eval (.Name x q) X.env) :: starEach [] X.env) (he : PE X e te) :
    PA X [e, .Name x q] (tCons te (tCons (tC (.ty (tyName t))) tNil)) :=
  pa_cons he (pa_cons (pe_bltn (v := .ty (tyName t)) hg2 hm2 hv rfl hn hd) pa_nil hs2) hs
theorem isi_imp {t : Nat} (ht : t < 6) {γ : Type} (σ : St) (H : Hp) (Q : VK) (q : rdE X.K G W (mVal (mIsi t me)) σ H Q) : tCB (rIsi X.K) (tCons (rdE X.K G W me) (tCons (tC (.ty (tyName t))) tNil)) σ H Q := by
  obtain ⟨F, ι, env, h, en, sm, p⟩ := q
  unfold mVal mIsi at p
  rw [bindAssoc] at p
  refine rd_bind en sm p fun ι1 H1 h1 x v x1 sm1 r1 p1 => ?_
  split at p1
  · rename_i n en
    obtain ⟨hn, ty⟩ := tyNo_ok en sm1 r1
    exact ⟨v, .ty (tyName t), _, _, _, rfl, .ty _, ty, kit_ty (isTy_kit _ hn _ ht), PostG.val (v := V.bl _) p1 sm1 rfl⟩
  · exact p1.elim
theorem re_isi {t : Nat} (ht : t < 6) (hg : Gl X "isinstance") (hm : X.mg "isinstance" = none) (hg2 : Gl X x) (hm2 : X.mg x = none) (hv : bootBuiltins x = some (.type (tyName t))) (hn : x ≠ "__name__") (hd : (x == ("__debug__" : Str)) = false)
    (hs : starEach [e, .Name x q] X.env = (false, eval e X.env) :: starEach [.Name x q] X.env) (hs2 : starEach [.Name x q] X.env = (false, eval (.Name x q) X.env) :: starEach [] X.env) (hpl : (backTo pos (starEach [.Name x q] X.env)).any (·.1) = false) (he : PE X e (rdE X.K G W me)) :
    PE X (.Call (.Name "isinstance" p) [e, .Name x q] [] pos) (rdE X.K G W (mVal (mIsi t me))) :=
  PE.imp (pe_callB call_isi hg hm boot_isinstance (pa_isi hg2 hm2 hv hn hd hs hs2 he) (by decide) (by decide) hs hpl) (isi_imp ht (γ := Unit))
/-- a value that is a truth, as a test -/
theorem rt_of {mb : M Bool} (he : ∀ whole, isTrue e X.env whole = (do let v ← whole; standAt e.pos; holding [v] (truthy v))) (ha : PE X e (rdE X.K G W (mVal mb))) : PT X e (rdT X.K G W mb) :=
  PT.imp (pt_truth ha he) fun σ H Q ⟨F, ι, env, h, en, sm, p⟩ => ⟨F, ι, env, h, en, sm, by
    unfold mVal
    cases eb : mb env h with
    | ok b h1 =>
      rw [eb] at p
      intro ι1 H1 v x1 s1 r1
      cases r1
      exact ⟨b, rfl, p ι1 H1 b x1 s1 rfl⟩
    | exc c fs h1 =>
      rw [eb] at p
      exact p
    | bad =>
      rw [eb] at p
      exact p⟩

/-! ### tuple(range(..)), list(range(..)) -/
def rgOk (a b : Int) : Bool := okR a && (okR b && fits (b - a).toNat)
theorem rgOk_ok {a b : Int} (h : rgOk a b = true) : RgOk a b := by
  obtain ⟨h1, h2⟩ := Bool.and_eq_true_iff.mp h
  obtain ⟨h3, h4⟩ := Bool.and_eq_true_iff.mp h2
  have z := fits_le h4
  rw [sizeLine_eq] at z
  exact ⟨(okR_ok h1).1, (okR_ok h1).2, (okR_ok h3).1, (okR_ok h3).2, by omega⟩
theorem rng_rv {K : PySem.W.Frag} {ι : List Addr} {H : Hp} (a b : Int) : RVs K ι H (rng a (b - a).toNat) (rgV a b) := by
  unfold rng rgV
  generalize List.range (b - a).toNat = l
  induction l with
  | nil => rfl
  | cons i r ih => exact ⟨_, _, rfl, rfl, ih⟩
def mRg (mk : List Val → EH → R Val) (ma : M (List Val)) : M Val := fun env h => (ma env h).bind fun xs h1 => match xs with
  | [.d (.int j)] => if rgOk 0 j = true then mk (rng 0 (j - 0).toNat) h1 else .bad
  | [.d (.int i), .d (.int j)] => if rgOk i j = true then mk (rng i (j - i).toNat) h1 else .bad
  | _ => .bad
/-- a range's bounds -/
def tRgA (K : PySem.W.Frag) (t : TA) : St → Hp → (Int → Int → Hp → Prop) → Prop := fun σ H Q => t σ H fun vs H1 => (∃ n, vs = [.int n] ∧ Q 0 n H1) ∨ ∃ i j, vs = [.int i, .int j] ∧ Q i j H1
theorem prg1 {a : Expr} {t : TA} (hg : Gl X "range") (hm : X.mg "range" = none) (na : starEach [a] X.env = [(false, eval a X.env)]) (ha : PA X [a] t) : PRg X (.Call (.Name "range" p) [a] [] pos) (tRgA X.K t) := by
  intro pins s σ H Q I h
  refine Call_ (ld_blt I hg hm boot_range (PyProof.Rows.callWith_type1 (thn (ha.run pos pins s σ H _ I h) fun us s1 ⟨vs, H1, I1, r1, q1⟩ => ?_) na rfl))
  rcases q1 with ⟨n, rfl, q⟩ | ⟨i, j, rfl, q⟩
  · obtain ⟨u, rfl, t, rfl⟩ := L2.vals1 r1
    exact call_range_1 ⟨_, 0, n, _, _, _, H1, rfl, IsRange.new _ _ _ _ _ _ _, I1.kept fun b u e => Heap.get?_push_of_some _ e, q⟩
  · obtain ⟨u, w, rfl, ⟨t, rfl⟩, ⟨t', rfl⟩⟩ := L2.vals2 r1
    exact call_range_2 ⟨_, i, j, _, _, _, H1, rfl, IsRange.new _ _ _ _ _ _ _, I1.kept fun b u e => Heap.get?_push_of_some _ e, q⟩
theorem prg2 {a b : Expr} {t : TA} (hg : Gl X "range") (hm : X.mg "range" = none) (na : starEach [a, b] X.env = (false, eval a X.env) :: starEach [b] X.env) (hpl : (backTo pos (starEach [b] X.env)).any (·.1) = false) (ha : PA X [a, b] t) : PRg X (.Call (.Name "range" p) [a, b] [] pos) (tRgA X.K t) := by
  intro pins s σ H Q I h
  refine Call_ (ld_blt I hg hm boot_range (PyProof.Rows.callWith_type1 (thn (ha.run pos pins s σ H _ I h) fun us s1 ⟨vs, H1, I1, r1, q1⟩ => ?_) na hpl))
  rcases q1 with ⟨n, rfl, q⟩ | ⟨i, j, rfl, q⟩
  · obtain ⟨u, rfl, t, rfl⟩ := L2.vals1 r1
    exact call_range_1 ⟨_, 0, n, _, _, _, H1, rfl, IsRange.new _ _ _ _ _ _ _, I1.kept fun b u e => Heap.get?_push_of_some _ e, q⟩
  · obtain ⟨u, w, rfl, ⟨t, rfl⟩, ⟨t', rfl⟩⟩ := L2.vals2 r1
    exact call_range_2 ⟨_, i, j, _, _, _, H1, rfl, IsRange.new _ _ _ _ _ _ _, I1.kept fun b u e => Heap.get?_push_of_some _ e, q⟩
theorem re_tupRg (hc : X.calm = true) (hg : Gl X "tuple") (hm : X.mg "tuple" = none) (na : starEach [e] X.env = (false, eval e X.env) :: starEach [] X.env) (he : PRg X e (tRgA X.K (rdA X.K G W ma))) : PE X (.Call (.Name "tuple" p) [e] [] pos) (rdE X.K G W (mRg newT ma)) :=
  PE.imp (pe_tupRg hc hg hm he na) fun σ H Q ⟨F, ι, env, h, en, sm, p⟩ => rd_bind en sm p fun ι1 H1 h1 xs vs x1 sm1 r1 p1 => by
    split at p1
    · rename_i j
      split at p1
      · rename_i z
        obtain ⟨v, rfl, rv⟩ := vals1 r1
        cases rv
        exact .inl ⟨j, rfl, rgOk_ok z, (PostE.newT p1 sm1 (rng_rv 0 j)).2.1⟩
      · exact p1.elim
    · rename_i i j
      split at p1
      · rename_i z
        obtain ⟨v, w, rfl, rv, rw'⟩ := vals2 r1
        cases rv
        cases rw'
        exact .inr ⟨i, j, rfl, rgOk_ok z, (PostE.newT p1 sm1 (rng_rv i j)).2.1⟩
      · exact p1.elim
    · exact p1.elim
theorem re_lstRg (hc : X.calm = true) (hg : Gl X "list") (hm : X.mg "list" = none) (na : starEach [e] X.env = (false, eval e X.env) :: starEach [] X.env) (he : PRg X e (tRgA X.K (rdA X.K G W ma))) : PE X (.Call (.Name "list" p) [e] [] pos) (rdE X.K G W (mRg newL ma)) :=
  PE.imp (pe_listRg hc hg hm he na) fun σ H Q ⟨F, ι, env, h, en, sm, p⟩ => rd_bind en sm p fun ι1 H1 h1 xs vs x1 sm1 r1 p1 => by
    split at p1
    · rename_i j
      split at p1
      · rename_i z
        obtain ⟨v, rfl, rv⟩ := vals1 r1
        cases rv
        exact .inl ⟨j, rfl, rgOk_ok z, (PostE.newL p1 sm1 (rng_rv 0 j)).2⟩
      · exact p1.elim
    · rename_i i j
      split at p1
      · rename_i z
        obtain ⟨v, w, rfl, rv, rw'⟩ := vals2 r1
        cases rv
        cases rw'
        exact .inr ⟨i, j, rfl, rgOk_ok z, (PostE.newL p1 sm1 (rng_rv i j)).2⟩
      · exact p1.elim
    · exact p1.elim

/-! ### methods of builtins: t the type's number (tyNo) -/
def mBM (t : Nat) (op : Val → List Val → EH → R Val) (mo : M Val) (ma : M (List Val)) : M Val := fun env h => (mo env h).bind fun o h1 => match tyNo o h1 with
  | some v => if Nat.beq v t = true then (ma env h1).bind fun xs h2 => noX (op o xs h2) else .bad
  | none => .bad
def rM (K : PySem.W.Frag) (G : Cg) (op : Val → List Val → EH → R Val) : V → List V → Hp → VK → Prop := fun v vs H Q => ∃ F ι h x xs, RV K ι H x v ∧ RVs K ι H xs vs ∧ Sim K G F ι h H ∧ PostE K G F WF [] Q ι H (noX (op x xs h))
theorem MtR.imp {id : String} {r r' : V → List V → Hp → VK → Prop} (h : MtR X id r) (i : ∀ v vs H Q, r' v vs H Q → r v vs H Q) : MtR X id r' := fun pins s σ H x xs v us Q I rx rv q => h pins s σ H x xs v us Q I rx rv (i x xs H Q q)
theorem tyNo_tyV {K : PySem.W.Frag} {F : Hp} {ι : List Addr} {h : EH} {H : Hp} {x : Val} {v : V} {n : Nat} (e : tyNo x h = some n) (hn : n = 2 ∨ n = 4 ∨ n = 5) (sm : Sim K G F ι h H) (r : RV K ι H x v) : tyV K (tyName n) v H := by
  unfold tyNo at e
  split at e
  · cases e; omega
  · cases e; omega
  · cases e
    cases r
    rfl
  · cases e; omega
  · cases e; omega
  · cases e
    obtain ⟨a, rfl, h1⟩ := r
    exact .inl ⟨rfl, _, h1.sq⟩
  · cases e; omega
  · obtain ⟨a, ha, rfl⟩ := r
    split at e
    · rename_i xs e1
      cases e
      obtain ⟨vs, h1, h2⟩ := sm.atA e1 ha
      exact .inl ⟨rfl, vs, SqL.of h1⟩
    · rename_i xs e1
      cases e
      obtain ⟨vs, h1, h2⟩ := sm.atA e1 ha
      exact .inr (.inr (.inl ⟨rfl, .inl ⟨vs, h1⟩⟩))
    · rename_i xs e1
      cases e
      obtain ⟨vs, h1, h2⟩ := sm.atA e1 ha
      exact .inr (.inr (.inl ⟨rfl, .inr ⟨vs, h1⟩⟩))
    · cases e
variable {apos cpos : Pos} {idn : String} {name : Str} {t : Nat} {op : Val → List Val → EH → R Val}
theorem re_bm (ht : t = 2 ∨ t = 4 ∨ t = 5) (pa : PlainAttrs (tyName t)) (slot : Slot (tyName t) name idn) (hty : typeOf (.builtin idn) = pure (.type "method_descriptor")) (hm : MtR X idn (rM X.K G op)) (hbase : attributeBase o name X.env (eval o X.env) = eval o X.env)
    (hfew : ((backTo cpos (starEach (e :: es) X.env)).all (fun x => !x.1) && (backToKw cpos (keywordEach [] X.env)).all (fun x => x.1.isSome)
      && decide ((e :: es).length + ([] : List Keyword).length + (if ([] : List Keyword).isEmpty then 0 else 1) < 30)) = true)
    (hline : (apos.endLine == cpos.line) = true) (hs : starEach (e :: es) X.env = (false, eval e X.env) :: starEach es X.env) (hpl : (backTo cpos (starEach es X.env)).any (·.1) = false) (ho : PE X o (rdE X.K G W mo)) (ha : PA X (e :: es) (rdA X.K G W ma)) :
    PE X (.Call (.Attribute o name apos) (e :: es) [] cpos) (rdE X.K G W (mBM t op mo ma)) :=
  PE.imp (pe_bm pa slot hty hm ho ha hbase hfew hline hs hpl) fun σ H Q ⟨F, ι, env, h, en, sm, p⟩ => rd_bind en sm p fun ι1 H1 h1 x v x1 sm1 r1 p1 => by
    split at p1
    · rename_i n et
      split at p1
      · rename_i eb
        obtain rfl := Nat.eq_of_beq_eq_true eb
        exact ⟨tyNo_tyV et ht sm1 r1, rd_bind (en.ext x1) sm1 p1 fun ι2 H2 h2 xs vs x2 sm2 r2 p2 => ⟨F, ι2, h2, x, xs, r1.ext x2, r2, sm2, noX_post (W' := WF) p2⟩⟩
      · exact p1.elim
    · exact p1.elim
theorem re_bm0 (ht : t = 2 ∨ t = 4 ∨ t = 5) (pa : PlainAttrs (tyName t)) (slot : Slot (tyName t) name idn) (hty : typeOf (.builtin idn) = pure (.type "method_descriptor")) (hm : MtR X idn (rM X.K G op)) (hbase : attributeBase o name X.env (eval o X.env) = eval o X.env)
    (hline : (apos.endLine == cpos.line) = true) (ho : PE X o (rdE X.K G W mo)) :
    PE X (.Call (.Attribute o name apos) [] [] cpos) (rdE X.K G W (mBM t op mo mNil)) :=
  PE.imp (pe_bm0 pa slot hty hm ho hbase hline) fun σ H Q ⟨F, ι, env, h, en, sm, p⟩ => rd_bind en sm p fun ι1 H1 h1 x v x1 sm1 r1 p1 => by
    split at p1
    · rename_i n et
      split at p1
      · rename_i eb
        obtain rfl := Nat.eq_of_beq_eq_true eb
        exact ⟨tyNo_tyV et ht sm1 r1, F, ι1, h1, x, [], r1, rfl, sm1, noX_post (W' := WF) p1⟩
      · exact p1.elim
    · exact p1.elim
/-- a list is written -/
def putL (x : Val) (xs : List Val) (r : Val) (h : EH) : R Val := match x with
  | .r n => if fits xs.length = true then .ok r (h.set n (.lst xs)) else .bad
  | _ => .bad
theorem putL_ok {K : PySem.W.Frag} {F : Hp} {ι : List Addr} {h : EH} {H : Hp} {σ : St} {Q : VK} {n : Nat} {a : Addr} {o : Ob} {ys : List Val} {ws : List V} {y : Val} {w : V} (hn : h[n]? = some o) (wo : wr o = true) (ha : ι[n]? = some a) (sm : Sim K G F ι h H)
    (r : RVs K ι H ys ws) (ry : RV K ι H y w) (p : PostE K G F W σ Q ι H (noX (putL (.r n) ys y h))) : ws.length ≤ sizeLine ∧ Q w (upd H a (.lst ws)) := by
  have e : putL (.r n) ys y h = if fits ys.length = true then .ok y (h.set n (.lst ys)) else .bad := rfl
  rw [e] at p
  by_cases z : fits ys.length = true
  · rw [if_pos z] at p
    have im := Ext.imm (ι := ι) (sm.immSet (o := .lst ws) hn wo ha)
    exact ⟨by rw [← r.len]; exact fits_le z, p ι _ _ im (sm.set hn wo ha ⟨_, upd_same, r.ext im⟩) (ry.ext im)⟩
  · rw [if_neg z] at p
    exact p.elim
def lAppend (x : Val) (xs : List Val) (h : EH) : R Val := match getL x h, xs with
  | some ys, [y] => putL x (ys ++ [y]) (.d .non) h
  | _, _ => .bad
theorem m_lAppend : MtR X "list.append" (rM X.K G lAppend) := MtR.imp mt_append fun v vs H Q ⟨F, ι, h, x, xs, r, rs, sm, p⟩ => by
  unfold lAppend at p
  split at p
  · rename_i ys y e1
    obtain ⟨a, n, ws, rfl, hn, ha, rfl, h1, r1⟩ := getL_ok e1 sm r
    obtain ⟨w, rfl, rw'⟩ := vals1 rs
    obtain ⟨z, q⟩ := putL_ok (W := WF) (y := Val.d .non) (w := V.non) hn rfl ha sm (r1.append (RVs.one rw')) rfl p
    rw [List.length_append, List.length_singleton] at z
    exact ⟨a, ws, w, rfl, rfl, h1, by omega, q⟩
  · exact p.elim
def lPop (x : Val) (xs : List Val) (h : EH) : R Val := match getL x h, xs with
  | some ys, [] => match ys[ys.length - 1]? with
    | some y => putL x ys.dropLast y h
    | none => .bad
  | _, _ => .bad
theorem RVs.dropLast {K : PySem.W.Frag} {ι : List Addr} {H : Hp} {xs : List Val} {vs : List V} (r : RVs K ι H xs vs) : RVs K ι H xs.dropLast vs.dropLast := by
  rw [List.dropLast_eq_take, List.dropLast_eq_take, ← r.len]
  exact r.take _
theorem m_lPop : MtR X "list.pop" (rM X.K G lPop) := MtR.imp mt_pop fun v vs H Q ⟨F, ι, h, x, xs, r, rs, sm, p⟩ => by
  unfold lPop at p
  split at p
  · rename_i ys e1
    obtain ⟨a, n, ws, rfl, hn, ha, rfl, h1, r1⟩ := getL_ok e1 sm r
    split at p
    · rename_i y ey
      obtain ⟨w, ew, rw'⟩ := r1.get ey
      have z := (putL_ok (W := WF) hn rfl ha sm r1.dropLast rw' p).2
      rw [r1.len] at ew
      exact ⟨a, ws, w, rfl, rs, h1, ew, z⟩
    · exact p.elim
  · exact p.elim
def lExtend (x : Val) (xs : List Val) (h : EH) : R Val := match getL x h, xs with
  | some ys, [z] => match getL z h with
    | some zs => putL x (ys ++ zs) (.d .non) h
    | none => .bad
  | _, _ => .bad
theorem m_lExtend : MtR X "list.extend" (rM X.K G lExtend) := MtR.imp mt_extend fun v vs H Q ⟨F, ι, h, x, xs, r, rs, sm, p⟩ => by
  unfold lExtend at p
  split at p
  · rename_i ys z e1
    split at p
    · rename_i zs e2
      obtain ⟨a, n, ws, rfl, hn, ha, rfl, h1, r1⟩ := getL_ok e1 sm r
      obtain ⟨w, rfl, rw'⟩ := vals1 rs
      obtain ⟨b, m, us, rfl, hm, hb, rfl, h2, r2⟩ := getL_ok e2 sm rw'
      obtain ⟨z, q⟩ := putL_ok (W := WF) (y := Val.d .non) (w := V.non) hn rfl ha sm (r1.append r2) rfl p
      rw [List.length_append] at z
      exact ⟨a, b, ws, us, rfl, rfl, h1, h2, z, q⟩
    · exact p.elim
  · exact p.elim

/-! ### empty dicts -/
def mDk : M Val := fun _ h => .ok (.r h.length) (h ++ [.dk []])
def mDt : M Val := fun _ h => .ok (.r h.length) (h ++ [.dt []])
theorem re_dk : PE X (.Dict [] [] pos) (rdE X.K G W mDk) := PE.imp pe_dnewK fun σ H Q ⟨F, ι, env, h, en, sm, p⟩ q hq =>
  p _ _ _ (Ext.new hq) (sm.add hq ⟨[], upd_same, .nil⟩) ⟨q, by rw [← sm.len]; exact getNew, rfl⟩
theorem re_dt : PE X (.Dict [] [] pos) (rdE X.K G W mDt) := PE.imp pe_dnewT fun σ H Q ⟨F, ι, env, h, en, sm, p⟩ q hq =>
  p _ _ _ (Ext.new hq) (sm.add hq ⟨[], upd_same, .nil⟩) ⟨q, by rw [← sm.len]; exact getNew, rfl⟩
end
end Ev

set_option Elab.async false
set_option linter.all false
set_option maxRecDepth 100000
set_option maxHeartbeats 4000000
/-! Ev, 15: repr beside repr, defs that call it, the law's end. -/
namespace Ev
open PySem PySem.Spec PyProof.Rows L2

/-! ### texts of data -/
mutual
def pyBeq : PyData → PyData → Bool
  | .none, .none => true
  | .bool a, .bool b => decide (a = b)
  | .int a, .int b => decide (a = b)
  | .str a, .str b => decide (a.cps.toList = b.cps.toList)
  | .list a, .list b => pyBeqs a b
  | .tuple a, .tuple b => pyBeqs a b
  | _, _ => false
def pyBeqs : List PyData → List PyData → Bool
  | [], [] => true
  | x :: xs, y :: ys => pyBeq x y && pyBeqs xs ys
  | _, _ => false
end
mutual
theorem pyBeq_eq : ∀ {a b : PyData}, pyBeq a b = true → a = b
  | .none, b, h => by cases b <;> first | rfl | cases h
  | .bool x, b, h => by
    cases b with
    | bool y => rw [of_decide_eq_true h]
    | _ => cases h
  | .int x, b, h => by
    cases b with
    | int y => rw [of_decide_eq_true h]
    | _ => cases h
  | .str x, b, h => by
    cases b with
    | str y =>
      have e := of_decide_eq_true h
      obtain ⟨⟨l⟩⟩ := x
      obtain ⟨⟨m⟩⟩ := y
      cases e
      rfl
    | _ => cases h
  | .list x, b, h => by
    cases b with
    | list y => rw [pyBeqs_eq (show pyBeqs x y = true from h)]
    | _ => cases h
  | .tuple x, b, h => by
    cases b with
    | tuple y => rw [pyBeqs_eq (show pyBeqs x y = true from h)]
    | _ => cases h
  | .dict x, b, h => by cases b <;> cases h
theorem pyBeqs_eq : ∀ {a b : List PyData}, pyBeqs a b = true → a = b
  | [], b, h => by
    cases b with
    | nil => rfl
    | cons y ys => cases h
  | x :: xs, b, h => by
    cases b with
    | nil => cases h
    | cons y ys =>
      obtain ⟨h1, h2⟩ := Bool.and_eq_true_iff.mp (show (pyBeq x y && pyBeqs xs ys) = true from h)
      rw [pyBeq_eq h1, pyBeqs_eq h2]
end
mutual
/-- how long a text may be -/
def txtSz : PyData → Nat
  | .int i => i.natAbs.log2 + 2
  | .str x => 10 * x.cps.toList.length + 2
  | .list xs => txtSzs xs + 3
  | .tuple xs => txtSzs xs + 3
  | _ => 5
def txtSzs : List PyData → Nat
  | [] => 0
  | x :: xs => txtSz x + 2 + txtSzs xs
end
mutual
def txtOk : PyData → Bool
  | .int i => Nat.blt i.natAbs.log2 1920
  | .str x => x.cps.toList.all fun c => Nat.blt c 4294967296
  | .list xs => txtOks xs
  | .tuple xs => txtOks xs
  | .dict _ => false
  | _ => true
def txtOks : List PyData → Bool
  | [] => true
  | x :: xs => txtOk x && txtOks xs
end
mutual
theorem txt_le : ∀ {d : PyData}, txtOk d = true → d.shown.length ≤ txtSz d ∧ d.showable = true ∧ d.hasDict = false
  | .none, _ => ⟨by show (PyData.shown .none).length ≤ 5; decide, rfl, by simp only [PyData.hasDict]⟩
  | .bool b, _ => ⟨by show (PyData.shown (.bool b)).length ≤ 5; cases b <;> decide, rfl, by simp only [PyData.hasDict]⟩
  | .int i, h => by
    have h1 : i.natAbs.log2 < 1920 := Nat.le_of_ble_eq_true h
    refine ⟨?_, by simp only [PyData.showable]; exact decide_eq_true h1, by simp only [PyData.hasDict]⟩
    have q := int_text_length_le (a := i) (k := i.natAbs.log2 + 1) (by omega) (by omega)
    show (Str.ofString (toString i)).length ≤ i.natAbs.log2 + 2
    rw [PySem.ofString_length]
    omega
  | .str x, h => by
    have h1 : ∀ c ∈ x.cps.toList, c < 16 ^ 8 := fun c hc => by
      have z := Nat.le_of_ble_eq_true (List.all_eq_true.mp (show (x.cps.toList.all fun c => Nat.blt c 4294967296) = true from h) c hc)
      have e : (16 : Nat) ^ 8 = 4294967296 := by decide
      omega
    refine ⟨?_, rfl, by simp only [PyData.hasDict]⟩
    have q := StrLaws.reprText_len x h1
    show (reprText x).length ≤ 10 * x.cps.toList.length + 2
    have e : x.length = x.cps.toList.length := by simp [Str.length]
    omega
  | .list xs, h => by
    obtain ⟨h1, h2, h3⟩ := txts_le (show txtOks xs = true from h)
    have q := listText_len_le (PyData.shownAll xs)
    have e := PyData.shownAll_length xs
    refine ⟨?_, by simp only [PyData.showable]; exact h2, by simp only [PyData.hasDict]; exact h3⟩
    show (listText (PyData.shownAll xs)).length ≤ txtSzs xs + 3
    omega
  | .tuple xs, h => by
    obtain ⟨h1, h2, h3⟩ := txts_le (show txtOks xs = true from h)
    have q := tupleText_len_le (PyData.shownAll xs)
    have e := PyData.shownAll_length xs
    refine ⟨?_, by simp only [PyData.showable]; exact h2, by simp only [PyData.hasDict]; exact h3⟩
    show (tupleText (PyData.shownAll xs)).length ≤ txtSzs xs + 3
    omega
  | .dict _, h => by cases h
theorem txts_le : ∀ {xs : List PyData}, txtOks xs = true → ((PyData.shownAll xs).map (·.length)).sum + 2 * xs.length ≤ txtSzs xs ∧ PyData.showableAll xs = true ∧ PyData.hasDictAll xs = false
  | [], _ => ⟨by simp only [PyData.shownAll, List.map_nil, List.sum_nil, List.length_nil]; exact Nat.zero_le _, rfl, by simp only [PyData.hasDictAll]⟩
  | x :: xs, h => by
    obtain ⟨h1, h2⟩ := Bool.and_eq_true_iff.mp (show (txtOk x && txtOks xs) = true from h)
    obtain ⟨a1, a2, a3⟩ := txt_le h1
    obtain ⟨b1, b2, b3⟩ := txts_le h2
    refine ⟨?_, by simp only [PyData.showableAll, a2, b2, Bool.and_self], by simp only [PyData.hasDictAll, a3, b3, Bool.or_self]⟩
    simp only [PyData.shownAll, List.map_cons, List.sum_cons, List.length_cons]
    show _ ≤ txtSz x + 2 + txtSzs xs
    omega
end
def repOk (d : PyData) : Bool := txtOk d && (fits (txtSz d) && Nat.ble d.depth 60)
def rRep (K : PySem.W.Frag) : List V → Hp → VK → Prop := fun vs H Q => ∃ x d, vs = [x] ∧ Dp K H x d ∧ repOk d = true ∧ Q (.str d.shown) H
theorem c_repr {X : Cx} (hg : X.A.guards = some []) (hu : X.A.units + 64 < cLine) : CallR X (.builtin "repr") (rRep X.K) := fun pins s σ H xs us Q I rv ⟨x, d, e, dp, ok, q⟩ => by
  subst e
  obtain ⟨u, rfl, ru⟩ := L2.vals1 rv
  obtain ⟨o1, o2⟩ := Bool.and_eq_true_iff.mp ok
  obtain ⟨o3, o4⟩ := Bool.and_eq_true_iff.mp o2
  obtain ⟨t1, t2, t3⟩ := txt_le o1
  have hz := Nat.le_trans t1 (fits_le o3)
  have hd := Nat.le_of_ble_eq_true o4
  obtain ⟨as, rd⟩ := Dp.reads I d x u dp ru
  have fin : ∀ h' t tk, (∀ b o, s.heap.get? b = some o → h'.get? b = some o) → EP X pins σ Q (.str d.shown t) { s with heap := h', toks := tk } := fun h' t tk hk => ⟨.str d.shown, H, I.kept hk, ⟨_, rfl⟩, q⟩
  cases dp with
  | non =>
    cases ru
    exact P.repr_of_none (fin s.heap _ _ fun _ _ e => e)
  | bl b =>
    cases ru
    exact P.repr_of_bool (fin s.heap _ _ fun _ _ e => e)
  | int i =>
    obtain ⟨t, rfl⟩ := ru
    exact P.repr_of_int (by simpa [PyData.showable] using t2) (fin s.heap _ _ fun _ _ e => e)
  | str z =>
    obtain ⟨t, rfl⟩ := ru
    exact P.repr_of_str (fin s.heap _ _ fun _ _ e => e) hz
  | lst _ _ =>
    cases ru
    exact repr_of_reads' rd t2 (PyData.noDict_hsm t3) hg (by omega) (fun _ _ e => e) fin hz
  | tup _ _ =>
    cases ru
    exact repr_of_reads' rd t2 (PyData.noDict_hsm t3) hg (by omega) (fun _ _ e => e) fin hz
/-- repr(a) == repr(b): of data that are the same -/
def repOf (x : Val) (h : EH) : Option PyData := match vpy 32 h x with
  | some p => if repOk p = true then some p else none
  | none => none
theorem repOf_ok {K : PySem.W.Frag} {G : Cg} {F : Hp} {ι : List Addr} {H : Hp} {h : EH} {x : Val} {v : V} {p : PyData} (e : repOf x h = some p) (sm : Sim K G F ι h H) (r : RV K ι H x v) : Dp K H v p ∧ repOk p = true := by
  unfold repOf at e
  split at e
  · rename_i p' e1
    split at e
    · rename_i ok
      cases e
      exact ⟨vpy_ok sm _ _ _ _ e1 r, ok⟩
    · cases e
  · cases e
def mRepEq (a b : M Val) : M Bool := fun env h => (a env h).bind fun x h1 => match repOf x h1 with
  | some p => (b env h1).bind fun y h2 => match repOf y h2 with
    | some q => if pyBeq p q = true then .ok true h2 else .bad
    | none => .bad
  | none => .bad
section
variable {X : Cx} {N ps : List Str} {names : List (Str × NameKind)} {k j : Nat} {W : WX} {G : Cg} {x : Str} {p q pos : Pos} {e a b : Expr} {es : List Expr} {ma : M (List Val)} {me mb mc : M Val}
theorem re_repEq (hG : X.A.guards = some []) (hu : X.A.units + 64 < cLine) (hg : Gl X "repr") (hm : X.mg "repr" = none) (hs : starEach [a] X.env = (false, eval a X.env) :: starEach [] X.env) (hs2 : starEach [b] X.env = (false, eval b X.env) :: starEach [] X.env)
    {pos1 pos2 : Pos} (hbm : behindInMarks .Eq (.Call (.Name "repr" q) [b] [] pos) = false) (ha : PE X a (rdE X.K G W mb)) (hb : PE X b (rdE X.K G W mc)) :
    PE X (.Compare (.Call (.Name "repr" p) [a] [] pos2) [.Eq] [.Call (.Name "repr" q) [b] [] pos] pos1) (rdE X.K G W (mVal (mRepEq mb mc))) :=
  PE.imp (pe_cmpR op_eq (pe_callB (c_repr hG hu) hg hm boot_repr (pa_cons ha pa_nil hs) (by decide) (by decide) hs rfl) (pe_callB (c_repr hG hu) hg hm boot_repr (pa_cons hb pa_nil hs2) (by decide) (by decide) hs2 rfl) hbm) fun σ H Q ⟨F, ι, env, h, en, sm, p⟩ => by
    unfold mVal mRepEq at p
    rw [bindAssoc] at p
    refine rd_bind en sm p fun ι1 H1 h1 x v x1 sm1 r1 p1 => ?_
    split at p1
    · rename_i d ed
      obtain ⟨d1, d2⟩ := repOf_ok ed sm1 r1
      rw [bindAssoc] at p1
      refine ⟨v, d, rfl, d1, d2, rd_bind (en.ext x1) sm1 p1 fun ι2 H2 h2 y w x2 sm2 r2 p2 => ?_⟩
      split at p2
      · rename_i d' ed'
        obtain ⟨d3, d4⟩ := repOf_ok ed' sm2 r2
        split at p2
        · rename_i eq
          obtain rfl := pyBeq_eq eq
          refine ⟨w, d, rfl, d3, d4, rfl, ?_⟩
          rw [decide_eq_true rfl]
          exact PostG.val (v := V.bl true) p2 sm2 rfl
        · exact p2.elim
      · exact p2.elim
    · exact p1.elim

/-! ### defs that ask where they run -/
/-- like FnOk, where no text is being made -/
structure FnG (P : Program) (w : World) (K : PySem.W.Frag) (mg : Str → Option Value) (base : Heap) (C : CXT) (k : Nat) (f : Addr) (fd : FuncData) (ps : List Str) (sp : Sp) : Prop where
  len : ∀ vs H Q E, sp vs H Q E → vs.length = ps.length
  run : ∀ (A : Around) (outer : List Env) (s : Shared) (H : Hp) (args : Args) (us : List Value) (vs : List V) (Q : VK) (E : XK), A.guards = some [] → Room k A → Env0 P w K mg base A outer s H → BindsTo s fd args (ps.zip us) → Vals vs us → sp vs H Q E →
    codeAny (model P w) A (.call (.ref f) args) (CR C outer P w H s Q E) s
theorem FnG.of {P : Program} {w : World} {K : PySem.W.Frag} {mg : Str → Option Value} {base : Heap} {C : CXT} {f : Addr} {fd : FuncData} {sp : Sp} (F : FnOk P w K mg base C k f fd ps sp) : FnG P w K mg base C k f fd ps sp :=
  ⟨F.len, fun A outer s H args us vs Q E _ hr => F.run A outer s H args us vs Q E hr⟩
theorem FnG.mono {P : Program} {w : World} {K : PySem.W.Frag} {mg : Str → Option Value} {base : Heap} {C : CXT} {f : Addr} {fd : FuncData} {sp : Sp} (F : FnG P w K mg base C j f fd ps sp) (h : j ≤ k) : FnG P w K mg base C k f fd ps sp :=
  ⟨F.len, fun A outer s H args us vs Q E hg hr => F.run A outer s H args us vs Q E hg (hr.mono h)⟩
theorem fnG_ok {P : Program} {w : World} {K : PySem.W.Frag} {mg : Str → Option Value} {base : Heap} {nm qual : Str} {params : Arguments} {body : List Stmt} {scope : Scope} {dvs : List V} {kws : List (Str × V)} {f : Addr} {fd : FuncData} {bd : MS}
    (FD : FunD K nm qual params body scope dvs kws f fd) (S : FnScope N ps scope) (hb : ∀ (X : Cx) (W : WX), X.prog = P → X.w = w → X.K = K → X.mg = mg → X.base = base → X.A.guards = some [] → CtS X N scope.names k W → PSs X body (rdS X.K G W bd)) :
    FnG P w K mg base (CX P w) (k + 1) f fd ps (SpE K G (fnOf ps.length N.length bd)) := by
  have len : ∀ (vs : List V) (H : Hp) (Q : VK) (E : XK), SpE K G (fnOf ps.length N.length bd) vs H Q E → vs.length = ps.length := fun vs H Q E ⟨F, ι, h, xs, r, sm, p⟩ => by
    unfold fnOf at p
    split at p
    · rename_i z
      rw [← r.len]
      exact Nat.eq_of_beq_eq_true z
    · exact p.elim
  refine ⟨len, fun A outer s H args us vs Q E hg hr e0 bt r sp => ?_⟩
  obtain ⟨oc, od, dV, kV, doc, pm, an, cdv, ct, osl, rfl, lk, hcd, _, _⟩ := FD.ex
  have hK : K.In s.heap := e0.mod.kin.keeps fun b o e => (e0.bs b o e).1
  have hks : ∀ y ∈ ps.zip us, scope.names.lookup y.1 = some .local ∨ (scope.names.lookup y.1 = some .cell ∧ ((cellsFrom (s.heap.objs.size + 1) scope.names []).lookup y.1).isSome = true) := fun y hy => by
    rcases S.par y.1 (List.of_mem_zip (show (y.1, y.2) ∈ ps.zip us from hy)).1 with z | z
    · exact .inl z
    · exact .inr ⟨z, PySem.W.cellsFrom_some _ _ _ (.inl z)⟩
  refine codeAny_call_function hr.depth (hK _ _ lk) rfl S.co S.gen rfl (PySem.W.codeRec_of hK hcd) (bt _ _ _ _ (wpAny_newFunctionEnv_cells S.kind hks fun env he s1 ic => ?_))
  subst he
  refine ⟨(e0.mod.nolimit.keeps fun b o e => (e0.bs b o e).1).keeps ic.toInCall.keep, codeAny_func ?_⟩
  have I := inv_start (CX := CX P w) (E := E) S hr.hd e0 (len _ _ _ _ sp) r ic
  obtain ⟨F, ι, h, xs, rx, sm, p⟩ := sp
  have hx := hb (cxOf (CX P w) P w K mg base N qual scope f cdv A outer s H E) (fun cd d _ H' => E cd d H') rfl rfl rfl rfl rfl hg ⟨⟨rfl, S.nd, rfl, fun x kd _ h => h, fun x h => .inr h, fun _ _ => rfl, hr.deeper _, takes_of rfl rfl rfl rfl, fun _ _ _ _ _ h => h, S.kind⟩, passes_of rfl⟩
  refine wpAny_mono (hx.run [] s1 (L2.start N vs) H { nx := fun _ H' => Q .non H', rt := Q } I ⟨F, ι, startE N.length xs, h, startE_ok rx, sm, ?_⟩) (fun fl s' hs => ?_) fun e s' hs => hs
  · unfold fnOf at p
    split at p
    · cases e : bd (startE N.length xs) h with
      | nx env' h' =>
        rw [e] at p
        exact fun ι1 H1 σ1 x1 en1 s1 => p ι1 H1 .non x1 s1 rfl
      | rt v h' =>
        rw [e] at p
        exact fun ι1 H1 v1 x1 s1 r1 => p ι1 H1 v1 x1 s1 r1
      | exc c fs env' h' =>
        rw [e] at p
        exact fun ι1 H1 σ1 cv d x1 en1 s1 xr => p ι1 H1 cv d x1 s1 xr
      | bk env' h' =>
        rw [e] at p
        exact p.elim
      | ct env' h' =>
        rw [e] at p
        exact p.elim
      | bad =>
        rw [e] at p
        exact p.elim
    · exact p.elim
  · cases fl with
    | ret u =>
      obtain ⟨v, σ', H', J, rv, qv⟩ := hs
      exact ⟨v, H', J.os, J.bare, J.base, J.hok, rv, qv⟩
    | next =>
      obtain ⟨σ', H', J, qv⟩ := hs
      exact ⟨V.non, H', J.os, J.bare, J.base, J.hok, rfl, qv⟩
    | brk =>
      obtain ⟨_, _, _, z⟩ := hs
      exact False.elim z
    | cont =>
      obtain ⟨_, _, _, z⟩ := hs
      exact False.elim z
/-- the call of such a def -/
theorem pe_callG {f : Fn} {ad : Addr} {fd : FuncData} {dvs : List V} {dus : List Value} {sp : Sp} {E : XK} {t : TA} (hG : X.A.guards = some []) (F : FnG X.prog X.w X.K X.mg X.base (CX X.prog X.w) k ad fd ps sp) (hr : Room k X.A) (hg : Gl X x) (hm : X.mg x = some (.ref ad)) (hk : PySem.W.keepIn X.K (.ref ad) = true)
    (hb : Binds X.K fd ps dus) (hd : Vals dvs dus) (hx : Passes (CX X.prog X.w) X E) (hdb : (x == ("__debug__" : Str)) = false) (he : starEach (e :: es) X.env = (false, eval e X.env) :: starEach es X.env) (hpl : (backTo pos (starEach es X.env)).any (·.1) = false) (ha : PA X (e :: es) t) :
    PE X (.Call (.Name x p) (e :: es) [] pos) (tCall sp dvs E t) := by
  refine ⟨fun pins s σ H Q I h => wpAny_Call_Name_kw (ld_glob I hg hm (PySem.W.callWith_K (h₀ := X.base) I.ok.mod.kin hk (thn (ha.run pos pins s σ H _ I h) fun us s1 ⟨vs, H1, I1, r, qq⟩ => ⟨I1.kIn, ?_⟩) he hpl) hdb)⟩
  have r2 : Vals (vs ++ dvs) (us ++ dus) := r.append hd
  have hl : (us ++ dus).length = ps.length := r2.length.symm.trans (F.len _ _ _ _ qq)
  refine wpAny_call (codeAny_mono (F.run X.A X.stack s1 H1 ⟨us, []⟩ (us ++ dus) (vs ++ dvs) Q E hG hr I1.env0 (hb s1 us I1.kIn hl) r2 qq) fun r s' hq => ?_)
  cases r with
  | error e => exact hx pins σ H1 s1 e s' I1 hq
  | ok fl =>
    cases fl with
    | ret u => exact I1.after hq
    | next => exact False.elim hq
    | brk => exact False.elim hq
    | cont => exact False.elim hq
theorem re_callG {f : Fn} {ad : Addr} {fd : FuncData} {ds : List D} {dvs : List V} {dus : List Value} (hG : X.A.guards = some []) (C : Ct X N names k W) (FO : FnG X.prog X.w X.K X.mg X.base (CX X.prog X.w) j ad fd ps (SpE X.K G f)) (hj : Nat.ble j k = true) (hg : Gl X x) (hm : X.mg x = some (.ref ad)) (hk : PySem.W.keepIn X.K (.ref ad) = true)
    (hb : Binds X.K fd ps dus) (hv : Vals dvs dus) (hd : ∀ H, RDs X.K H ds dvs) (hdb : (x == ("__debug__" : Str)) = false) (he : starEach (e :: es) X.env = (false, eval e X.env) :: starEach es X.env) (hpl : (backTo pos (starEach es X.env)).any (·.1) = false) (ha : PA X (e :: es) (rdA X.K G W ma)) :
    PE X (.Call (.Name x p) (e :: es) [] pos) (rdE X.K G W (mCall f ds ma)) :=
  PE.imp (pe_callG (f := f) hG (FO.mono (Nat.le_of_ble_eq_true hj)) C.room hg hm hk hb hv (xpass C) hdb he hpl ha) fun σ H Q q => call_imp C hd σ H Q q
end
end Ev

set_option Elab.async false
set_option linter.all false
set_option maxRecDepth 100000
set_option maxHeartbeats 4000000
/-! Ev, 16: the law's end. -/
namespace Ev
open PySem PySem.Spec PyProof.Rows L2

theorem end_call {P : Program} {w : World} {K : PySem.W.Frag} {mg mb : Str → Option Value} {k : Nat} {fa a : Addr} {fd : FuncData} {x : Str} {G : Cg} {f : Fn} {s1 : Shared} {vs : List Value} {ns : List Int} {h' : EH}
    (KX : K.In s1.heap) (hns : s1.heap.Ns mainGlobals mg) (hb : s1.heap.Ns builtinsNs mb) (hbb : ∀ x : Str, x ≠ "__name__" → mb x = bootBuiltins x) (hlim : s1.heap.NoLimit) (hg : s1.gens = #[])
    (ha : s1.heap.get? a = some { cls := .type "list", data := .seq vs.toArray }) (hi : IntsAre vs ns) (hl : ns.length ≤ sizeLine) (hr : Room k callerA)
    (F : ∀ base : Heap, K.In base → base.Ns mainGlobals mg → FnG P w K mg base (CX P w) k fa fd [x] (SpE K G f)) (hbind : ∀ (s : Shared) (u : Value), BindsTo s fd ⟨[u], []⟩ [(x, u)]) (ef : f [.z ns] [] = .ok (.d (.bl true)) h') :
    codeAny (model P w) callerA (.call (.ref fa) ⟨[.ref a], []⟩) (fun r s' => r = .ok (.ret (.bool true)) ∧ OldK s1.heap s'.heap ∧ s'.os = s1.os ∧ AllBare s'.gens) s1 := by
  have rv := vals_ints hi
  have nl := hi.length
  have go : ∀ H : Hp, Only H → SqZ K H a (ns.map V.int) → HOk P w H s1.heap → (∀ b, H b ≠ none → b = a ∧ K.lookup a = none) →
      codeAny (model P w) callerA (.call (.ref fa) ⟨[.ref a], []⟩) (fun r s' => r = .ok (.ret (.bool true)) ∧ OldK s1.heap s'.heap ∧ s'.os = s1.os ∧ AllBare s'.gens) s1 := fun H hO hS hok hA => by
    have free : ∀ {b : Addr} {o : Obj}, s1.heap.get? b = some o → (b = a → False) → H b = none := fun {b o} e n => by
      cases q : H b with
      | none => rfl
      | some u => exact (n (hA b (by rw [q]; simp)).1).elim
    have nsH : ∀ {b : Addr} {m : Str → Option Value}, s1.heap.Ns b m → (hidT s1.heap H).Ns b m := fun {b m} ⟨o, es, ep, e, d, r⟩ => ⟨o, es, ep, hidT_get e (free e fun z => by
      subst z
      rw [ha] at e
      cases e
      cases (show Data.seq vs.toArray _ = Data.dict es ep from d)), d, r⟩
    have KH : K.In (hidT s1.heap H) := fun b o e => hidT_get (KX b o e) (by
      cases q : H b with
      | none => rfl
      | some u =>
        obtain ⟨z, z2⟩ := hA b (by rw [q]; simp)
        rw [z, z2] at e
        cases e)
    have md : Mod K mg (hidT s1.heap H) := ⟨KH, nsH hns, ⟨mb, nsH hb, hbb⟩, let ⟨mc, h1, h2⟩ := hlim; ⟨mc, nsH h1, h2⟩⟩
    have e0 : Env0 P w K mg (hidT s1.heap H) callerA [] s1 H := ⟨rfl, md, fun b o e => of_hidT e, Nat.le_of_eq (hidT_size _ _), trivial, fun b hb => (by cases hb), hok, .of_eq hg⟩
    have sp : SpE K G f [.ref a] H (fun v _ => v = .bl true) (fun _ _ _ => False) := ⟨H, [], [], [.z ns], ⟨.ref a, [], rfl, ⟨a, rfl, hS⟩, rfl⟩, Sim.zero H, by
      rw [ef]
      exact fun ι1 H1 v _ _ r => r⟩
    refine codeAny_mono ((F _ KH (nsH hns)).run callerA [] s1 H ⟨[.ref a], []⟩ [.ref a] [.ref a] _ _ rfl hr e0 (hbind s1 (.ref a)) (.cons rfl .nil) sp) fun r s' h => ?_
    cases r with
    | error e =>
      obtain ⟨_, _, _, _, _, _, _, _, _, _, _, _, z⟩ := h
      exact z.elim
    | ok fl =>
      cases fl with
      | next => exact False.elim h
      | brk => exact False.elim h
      | cont => exact False.elim h
      | ret u =>
        obtain ⟨v, H', os, bare, un, hok', r', q⟩ := h
        obtain rfl : v = .bl true := q
        obtain rfl : u = Value.bool true := r'
        refine ⟨rfl, OldK.of_keep fun b o e => ?_, os, bare⟩
        rcases hO b with z | ⟨ob, xs, z⟩
        · exact un.keep b o e z (fun m => by cases m) (by simp)
        · obtain ⟨e1, _⟩ := hok b _ z
          obtain ⟨e2, _⟩ := hok' b _ (un.frzs b ob _ z)
          rw [e] at e1
          cases e1
          exact e2
  cases hk : K.lookup a with
  | some o =>
    have e := KX a o hk
    rw [ha] at e
    cases e
    exact go (fun _ => none) (fun _ => .inl rfl) (.inr ⟨_, vs.toArray, _, hk, rfl, rfl, rfl, by rw [List.size_toArray, nl]; exact hl, by simpa using rv⟩) (fun b u z => by cases (show (none : Option HO) = some u from z)) fun b z => (z rfl).elim
  | none =>
    refine go (fun b => if b = a then some (.frz { cls := .type "list", data := .seq vs.toArray } (.lst (ns.map V.int))) else none) (fun b => ?_) (.inl ⟨_, if_pos rfl⟩) (fun b u z => ?_) fun b z => ⟨?_, hk⟩
    · by_cases h : b = a
      · exact .inr ⟨_, _, if_pos h⟩
      · exact .inl (if_neg h)
    · by_cases h : b = a
      · cases (if_pos h).symm.trans z
        subst h
        exact ⟨ha, by rw [List.length_map]; exact hl, vs, _, rv, ha⟩
      · cases (if_neg h).symm.trans z
    · by_cases h : b = a
      · exact h
      · exact (z (if_neg h)).elim
/-- a law, over a head by facts -/
theorem walk_ofG {l : PySem.W.OpenLaw} {n k : Nat} {q : Program} {loose : List Str} {XP : (Str → Option Value) → Heap → Prop} {YP : World → Heap → Prop} {d : DefRec} {x : Str} {f : Fn}
    (hn : l.most = some n) (hn2 : n ≤ sizeLine) (hdf : d.params.defaults = []) (hr : Room k callerA)
    (F : ∀ (w : World) (mg : Str → Option Value) (fa : Addr) (h : Heap), YP w h → h.Ns mainGlobals mg → mg d.name = some (.ref fa) →
      ∃ (K : PySem.W.Frag) (G : Cg) (fd : FuncData), K.In h ∧ (∀ (s : Shared) (u : Value), BindsTo s fd ⟨[u], []⟩ [(x, u)]) ∧ ∀ base : Heap, K.In base → base.Ns mainGlobals mg → FnG l.prog w K mg base (CX l.prog w) k fa fd [x] (SpE K G f))
    (ok : ∀ ns : List Int, ns.length ≤ n → ∃ h', f [.z ns] [] = .ok (.d (.bl true)) h') : PySem.W.WalkO q loose XP YP l.row.toRowW d [] (fun f vs => PySem.call f vs) := by
  refine Att.attach_call hn hdf fun w s0 s1 mg mb fa o pm cd doc a vs ns G Y ho hd hcd hmg hobj hints hlen hg => ?_
  obtain ⟨K, C, fd, KX, hb, hF⟩ := F w mg fa _ Y G.T.g hmg
  obtain ⟨h', e⟩ := ok ns hlen
  exact end_call KX G.T.g G.T.b G.T.builtins G.T.nolimit hg hobj hints (Nat.le_trans hlen hn2) hr hF hb e
end Ev

set_option Elab.async false
set_option linter.all false
set_option maxRecDepth 100000
set_option maxHeartbeats 4000000
/-! Ev, 17: the rules as a printed proof takes them. -/
namespace Ev
open PySem PySem.Spec PyProof.Rows L2

/-! ### shapes -/
def notStar : Expr → Bool
  | .Starred _ _ => false
  | _ => true
theorem star_ok {e : Expr} {es : List Expr} {env : Env} (h : notStar e = true) : starEach (e :: es) env = (false, eval e env) :: starEach es env := by
  cases e <;> first | rfl | cases h
def plainL : List Expr → Bool
  | [] => true
  | e :: r => notStar e && plainL r
theorem plain_ok {env : Env} {pos : Pos} : ∀ {es : List Expr}, plainL es = true → (backTo pos (starEach es env)).any (·.1) = false
  | [], _ => rfl
  | e :: r, h => by
    obtain ⟨h1, h2⟩ := Bool.and_eq_true_iff.mp h
    rw [star_ok h1]
    show (false || (backTo pos (starEach r env)).any (·.1)) = false
    rw [plain_ok h2]
    rfl
def baseC : Expr → Bool
  | .Call _ _ _ _ => false
  | _ => true
theorem base_ok {e : Expr} {f : Str} {env : Env} (h : baseC e = true) : attributeBase e f env (eval e env) = eval e env := by
  cases e <;> first | rfl | cases h
/-- a call that is no super() -/
theorem base_call {fn : Expr} {x : Str} {p pos : Pos} {es : List Expr} {ks : List Keyword} {f : Str} {env : Env} (h : (x == ("super" : Str)) = false ∨ es ≠ []) : attributeBase (.Call (.Name x p) es ks pos) f env (eval (.Call (.Name x p) es ks pos) env) = eval (.Call (.Name x p) es ks pos) env := by
  unfold attributeBase
  cases es with
  | cons e r => rfl
  | nil =>
    cases ks with
    | cons q r => rfl
    | nil =>
      rcases h with h | h
      · have h2 : (x != ("super" : Str)) = true := by rw [bne, h]; rfl
        simp only [h2, Bool.true_or, if_true]
        try simp
      · exact absurd rfl h
def notSet : Expr → Bool
  | .Set _ _ _ => false
  | _ => true
theorem beh_ok {op : CmpOp} {e : Expr} (h : notSet e = true) : behindInMarks op e = false := by
  cases e <;> first | rfl | cases h
theorem last_ok {o o' : CmpOp} {e e' : Expr} (h : notSet e' = true) : lastMarks [o, o'] [e, e'] = false := beh_ok h
theorem fold_ok {e : Expr} {env : Env} (h : notSet e = true) : ∀ x, foldedSetIterable e env x = pure x := fun x => by
  cases e <;> first | rfl | cases h
def plainTest : Expr → Bool
  | .UnaryOp .Not _ _ => false
  | .BoolOp _ _ _ => false
  | .IfExp _ _ _ _ => false
  | .Compare _ _ _ _ => false
  | _ => true
theorem test_ok {e : Expr} {env : Env} (h : plainTest e = true) : ∀ whole, isTrue e env whole = (do let v ← whole; standAt e.pos; holding [v] (truthy v)) := fun whole => by
  cases e with
  | UnaryOp o _ _ => cases o <;> first | rfl | cases h
  | BoolOp _ _ _ => cases h
  | IfExp _ _ _ _ => cases h
  | Compare _ _ _ _ => cases h
  | _ => rfl
def notSlice : Expr → Bool
  | .Slice _ _ _ _ => false
  | _ => true
theorem ix_ok {b : Expr} (h : notSlice b = true) : PlainIx b := fun o i => by
  cases b <;> first | rfl | cases h
theorem aug_ok {i : Expr} (h : notSlice i = true) : ∀ ov iv new, augStore i ov iv new = (do holding [new, ov, iv] (setItem ov iv new); release [new, ov, iv] []; pure .next) := fun ov iv new => by
  cases i <;> first | rfl | cases h
def notComp : Expr → Bool
  | .ListComp _ _ _ _ => false
  | .SetComp _ _ _ _ => false
  | .DictComp _ _ _ _ _ => false
  | _ => true
theorem swp_ok {e : Expr} {t : Option Expr} {l : Nat} {env : Env} (h : notComp e = true) : swapsWith e t l env = pure false := by
  cases e <;> first | rfl | cases h
def notName : Expr → Bool
  | .Name _ _ => false
  | _ => true
theorem swpN_ok {e t : Expr} {l : Nat} {env : Env} (h : notName t = true) : swapsWith e (some t) l env = pure false := by
  unfold swapsWith
  cases e <;> first | rfl | (cases t <;> first | rfl | cases h)
def notTup : Expr → Bool
  | .Tuple _ _ _ => false
  | .List _ _ => false
  | _ => true
theorem swt_ok {e t : Expr} {env : Env} (h : notTup t = true) : swappedStores [t] e env = pure none := by
  unfold swappedStores
  cases t <;> first | rfl | cases h
def notTupE : Expr → Bool
  | .Tuple _ _ _ => false
  | _ => true
theorem swe_ok {e t : Expr} {env : Env} (h : notTupE e = true) : swappedStores [t] e env = pure none := by
  unfold swappedStores
  cases e <;> first | (cases t <;> rfl) | cases h
/-- a target among several that is no name: stored in the written order -/
theorem swx_ok {ts vs : List Expr} {k k2 : _} {p p2 : Pos} {env : Env} (h : ts.any notName = true) : swappedStores [.Tuple ts k p] (.Tuple vs k2 p2) env = pure none := by
  unfold swappedStores
  have key : (ts.filterMap fun e => match e with
    | .Name id pos => if (env.kindOf id == some .local && pos.line == (ts.head?.map (·.pos.line)).getD 0) = true then some id else none
    | _ => none).length ≠ ts.length := by
    generalize (ts.head?.map (·.pos.line)).getD 0 = l
    intro e
    have le : ∀ us : List Expr, (us.filterMap fun e => match e with
      | .Name id pos => if (env.kindOf id == some .local && pos.line == l) = true then some id else none
      | _ => none).length ≤ us.length := fun us => List.length_filterMap_le _ us
    induction ts with
    | nil => cases h
    | cons t ts ih =>
      rw [List.any_cons] at h
      rw [List.filterMap_cons] at e
      have l1 := le ts
      split at e
      · rw [List.length_cons] at e
        omega
      · rename_i q
        rw [List.length_cons, List.length_cons] at e
        have ht : notName t = false := by
          cases t with
          | Name _ _ => rfl
          | _ => cases q
        rw [ht, Bool.false_or] at h
        exact ih h (by omega)
  have key2 : ((ts.filterMap fun e => match e with
    | .Name id pos => if (env.kindOf id == some .local && pos.line == (ts.head?.map (·.pos.line)).getD 0) = true then some id else none
    | _ => none).length != ts.length) = true := by
    rw [bne_iff_ne]
    exact key
  have fin : ∀ {α : Type} {b : Bool} {x y : α}, (if ((ts.filterMap fun e => match e with
    | .Name id pos => if (env.kindOf id == some .local && pos.line == (ts.head?.map (·.pos.line)).getD 0) = true then some id else none
    | _ => none).length != ts.length || b) = true then x else y) = x := fun {α b x y} => if_pos (by rw [key2]; rfl)
  dsimp only
  split
  · rfl
  · split
    · rfl
    · exact fin
theorem ite_same {α : Type} {c : Prop} [Decidable c] {x y : α} (h : y = x) : (if c then x else y) = x := by
  rw [h]
  exact ite_self x
theorem swf_ok {ts vs : List Expr} {k k2 : _} {p p2 : Pos} {env : Env} (h : vs.all (foldedForSure 8) = true) : swappedStores [.Tuple ts k p] (.Tuple vs k2 p2) env = pure none := by
  unfold swappedStores
  exact ite_same (ite_same (ite_same (if_pos h)))
theorem swl_ok {ts vs : List Expr} {k k2 : _} {p p2 : Pos} {env : Env} (h : (ts.length == 2 || ts.length == 3) = false) : swappedStores [.Tuple ts k p] (.Tuple vs k2 p2) env = pure none := by
  unfold swappedStores
  exact if_pos (by rw [h]; rfl)
theorem noSt : ∀ {vs : List Expr}, plainL vs = true → (vs.any fun | .Starred .. => true | _ => false) = false
  | [], _ => rfl
  | e :: r, h => by
    obtain ⟨h1, h2⟩ := Bool.and_eq_true_iff.mp h
    have q := noSt h2
    rw [List.any_cons, q, Bool.or_false]
    cases e <;> first | rfl | cases h1
theorem neT {a b : Bool} (h : a = false) (e : b = a) : ¬ b = true := by
  subst h
  rw [e]
  exact Bool.false_ne_true
theorem sw2_ok {x y : Str} {px py pt p2 : Pos} {kt k2 : _} {a b : Expr} {env : Env} (hk : env.scope.kind = .function) (hx : env.scope.names.lookup x = some .local) (hy : env.scope.names.lookup y = some .local) (hp : (py.line == px.line) = true) (hxy : x ≠ y)
    (hs : plainL [a, b] = true) (hf : [a, b].all (foldedForSure 8) = false) (hc : [a, b].all (constantsAlone 8) = false) : swappedStores [.Tuple [.Name x px, .Name y py] kt pt] (.Tuple [a, b] k2 p2) env = pure (some [x, y]) := by
  have kx : env.kindOf x = some .local := hx
  have ky : env.kindOf y = some .local := hy
  have hb : env.blockKind = .function := by unfold Env.blockKind; rw [hk]; rfl
  have hd : ([x, y].eraseDups.length != [x, y].length) = false := by
    have e : (y == x) = false := beq_eq_false_iff_ne.mpr (Ne.symm hxy)
    simp [List.eraseDups_cons, e]
  have hn : ([Expr.Name x px, .Name y py].filterMap fun | .Name id pos => if env.kindOf id == some .local && pos.line == px.line then some id else none | _ => none) = [x, y] := by
    have e1 : (env.kindOf x == some .local && px.line == px.line) = true := by rw [kx, beq_self_eq_true px.line]; rfl
    have e2 : (env.kindOf y == some .local && py.line == px.line) = true := by rw [ky, hp]; rfl
    rw [List.filterMap_cons, List.filterMap_cons]
    simp only [e1, e2, if_true]
    rfl
  unfold swappedStores
  refine (if_neg ?_).trans ((if_neg ?_).trans ?_)
  · rw [hb]
    exact Bool.false_ne_true
  · exact neT (noSt hs) rfl
  · have key : ∀ (l : List Str), l = [x, y] → (if (l.length != [Expr.Name x px, .Name y py].length || l.eraseDups.length != l.length) = true then (pure none : Sem (Option (List Str))) else if [a, b].all (foldedForSure 8) = true then pure none else if [a, b].all (constantsAlone 8) = true then (do unsupported "assign.tuple-of-constant-expressions:order-of-the-stores"; pure (some l)) else pure (some l)) = pure (some [x, y]) := fun l e => by
      subst e
      have e1 : ([x, y].length != [Expr.Name x px, .Name y py].length) = false := rfl
      rw [e1, hd, hf, hc]
      rfl
    exact key _ hn
theorem sw3_ok {x y z : Str} {px py pz pt p2 : Pos} {kt k2 : _} {a b c : Expr} {env : Env} (hk : env.scope.kind = .function) (hx : env.scope.names.lookup x = some .local) (hy : env.scope.names.lookup y = some .local) (hz : env.scope.names.lookup z = some .local) (hp : (py.line == px.line) = true) (hq : (pz.line == px.line) = true) (hxy : x ≠ y) (hxz : x ≠ z) (hyz : y ≠ z)
    (hs : plainL [a, b, c] = true) (hf : [a, b, c].all (foldedForSure 8) = false) (hc : [a, b, c].all (constantsAlone 8) = false) : swappedStores [.Tuple [.Name x px, .Name y py, .Name z pz] kt pt] (.Tuple [a, b, c] k2 p2) env = pure (some [x, y, z]) := by
  have kx : env.kindOf x = some .local := hx
  have ky : env.kindOf y = some .local := hy
  have kz : env.kindOf z = some .local := hz
  have hb : env.blockKind = .function := by unfold Env.blockKind; rw [hk]; rfl
  have hd : ([x, y, z].eraseDups.length != [x, y, z].length) = false := by
    have e : (y == x) = false := beq_eq_false_iff_ne.mpr (Ne.symm hxy)
    have e1 : (z == x) = false := beq_eq_false_iff_ne.mpr (Ne.symm hxz)
    have e2 : (z == y) = false := beq_eq_false_iff_ne.mpr (Ne.symm hyz)
    simp [List.eraseDups_cons, e, e1, e2]
  have hn : ([Expr.Name x px, .Name y py, .Name z pz].filterMap fun | .Name id pos => if env.kindOf id == some .local && pos.line == px.line then some id else none | _ => none) = [x, y, z] := by
    have e1 : (env.kindOf x == some .local && px.line == px.line) = true := by rw [kx, beq_self_eq_true px.line]; rfl
    have e2 : (env.kindOf y == some .local && py.line == px.line) = true := by rw [ky, hp]; rfl
    have e3 : (env.kindOf z == some .local && pz.line == px.line) = true := by rw [kz, hq]; rfl
    rw [List.filterMap_cons, List.filterMap_cons, List.filterMap_cons]
    simp only [e1, e2, e3, if_true]
    rfl
  unfold swappedStores
  refine (if_neg ?_).trans ((if_neg ?_).trans ?_)
  · rw [hb]
    exact Bool.false_ne_true
  · exact neT (noSt hs) rfl
  · have key : ∀ (l : List Str), l = [x, y, z] → (if (l.length != [Expr.Name x px, .Name y py, .Name z pz].length || l.eraseDups.length != l.length) = true then (pure none : Sem (Option (List Str))) else if [a, b, c].all (foldedForSure 8) = true then pure none else if [a, b, c].all (constantsAlone 8) = true then (do unsupported "assign.tuple-of-constant-expressions:order-of-the-stores"; pure (some l)) else pure (some l)) = pure (some [x, y, z]) := fun l e => by
      subst e
      have e1 : ([x, y, z].length != [Expr.Name x px, .Name y py, .Name z pz].length) = false := rfl
      rw [e1, hd, hf, hc]
      rfl
    exact key _ hn
end Ev

set_option Elab.async false
set_option linter.all false
set_option maxRecDepth 100000
set_option maxHeartbeats 4000000
/-! Ev, 18: the context of a printed proof; its rules by short names. -/
namespace Ev
open PySem PySem.Spec PyProof.Rows L2

/-! ### the head's facts -/
abbrev AlX : Type := He.AlT × List Bool
def obsX (fa : List He.Fa) (fn : List He.DefD) (ts : List He.Tab) (bs : List (PySem.W.Frag → Bool)) (K : PySem.W.Frag) : AlX := (He.obsT fa fn ts K, bs.map fun b => b K)
def valX (fn : List He.DefD) (ts : List He.Tab) (bs : List (PySem.W.Frag → Bool)) (w : World) : AlX := (He.valT fn ts w, bs.map fun _ => true)
def obsXG (n : Nat) (fa : List He.Fa) (fn : List He.DefD) (ts : List He.Tab) (bs : List (PySem.W.Frag → Bool)) (g : Addr → Option Obj) : AlX := obsX fa fn ts bs (He.frG g (He.asD g n))
def SaysX (fa : List He.Fa) (fn : List He.DefD) (ts : List He.Tab) (bs : List (PySem.W.Frag → Bool)) (w : World) (K : PySem.W.Frag) : Prop := obsX fa fn ts bs K = valX fn ts bs w
def hookX (n : Nat) (fa : List He.Fa) (fn : List He.DefD) (ts : List He.Tab) (bs : List (PySem.W.Frag → Bool)) : PySem.W.Hook where
  α := AlX
  obs := fun s => obsXG n fa fn ts bs s.heap.get?
  val := fun w => valX fn ts bs w
  says := fun w h => ∃ K : PySem.W.Frag, K.In h ∧ SaysX fa fn ts bs w K
  of := fun _ _ e => ⟨_, He.frG_in, e⟩
  keeps := fun _ _ _ ⟨K, hK, c⟩ k => ⟨K, PySem.W.Frag.In.keeps hK k, c⟩
theorem obsXG_eq {n : Nat} {fa : List He.Fa} {fn : List He.DefD} {ts : List He.Tab} {bs : List (PySem.W.Frag → Bool)} {g : Addr → Option Obj} {s : Shared} (h : ∀ a, g a = s.heap.get? a) : obsXG n fa fn ts bs g = (hookX n fa fn ts bs).obs s := by
  have e : g = s.heap.get? := funext h
  rw [e]
  rfl
/-- what a printed proof knows of the module -/
structure Fx (fa : List He.Fa) (fn : List He.DefD) (ts : List He.Tab) (bs : List (PySem.W.Frag → Bool)) (K : PySem.W.Frag) (mg : Str → Option Value) (w : World) : Prop where
  ex : ∃ h : Heap, K.In h ∧ h.Ns mainGlobals mg
  says : SaysX fa fn ts bs w K
section
variable {fa : List He.Fa} {fn : List He.DefD} {ts : List He.Tab} {bs : List (PySem.W.Frag → Bool)} {K : PySem.W.Frag} {mg : Str → Option Value} {w : World}
theorem Fx.t (S : Fx fa fn ts bs K mg w) : He.SaysT fa fn ts w K := congrArg (fun z : AlX => z.1) S.says
theorem Fx.d (S : Fx fa fn ts bs K mg w) : He.SaysD fa fn K := S.t.d
theorem Fx.b (S : Fx fa fn ts bs K mg w) (i : Nat) {b : PySem.W.Frag → Bool} (h : bs[i]? = some b) : b K = true := by
  have e : bs.map (fun b => b K) = bs.map fun _ => true := congrArg (fun z : AlX => z.2) S.says
  have e2 : (bs.map fun b => b K)[i]? = (bs.map fun _ => true)[i]? := by rw [e]
  rw [List.getElem?_map, List.getElem?_map, h] at e2
  exact Option.some.inj e2
theorem Fx.glo (S : Fx fa fn ts bs K mg w) (i : Nat) {x : Str} (h : fa[i]? = some (.glo x)) : mg x = some (.ref (He.ga K x)) := by
  obtain ⟨hp, X, G⟩ := S.ex
  exact He.glo_ok X G (S.d.fact i h)
theorem Fx.free (S : Fx fa fn ts bs K mg w) (i : Nat) {x : Str} (h : fa[i]? = some (.free x)) : mg x = none := by
  obtain ⟨hp, X, G⟩ := S.ex
  exact He.free_ok X G (S.d.fact i h)
theorem Fx.int (S : Fx fa fn ts bs K mg w) (i : Nat) {x : Str} {j : Int} (h : fa[i]? = some (.int x j)) : ∃ t, mg x = some (.int j t) := by
  obtain ⟨hp, X, G⟩ := S.ex
  exact He.int_ok X G (S.d.fact i h)
theorem Fx.str (S : Fx fa fn ts bs K mg w) (i : Nat) {x z : Str} (h : fa[i]? = some (.str x z)) : ∃ t, mg x = some (.str z t) := by
  obtain ⟨hp, X, G⟩ := S.ex
  exact He.str_ok X G (S.d.fact i h)
theorem Fx.cls (S : Fx fa fn ts bs K mg w) (i : Nat) {x : Str} (h : fa[i]? = some (.cls x)) : Cls K (He.ga K x) := He.cls_ok (S.d.fact i h)
theorem Fx.meth (S : Fx fa fn ts bs K mg w) (i : Nat) {x m : Str} (h : fa[i]? = some (.meth x m)) : Meth K (He.ga K x) m (He.ma K (He.ga K x) m) := He.meth_ok (S.d.fact i h)
theorem Fx.mkr (S : Fx fa fn ts bs K mg w) (i : Nat) {x : Str} (h : fa[i]? = some (.mkr x)) : Mk K (He.ga K x) (He.ma K (He.ga K x) "__init__") := He.mkr_ok (S.d.fact i h)
theorem Fx.tab (S : Fx fa fn ts bs K mg w) (i : Nat) {t : He.Tab} (h : ts[i]? = some t) : ∃ es n, KDict K w (t.1 K) es n := S.t.tab i h
end
/-! ### classes, attributes -/
/-- cs the classes' names, as the attributes' -/
def cgOf (K : PySem.W.Frag) (cs as : List Str) : Cg where
  nc := cs.length
  cls := fun c => He.ga K (cs.getD c Str.empty)
  att := fun i => as.getD i Str.empty
  xcl := fun c => .ref (He.ga K (cs.getD c Str.empty))
  xfl := fun _ => []
def attOk (as : List Str) : Bool := decide as.Nodup && !as.contains Str.empty
theorem nodup_ix : ∀ {l : List Str}, l.Nodup → ∀ {i j : Nat} (hi : i < l.length) (hj : j < l.length), l[i] = l[j] → i = j
  | [], _, _, _, hi, _, _ => by simp at hi
  | a :: l, nd, 0, 0, _, _, _ => rfl
  | a :: l, nd, 0, j + 1, _, hj, e => by
    have q := (List.nodup_cons.mp nd).1
    have e : a = l[j]'(by simpa using hj) := e
    exact absurd (e ▸ List.getElem_mem _) q
  | a :: l, nd, i + 1, 0, hi, _, e => by
    have q := (List.nodup_cons.mp nd).1
    have e : l[i]'(by simpa using hi) = a := e
    exact absurd (e ▸ List.getElem_mem _) q
  | a :: l, nd, i + 1, j + 1, hi, hj, e => by
    have q := nodup_ix (List.nodup_cons.mp nd).2 (by simpa using hi) (by simpa using hj) (show l[i]'(by simpa using hi) = l[j]'(by simpa using hj) from e)
    omega
theorem att_inj {K : PySem.W.Frag} {cs as : List Str} (h : attOk as = true) {f : Nat} {x : Str} (hf : as[f]? = some x) : ∀ g, (cgOf K cs as).att g = (cgOf K cs as).att f → g = f := fun g e => by
  obtain ⟨h1, h2⟩ := Bool.and_eq_true_iff.mp h
  have nd : as.Nodup := of_decide_eq_true h1
  have ne : Str.empty ∉ as := fun m => by
    have q : as.contains Str.empty = true := List.contains_iff_mem.mpr m
    rw [q] at h2
    cases h2
  have e : as.getD g Str.empty = as.getD f Str.empty := e
  rw [List.getD_eq_getElem?_getD, List.getD_eq_getElem?_getD, hf] at e
  obtain ⟨hl, hx⟩ := List.getElem?_eq_some_iff.mp hf
  cases q : as[g]? with
  | none =>
    rw [q] at e
    exact (ne (by rw [show Str.empty = x from e, ← hx]; exact List.getElem_mem hl)).elim
  | some y =>
    rw [q] at e
    obtain ⟨hg, hy⟩ := List.getElem?_eq_some_iff.mp q
    have e2 : y = x := e
    exact nodup_ix nd hg hl (by rw [hy, hx, e2])
/-- the classes of instances: each is plain, has no attribute of these names -/
def clsB (cs : List Str) (fs : List Str) (K : PySem.W.Frag) : Bool := cs.all fun c => (He.Fa.cls c).ok K && fs.all fun f => (He.Fa.noat c f).ok K
theorem clsB_cls {K : PySem.W.Frag} {cs fs as : List Str} (h : clsB cs fs K = true) : ∀ c, c < (cgOf K cs as).nc → Cls K ((cgOf K cs as).cls c) := fun c hc => by
  have hc : c < cs.length := hc
  have q := List.all_eq_true.mp h _ (List.getElem_mem hc)
  show Cls K (He.ga K (cs.getD c Str.empty))
  rw [List.getD_eq_getElem?_getD, List.getElem?_eq_getElem hc]
  exact He.cls_ok (Bool.and_eq_true_iff.mp q).1
theorem clsB_no {K : PySem.W.Frag} {cs fs as : List Str} (h : clsB cs fs K = true) {f : Nat} {x : Str} (hf : as[f]? = some x) (hx : x ∈ fs) : ∀ c, c < (cgOf K cs as).nc → NoAttr K ((cgOf K cs as).cls c) ((cgOf K cs as).att f) := fun c hc => by
  have hc : c < cs.length := hc
  have q := List.all_eq_true.mp h _ (List.getElem_mem hc)
  show NoAttr K (He.ga K (cs.getD c Str.empty)) (as.getD f Str.empty)
  rw [List.getD_eq_getElem?_getD, List.getElem?_eq_getElem hc, List.getD_eq_getElem?_getD, hf]
  exact He.noat_ok (List.all_eq_true.mp (Bool.and_eq_true_iff.mp q).2 x hx)

/-! ### the context -/
def okNm (x : Str) : Bool := !(x == ("__debug__" : Str)) && (!(x == ("__classdict__" : Str)) && !(x == ("__name__" : Str)))
/-- kn: the slots' kinds; gl: names of the module, of the builtins -/
structure Cu (X : Cx) (N : List Str) (kn : List (Option NameKind)) (gl : List Str) (k : Nat) (W : WX) : Prop where
  hN : X.N = N
  nd : N.Nodup
  calm : X.calm = true
  kd : ∀ (i : Nat) (x : Str) (kd : NameKind), N[i]? = some x → kn[i]? = some (some kd) → kd ≠ .free → X.env.scope.names.lookup x = some kd
  kf : ∀ (i : Nat) (x : Str), N[i]? = some x → kn[i]? = some (some .free) → X.env.scope.names.lookup x = some .cell ∨ X.env.scope.names.lookup x = some .free
  fn : ∀ (i : Nat) (x : Str), N[i]? = some x → kn[i]? = some (some .cell) → X.fn x = true
  dN : ∀ x ∈ N, okNm x = true
  dG : ∀ x ∈ gl, okNm x = true
  gl : ∀ (j : Nat) (x : Str), gl[j]? = some x → X.env.kindOf x = some .globalImplicit
  room : Room k X.A
  takes : Takes X W
  flat : ∀ c d σ σ' H, W c d σ H → W c d σ' H
  kind : X.env.scope.kind = .function
structure CuS (X : Cx) (N : List Str) (kn : List (Option NameKind)) (gl : List Str) (k : Nat) (W : WX) : Prop extends Cu X N kn gl k W where
  pass : PassesOwn (model X.prog X.w) X.A X.env X.xe
def knB (names : List (Str × NameKind)) : List Str → List (Option NameKind) → Bool
  | x :: N, some kd :: kn => decide (names.lookup x = some kd) && knB names N kn
  | _ :: N, none :: kn => knB names N kn
  | [], [] => true
  | _, _ => false
theorem knB_ok {names : List (Str × NameKind)} : ∀ {N : List Str} {kn : List (Option NameKind)}, knB names N kn = true → ∀ (i : Nat) (x : Str) (kd : NameKind), N[i]? = some x → kn[i]? = some (some kd) → names.lookup x = some kd
  | x :: N, some kd :: kn, h, 0, _, _, e1, e2 => by
    cases e1
    cases e2
    exact of_decide_eq_true (Bool.and_eq_true_iff.mp h).1
  | x :: N, some kd :: kn, h, i + 1, y, kd', e1, e2 => knB_ok (Bool.and_eq_true_iff.mp h).2 i y kd' (by simpa using e1) (by simpa using e2)
  | x :: N, none :: kn, h, 0, _, _, e1, e2 => by cases e2
  | x :: N, none :: kn, h, i + 1, y, kd', e1, e2 => knB_ok (show knB names N kn = true from h) i y kd' (by simpa using e1) (by simpa using e2)
  | [], _, _, _, _, _, e1, _ => by simp at e1
  | _ :: _, [], h, _, _, _, _, _ => by cases h
def nmB (names : List (Str × NameKind)) (N : List Str) (kn : List (Option NameKind)) (gl : List Str) : Bool := knB names N kn && ((gl.all fun x => decide (names.lookup x = some .globalImplicit)) && (N.all okNm && gl.all okNm))
section
variable {X : Cx} {N : List Str} {names : List (Str × NameKind)} {kn kn' : List (Option NameKind)} {gl gl' : List Str} {k : Nat} {W : WX} {G : Cg}
theorem Ct.cu (C : Ct X N names k W) (h : nmB names N kn gl = true) : Cu X N kn gl k W := by
  obtain ⟨h1, h⟩ := Bool.and_eq_true_iff.mp h
  obtain ⟨h2, h⟩ := Bool.and_eq_true_iff.mp h
  obtain ⟨h3, h4⟩ := Bool.and_eq_true_iff.mp h
  have q := knB_ok h1
  exact ⟨C.hN, C.nd, C.calm, fun i x kd e1 e2 hk => C.kf x kd hk (q i x kd e1 e2), fun i x e1 e2 => C.kfr x (q i x _ e1 e2), fun i x e1 e2 => C.fn x (q i x _ e1 e2),
    List.all_eq_true.mp h3, List.all_eq_true.mp h4, fun j x e => C.kf x _ (by decide) (of_decide_eq_true (List.all_eq_true.mp h2 x (List.mem_of_getElem? e))), C.room, C.takes, C.flat, C.kind⟩
theorem CtS.cu (C : CtS X N names k W) (h : nmB names N kn gl = true) : CuS X N kn gl k W := ⟨C.toCt.cu h, C.pass⟩
/-- the names that stand in N with a kind that a block may reach -/
def reachB : List Str → List (Option NameKind) → Str → Bool
  | x :: N, o :: kn, y => (decide (x = y) && (match o with
    | some .cell => true
    | some .free => true
    | _ => false)) || reachB N kn y
  | _, _, _ => false
theorem reachB_ok : ∀ {N : List Str} {kn : List (Option NameKind)} {y : Str}, reachB N kn y = true → ∃ i : Nat, N[i]? = some y ∧ (kn[i]? = some (some NameKind.cell) ∨ kn[i]? = some (some NameKind.free))
  | [], _, _, h => by cases h
  | _ :: _, [], _, h => by cases h
  | x :: N, o :: kn, y, h => by
    rcases Bool.or_eq_true_iff.mp h with h | h
    · obtain ⟨h1, h2⟩ := Bool.and_eq_true_iff.mp h
      have e : x = y := of_decide_eq_true h1
      subst e
      refine ⟨0, rfl, ?_⟩
      split at h2
      · exact .inl rfl
      · exact .inr rfl
      · cases h2
    · obtain ⟨i, h1, h2⟩ := reachB_ok h
      exact ⟨i + 1, h1, h2⟩
/-- a comprehension's block -/
def blkK (N : List Str) (kn : List (Option NameKind)) (scope : Scope) (own : List (Str × Nat)) (kn' : List (Option NameKind)) (gl' : List Str) : Bool :=
  (match scope.kind with | .function => true | _ => false) && ((scope.names.all fun y => decide (scope.names.lookup y.1 = some y.2)) && ((own.all fun p => decide (N[p.2]? = some p.1)) &&
    ((scope.names.all fun y => match y.2 with
      | .free => reachB N kn y.1
      | .local => decide (y.1 ∈ own.map (·.1)) || decide (y.1 ∉ N)
      | .cell => decide (y.1 ∈ own.map (·.1)) || decide (y.1 ∉ N)
      | _ => true) && nmB scope.names N kn' gl')))
theorem Cu.blkOk (C : Cu X N kn gl k W) {scope : Scope} {own : List (Str × Nat)} (h : blkK N kn scope own kn' gl' = true) : BlkOk X.N X.env.scope scope own := by
  obtain ⟨h1, h⟩ := Bool.and_eq_true_iff.mp h
  obtain ⟨h2, h⟩ := Bool.and_eq_true_iff.mp h
  obtain ⟨h3, h⟩ := Bool.and_eq_true_iff.mp h
  obtain ⟨h4, h5⟩ := Bool.and_eq_true_iff.mp h
  rw [C.hN]
  refine ⟨?_, fun y hy => of_decide_eq_true (List.all_eq_true.mp h2 y hy), fun p hp => of_decide_eq_true (List.all_eq_true.mp h3 p hp), fun y hy e => ?_, fun y hy e => ?_⟩
  · split at h1
    · assumption
    · cases h1
  · have q := List.all_eq_true.mp h4 y hy
    rw [e] at q
    obtain ⟨i, e1, e2⟩ := reachB_ok q
    rcases e2 with e2 | e2
    · exact .inl (C.kd i _ _ e1 e2 (by decide))
    · exact C.kf i _ e1 e2
  · have q := List.all_eq_true.mp h4 y hy
    rcases e with e | e <;>
    · rw [e] at q
      rcases Bool.or_eq_true_iff.mp q with z | z
      · exact .inl (of_decide_eq_true z)
      · exact .inr (of_decide_eq_true z)
theorem Cu.blk (C : Cu X N kn gl k W) {scope : Scope} {own : List (Str × Nat)} (h : blkK N kn scope own kn' gl' = true) (s : Shared) (H : Hp) (A : Addr) (cl : List (Str × Addr)) (fp : List Addr) :
    Cu (X.blk s H scope (compEnvC scope cl A X.env) fp) N kn' gl' k WF := by
  have kd := (C.blkOk h).kind
  obtain ⟨h1, h⟩ := Bool.and_eq_true_iff.mp h
  obtain ⟨h2, h⟩ := Bool.and_eq_true_iff.mp h
  obtain ⟨h3, h⟩ := Bool.and_eq_true_iff.mp h
  obtain ⟨h4, h5⟩ := Bool.and_eq_true_iff.mp h
  have c : Ct (X.blk s H scope (compEnvC scope cl A X.env) fp) N scope.names k WF := ⟨C.hN, C.nd, C.calm, fun x kd hk h => lookup_relS_keep hk h, fun x h => lookup_relS_free h, fun x h => by
    show (scope.names.lookup x == some .cell) = true
    rw [h]
    rfl, C.room, takesF, fun _ _ _ _ _ h => h, kd⟩
  exact c.cu h5
theorem Cu.ct (C : Cu X N kn gl k W) : Ct X N [] k W := ⟨C.hN, C.nd, C.calm, fun x kd _ h => (by cases h), fun x h => (by cases h), fun x h => (by cases h), C.room, C.takes, C.flat, C.kind⟩
theorem Cu.u1 (C : Cu X N kn gl k W) : X.A.units + 1 < cLine := Nat.lt_of_le_of_lt (Nat.add_le_add_left (by decide : 1 ≤ 64) _) C.room.units
theorem Cu.u64 (C : Cu X N kn gl k W) : X.A.units + 64 < cLine := C.room.units
theorem Cu.iN (C : Cu X N kn gl k W) {i : Nat} {x : Str} (h : N[i]? = some x) : X.N[i]? = some x := by rw [C.hN]; exact h
theorem Cu.vis (C : Cu X N kn gl k W) {i : Nat} {x : Str} {kd : NameKind} (h : N[i]? = some x) (e : kn[i]? = some (some kd)) (hk : kd = .local ∨ kd = .cell ∨ kd = .free) : Vis X.env.scope x := by
  rcases hk with rfl | rfl | rfl
  · exact .inl (C.kd i x _ h e (by decide))
  · exact .inr (.inl (C.kd i x _ h e (by decide)))
  · rcases C.kf i x h e with z | z
    · exact .inr (.inl z)
    · exact .inr (.inr z)
theorem Cu.loc (C : Cu X N kn gl k W) {i : Nat} {x : Str} {kd : NameKind} (h : N[i]? = some x) (e : kn[i]? = some (some kd)) (hk : kd = .local ∨ kd = .cell) : Loc X.env.scope x ∧ (X.fn x = true ∨ X.env.scope.names.lookup x = some .local) := by
  rcases hk with rfl | rfl
  · exact ⟨.inl (C.kd i x _ h e (by decide)), .inr (C.kd i x _ h e (by decide))⟩
  · exact ⟨.inr (C.kd i x _ h e (by decide)), .inl (C.fn i x h e)⟩
end
end Ev

set_option Elab.async false
set_option linter.all false
set_option maxRecDepth 100000
set_option maxHeartbeats 4000000
/-! Ev, 19: the rules by short names. -/
namespace Ev
open PySem PySem.Spec PyProof.Rows L2
theorem okNm_1 {x : Str} (h : okNm x = true) : (x == ("__debug__" : Str)) = false := by
  have q := (Bool.and_eq_true_iff.mp h).1
  cases e : x == ("__debug__" : Str) with
  | false => rfl
  | true => rw [e] at q; cases q
theorem okNm_2 {x : Str} (h : okNm x = true) : (x == ("__classdict__" : Str)) = false := by
  have q := (Bool.and_eq_true_iff.mp (Bool.and_eq_true_iff.mp h).2).1
  cases e : x == ("__classdict__" : Str) with
  | false => rfl
  | true => rw [e] at q; cases q
theorem okNm_3 {x : Str} (h : okNm x = true) : x ≠ "__name__" := fun z => by
  have q := (Bool.and_eq_true_iff.mp (Bool.and_eq_true_iff.mp h).2).2
  rw [z, beq_self_eq_true] at q
  cases q
def visK : NameKind → Bool
  | .local => true
  | .cell => true
  | .free => true
  | _ => false
theorem visK_ok {kd : NameKind} (h : visK kd = true) : kd = .local ∨ kd = .cell ∨ kd = .free := by
  cases kd <;> first | exact .inl rfl | exact .inr (.inl rfl) | exact .inr (.inr rfl) | cases h
def locK : NameKind → Bool
  | .local => true
  | .cell => true
  | _ => false
theorem locK_ok {kd : NameKind} (h : locK kd = true) : kd = .local ∨ kd = .cell := by
  cases kd <;> first | exact .inl rfl | exact .inr rfl | cases h

theorem swsN_ok {e t : Expr} {l : Nat} {env : Env} (h : notName t = true) : swapsWithSole [t] e l env = pure false := swpN_ok h
theorem sws_ok {e t : Expr} {l : Nat} {env : Env} (h : notComp e = true) : swapsWithSole [t] e l env = pure false := swp_ok h
/-- a def that may be called with these defaults left out -/
structure Cal (P : Program) (w : World) (K : PySem.W.Frag) (mg : Str → Option Value) (base : Heap) (G : Cg) (j : Nat) (a : Addr) (f : Fn) (ds : List D) : Prop where
  ex : ∃ (fd : FuncData) (ps : List Str) (dus : List Value) (dvs : List V), FnOk P w K mg base (CX P w) j a fd ps (SpE K G f) ∧ Binds K fd ps dus ∧ Vals dvs dus ∧ (∀ H, RDs K H ds dvs) ∧ PySem.W.keepIn K (.ref a) = true
structure CalG (P : Program) (w : World) (K : PySem.W.Frag) (mg : Str → Option Value) (base : Heap) (G : Cg) (j : Nat) (a : Addr) (f : Fn) (ds : List D) : Prop where
  ex : ∃ (fd : FuncData) (ps : List Str) (dus : List Value) (dvs : List V), FnG P w K mg base (CX P w) j a fd ps (SpE K G f) ∧ Binds K fd ps dus ∧ Vals dvs dus ∧ (∀ H, RDs K H ds dvs) ∧ PySem.W.keepIn K (.ref a) = true
/-- classes and attributes: the first nf attributes are fields -/
structure Cl (K : PySem.W.Frag) (cs as : List Str) (nf : Nat) : Prop where
  att : attOk as = true
  cls : clsB cs (as.take nf) K = true
section
variable {X : Cx} {N : List Str} {kn kn' : List (Option NameKind)} {gl gl' : List Str} {k j : Nat} {W : WX} {G : Cg} {x : Str} {pos p q : Pos} {e a b c : Expr} {es : List Expr} {ma : M (List Val)} {me mb mc : M Val} {cs as : List Str} {nf : Nat}
theorem Cu.v (C : Cu X N kn gl k W) (i : Nat) {kd : NameKind} (h : N[i]? = some x) (e : kn[i]? = some (some kd)) (hk : visK kd = true) : PE X (.Name x pos) (rdE X.K G W (mVar i)) :=
  re_var (C.iN h) (C.vis h e (visK_ok hk)) (okNm_1 (C.dN x (List.mem_of_getElem? h))) (okNm_2 (C.dN x (List.mem_of_getElem? h)))
/-- a module's int, text, tuple -/
theorem Cu.gi (C : Cu X N kn gl k W) (i : Nat) {n : Int} (h : gl[i]? = some x) (hm : ∃ t, X.mg x = some (.int n t)) : PE X (.Name x pos) (rdE X.K G W (mCst (.d (.int n)))) := by
  obtain ⟨t, hm⟩ := hm
  exact re_glob (v := .int n) (C.gl i x h) hm ⟨t, rfl⟩ (fun _ => rfl) (okNm_1 (C.dG x (List.mem_of_getElem? h)))
theorem Cu.gs (C : Cu X N kn gl k W) (i : Nat) {z : Str} (h : gl[i]? = some x) (hm : ∃ t, X.mg x = some (.str z t)) : PE X (.Name x pos) (rdE X.K G W (mCst (.d (.str z.cps.toList)))) := by
  obtain ⟨t, hm⟩ := hm
  refine re_glob (v := .str z) (C.gl i x h) hm ⟨t, rfl⟩ (fun _ => ?_) (okNm_1 (C.dG x (List.mem_of_getElem? h)))
  show V.str z = V.str _
  rw [show (⟨z.cps.toList.toArray⟩ : Str) = z from TL.mk_tl z]
theorem Cu.gt (C : Cu X N kn gl k W) (i : Nat) {ad : Addr} {ds : List D} (h : gl[i]? = some x) (hm : X.mg x = some (.ref ad)) (hd : ∀ H, ∃ vs, SqT X.K H ad vs ∧ RDs X.K H ds vs) : PE X (.Name x pos) (rdE X.K G W (mCst (.d (.tup false ds)))) :=
  re_glob (v := .ref ad) (C.gl i x h) hm rfl (fun H => let ⟨vs, h1, h2⟩ := hd H; ⟨ad, vs, rfl, h1, h2⟩) (okNm_1 (C.dG x (List.mem_of_getElem? h)))
/-- attributes -/
theorem att_eq {K : PySem.W.Frag} {f : Nat} (h : as[f]? = some x) : (cgOf K cs as).att f = x := by
  show as.getD f Str.empty = x
  rw [List.getD_eq_getElem?_getD, h]
  rfl
theorem Cl.no {K : PySem.W.Frag} (L : Cl K cs as nf) {f : Nat} (h : as[f]? = some x) (hf : Nat.blt f nf = true) : ∀ c, c < (cgOf K cs as).nc → NoAttr K ((cgOf K cs as).cls c) ((cgOf K cs as).att f) := by
  refine clsB_no L.cls h ?_
  have q : (as.take nf)[f]? = some x := by
    rw [List.getElem?_take_of_lt (Nat.le_of_ble_eq_true hf)]
    exact h
  exact List.mem_of_getElem? q
theorem Cu.f (L : Cl X.K cs as nf) (f : Nat) (h : as[f]? = some x) (hf : Nat.blt f nf = true) (hb : attributeBase e x X.env (eval e X.env) = eval e X.env) (he : PE X e (rdE X.K (cgOf X.K cs as) W me)) :
    PE X (.Attribute e x pos) (rdE X.K (cgOf X.K cs as) W (mFld me f)) := by
  have z := L.no h hf
  have i := att_inj (K := X.K) (cs := cs) L.att h
  have ea := att_eq (K := X.K) (cs := cs) h
  subst ea
  exact re_fld hb i (clsB_cls L.cls) z he
theorem Cu.cl (C : Cu X N kn gl k W) {ad : Addr} {f : Fn} {ds : List D} (F : Cal X.prog X.w X.K X.mg X.base G j ad f ds) (hj : Nat.ble j k = true) (i : Nat) (h : gl[i]? = some x) (hm : X.mg x = some (.ref ad)) (hp : plainL (e :: es) = true) (ha : PA X (e :: es) (rdA X.K G W ma)) :
    PE X (.Call (.Name x p) (e :: es) [] pos) (rdE X.K G W (mCall f ds ma)) := by
  obtain ⟨fd, ps, dus, dvs, h1, h2, h3, h4, h5⟩ := F.ex
  obtain ⟨p1, p2⟩ := Bool.and_eq_true_iff.mp hp
  exact re_call C.ct h1 hj (C.gl i x h) hm h5 h2 h3 h4 (okNm_1 (C.dG x (List.mem_of_getElem? h))) (star_ok p1) (plain_ok p2) ha
theorem Cu.cl0 (C : Cu X N kn gl k W) {ad : Addr} {f : Fn} {ds : List D} (F : Cal X.prog X.w X.K X.mg X.base G j ad f ds) (hj : Nat.ble j k = true) (i : Nat) (h : gl[i]? = some x) (hm : X.mg x = some (.ref ad)) :
    PE X (.Call (.Name x p) [] [] pos) (rdE X.K G W (mCall f ds mNil)) := by
  obtain ⟨fd, ps, dus, dvs, h1, h2, h3, h4, h5⟩ := F.ex
  exact re_call0 C.ct h1 hj (C.gl i x h) hm h5 h2 h3 h4 (okNm_1 (C.dG x (List.mem_of_getElem? h)))
theorem Cu.clG (C : Cu X N kn gl k W) (hG : X.A.guards = some []) {ad : Addr} {f : Fn} {ds : List D} (F : CalG X.prog X.w X.K X.mg X.base G j ad f ds) (hj : Nat.ble j k = true) (i : Nat) (h : gl[i]? = some x) (hm : X.mg x = some (.ref ad)) (hp : plainL (e :: es) = true) (ha : PA X (e :: es) (rdA X.K G W ma)) :
    PE X (.Call (.Name x p) (e :: es) [] pos) (rdE X.K G W (mCall f ds ma)) := by
  obtain ⟨fd, ps, dus, dvs, h1, h2, h3, h4, h5⟩ := F.ex
  obtain ⟨p1, p2⟩ := Bool.and_eq_true_iff.mp hp
  exact re_callG hG C.ct h1 hj (C.gl i x h) hm h5 h2 h3 h4 (okNm_1 (C.dG x (List.mem_of_getElem? h))) (star_ok p1) (plain_ok p2) ha
theorem cls_eq {K : PySem.W.Frag} {ci : Nat} {cn : Str} (h : cs[ci]? = some cn) : (cgOf K cs as).cls ci = He.ga K cn := by
  show He.ga K (cs.getD ci Str.empty) = _
  rw [List.getD_eq_getElem?_getD, h]
  rfl
theorem lt_nc {K : PySem.W.Frag} {ci : Nat} {cn : Str} (h : cs[ci]? = some cn) : ci < (cgOf K cs as).nc := (List.getElem?_eq_some_iff.mp h).1
/-- o.m(..) -/
theorem Cu.m (C : Cu X N kn gl k W) (L : Cl X.K cs as nf) {f : Fn} {ds : List D} {cn : Str} (ci : Nat) (hci : cs[ci]? = some cn) (g : Nat) (hg : as[g]? = some x) (hm : Meth X.K (He.ga X.K cn) x (He.ma X.K (He.ga X.K cn) x)) (F : Cal X.prog X.w X.K X.mg X.base (cgOf X.K cs as) j (He.ma X.K (He.ga X.K cn) x) f ds) (hj : Nat.ble j k = true) (hp : plainL (e :: es) = true) {apos : Pos} {pl : Sem Bool}
    (ht : eval (.Call (.Attribute b x apos) (e :: es) [] pos) X.env = (do
      let ov ← eval b X.env
      standAt apos.atName
      let (f, first) ← holding [ov] (getMethod ov x pl)
      callWith pos f first (backTo pos (starEach (e :: es) X.env)) (backToKw pos (keywordEach [] X.env)))) (ho : PE X b (rdE X.K (cgOf X.K cs as) W mb)) (ha : PA X (e :: es) (rdA X.K (cgOf X.K cs as) W ma)) :
    PE X (.Call (.Attribute b x apos) (e :: es) [] pos) (rdE X.K (cgOf X.K cs as) W (mMeth ci g f ds mb ma)) := by
  obtain ⟨fd, ps, dus, dvs, h1, h2, h3, h4, h5⟩ := F.ex
  obtain ⟨p1, p2⟩ := Bool.and_eq_true_iff.mp hp
  have hc := clsB_cls (as := as) L.cls ci (lt_nc (as := as) (K := X.K) hci)
  have i := att_inj (K := X.K) (cs := cs) L.att hg
  have ec := cls_eq (K := X.K) (as := as) hci
  have ea := att_eq (K := X.K) (cs := cs) hg
  rw [← ec] at hm h1
  subst ea
  exact re_meth i C.ct h1 hj hc hm h2 h3 h4 (star_ok p1) (plain_ok p2) ht ho ha
theorem Cu.m0 (C : Cu X N kn gl k W) (L : Cl X.K cs as nf) {f : Fn} {ds : List D} {cn : Str} (ci : Nat) (hci : cs[ci]? = some cn) (g : Nat) (hg : as[g]? = some x) (hm : Meth X.K (He.ga X.K cn) x (He.ma X.K (He.ga X.K cn) x)) (F : Cal X.prog X.w X.K X.mg X.base (cgOf X.K cs as) j (He.ma X.K (He.ga X.K cn) x) f ds) (hj : Nat.ble j k = true) {apos : Pos} {pl : Sem Bool}
    (ht : eval (.Call (.Attribute b x apos) [] [] pos) X.env = (do
      let ov ← eval b X.env
      standAt apos.atName
      let (f, first) ← holding [ov] (getMethod ov x pl)
      callWith pos f first (backTo pos (starEach [] X.env)) (backToKw pos (keywordEach [] X.env)))) (ho : PE X b (rdE X.K (cgOf X.K cs as) W mb)) :
    PE X (.Call (.Attribute b x apos) [] [] pos) (rdE X.K (cgOf X.K cs as) W (mMeth ci g f ds mb mNil)) := by
  obtain ⟨fd, ps, dus, dvs, h1, h2, h3, h4, h5⟩ := F.ex
  have hc := clsB_cls (as := as) L.cls ci (lt_nc (as := as) (K := X.K) hci)
  have i := att_inj (K := X.K) (cs := cs) L.att hg
  have ec := cls_eq (K := X.K) (as := as) hci
  have ea := att_eq (K := X.K) (cs := cs) hg
  rw [← ec] at hm h1
  subst ea
  exact re_meth0 i C.ct h1 hj hc hm h2 h3 h4 ht ho
/-- C(..) -/
theorem Cu.nw (C : Cu X N kn gl k W) {f : Fn} {ds : List D} (ci : Nat) (hci : cs[ci]? = some x) (MK : Mk X.K (He.ga X.K x) (He.ma X.K (He.ga X.K x) "__init__")) (F : Cal X.prog X.w X.K X.mg X.base (cgOf X.K cs as) j (He.ma X.K (He.ga X.K x) "__init__") f ds) (hj : Nat.ble (j + 1) k = true) (i : Nat) (h : gl[i]? = some x) (hm : X.mg x = some (.ref (He.ga X.K x)))
    (hp : plainL (e :: es) = true) (ha : PA X (e :: es) (rdA X.K (cgOf X.K cs as) W ma)) : PE X (.Call (.Name x p) (e :: es) [] pos) (rdE X.K (cgOf X.K cs as) W (mMake ci f ds ma)) := by
  obtain ⟨fd, ps, dus, dvs, h1, h2, h3, h4, h5⟩ := F.ex
  obtain ⟨p1, p2⟩ := Bool.and_eq_true_iff.mp hp
  have ec := cls_eq (K := X.K) (as := as) hci
  rw [← ec] at hm MK
  rw [← ec] at h1
  exact re_make C.ct (lt_nc (as := as) (K := X.K) hci) MK h1 hj (C.gl i x h) hm h2 h3 h4 (okNm_1 (C.dG x (List.mem_of_getElem? h))) (star_ok p1) (plain_ok p2) ha
theorem Cu.nw0 (C : Cu X N kn gl k W) {f : Fn} {ds : List D} (ci : Nat) (hci : cs[ci]? = some x) (MK : Mk X.K (He.ga X.K x) (He.ma X.K (He.ga X.K x) "__init__")) (F : Cal X.prog X.w X.K X.mg X.base (cgOf X.K cs as) j (He.ma X.K (He.ga X.K x) "__init__") f ds) (hj : Nat.ble (j + 1) k = true) (i : Nat) (h : gl[i]? = some x) (hm : X.mg x = some (.ref (He.ga X.K x))) :
    PE X (.Call (.Name x p) [] [] pos) (rdE X.K (cgOf X.K cs as) W (mMake ci f ds mNil)) := by
  obtain ⟨fd, ps, dus, dvs, h1, h2, h3, h4, h5⟩ := F.ex
  have ec := cls_eq (K := X.K) (as := as) hci
  rw [← ec] at hm MK
  rw [← ec] at h1
  exact re_make0 C.ct (lt_nc (as := as) (K := X.K) hci) MK h1 hj (C.gl i x h) hm h2 h3 h4 (okNm_1 (C.dG x (List.mem_of_getElem? h)))
/-- a built-in -/
theorem Cu.bf (C : Cu X N kn gl k W) {op : List Val → EH → R Val} {id : String} (i : Nat) (hc : CallR X (.builtin id) (rB X.K G op)) (h : gl[i]? = some x) (hm : X.mg x = none) (hv : bootBuiltins x = some (.builtin id)) (hp : plainL (e :: es) = true) (ha : PA X (e :: es) (rdA X.K G W ma)) :
    PE X (.Call (.Name x p) (e :: es) [] pos) (rdE X.K G W (mOp op ma)) := by
  obtain ⟨p1, p2⟩ := Bool.and_eq_true_iff.mp hp
  have o := C.dG x (List.mem_of_getElem? h)
  exact re_b hc (C.gl i x h) hm hv (okNm_3 o) (okNm_1 o) (star_ok p1) (plain_ok p2) ha
theorem Cu.bT (C : Cu X N kn gl k W) {op : List Val → EH → R Val} {T : String} (i : Nat) (hc : CallR X (.type T) (rB X.K G op)) (h : gl[i]? = some x) (hm : X.mg x = none) (hv : bootBuiltins x = some (.type T)) (hp : plainL (e :: es) = true) (ha : PA X (e :: es) (rdA X.K G W ma)) :
    PE X (.Call (.Name x p) (e :: es) [] pos) (rdE X.K G W (mOp op ma)) := by
  obtain ⟨p1, p2⟩ := Bool.and_eq_true_iff.mp hp
  have o := C.dG x (List.mem_of_getElem? h)
  exact re_bT hc (C.gl i x h) hm hv (okNm_3 o) (okNm_1 o) (star_ok p1) (plain_ok p2) ha
theorem Cu.isi (C : Cu X N kn gl k W) {t : Nat} (ht : Nat.blt t 6 = true) (i j : Nat) (h : gl[i]? = some "isinstance") (hm : X.mg "isinstance" = none) (h2 : gl[j]? = some x) (hm2 : X.mg x = none) (hv : bootBuiltins x = some (.type (tyName t))) (hp : notStar e = true) (he : PE X e (rdE X.K G W me)) :
    PE X (.Call (.Name "isinstance" p) [e, .Name x q] [] pos) (rdE X.K G W (mVal (mIsi t me))) := by
  have o := C.dG x (List.mem_of_getElem? h2)
  exact re_isi (Nat.le_of_ble_eq_true ht) (C.gl i _ h) hm (C.gl j x h2) hm2 hv (okNm_3 o) (okNm_1 o) (star_ok hp) (star_ok rfl) rfl he
theorem Cu.tRg1 (C : Cu X N kn gl k W) (i j : Nat) (h : gl[i]? = some "tuple") (hm : X.mg "tuple" = none) (h2 : gl[j]? = some "range") (hm2 : X.mg "range" = none) (hp : notStar e = true) (ha : PA X [e] (rdA X.K G W ma)) :
    PE X (.Call (.Name "tuple" p) [.Call (.Name "range" q) [e] [] pos] [] pos) (rdE X.K G W (mRg newT ma)) := re_tupRg C.calm (C.gl i _ h) hm (star_ok rfl) (prg1 (C.gl j _ h2) hm2 (star_ok hp) ha)
theorem Cu.tRg (C : Cu X N kn gl k W) {pos2 : Pos} (i j : Nat) (h : gl[i]? = some "tuple") (hm : X.mg "tuple" = none) (h2 : gl[j]? = some "range") (hm2 : X.mg "range" = none) (hp : plainL (e :: es) = true) (hl : es.length = 0 ∨ es.length = 1) (ha : PA X (e :: es) (rdA X.K G W ma)) :
    PE X (.Call (.Name "tuple" p) [.Call (.Name "range" q) (e :: es) [] pos2] [] pos) (rdE X.K G W (mRg newT ma)) := by
  obtain ⟨p1, p2⟩ := Bool.and_eq_true_iff.mp hp
  match es, hl, p2, ha with
  | [], _, _, ha => exact re_tupRg C.calm (C.gl i _ h) hm (star_ok rfl) (prg1 (C.gl j _ h2) hm2 (star_ok p1) ha)
  | [b], _, p2, ha => exact re_tupRg C.calm (C.gl i _ h) hm (star_ok rfl) (prg2 (C.gl j _ h2) hm2 (star_ok p1) (plain_ok p2) ha)
theorem Cu.lRg (C : Cu X N kn gl k W) {pos2 : Pos} (i j : Nat) (h : gl[i]? = some "list") (hm : X.mg "list" = none) (h2 : gl[j]? = some "range") (hm2 : X.mg "range" = none) (hp : plainL (e :: es) = true) (hl : es.length = 0 ∨ es.length = 1) (ha : PA X (e :: es) (rdA X.K G W ma)) :
    PE X (.Call (.Name "list" p) [.Call (.Name "range" q) (e :: es) [] pos2] [] pos) (rdE X.K G W (mRg newL ma)) := by
  obtain ⟨p1, p2⟩ := Bool.and_eq_true_iff.mp hp
  match es, hl, p2, ha with
  | [], _, _, ha => exact re_lstRg C.calm (C.gl i _ h) hm (star_ok rfl) (prg1 (C.gl j _ h2) hm2 (star_ok p1) ha)
  | [b], _, p2, ha => exact re_lstRg C.calm (C.gl i _ h) hm (star_ok rfl) (prg2 (C.gl j _ h2) hm2 (star_ok p1) (plain_ok p2) ha)
/-- a method of a built-in -/
theorem Cu.bm {t : Nat} {op : Val → List Val → EH → R Val} {name : Str} {idn : String} {apos : Pos} (ht : t = 2 ∨ t = 4 ∨ t = 5) (pa : PlainAttrs (tyName t)) (slot : Slot (tyName t) name idn) (hty : typeOf (.builtin idn) = pure (.type "method_descriptor")) (hm : MtR X idn (rM X.K G op)) (hb : attributeBase b name X.env (eval b X.env) = eval b X.env)
    (hfew : ((backTo pos (starEach (e :: es) X.env)).all (fun x => !x.1) && (backToKw pos (keywordEach [] X.env)).all (fun x => x.1.isSome)
      && decide ((e :: es).length + ([] : List Keyword).length + (if ([] : List Keyword).isEmpty then 0 else 1) < 30)) = true)
    (hl : (apos.endLine == pos.line) = true) (hp : plainL (e :: es) = true) (ho : PE X b (rdE X.K G W mb)) (ha : PA X (e :: es) (rdA X.K G W ma)) : PE X (.Call (.Attribute b name apos) (e :: es) [] pos) (rdE X.K G W (mBM t op mb ma)) := by
  obtain ⟨p1, p2⟩ := Bool.and_eq_true_iff.mp hp
  exact re_bm ht pa slot hty hm hb hfew hl (star_ok p1) (plain_ok p2) ho ha
/-- targets -/
theorem Cu.t (C : Cu X N kn gl k W) (i : Nat) {kd : NameKind} (h : N[i]? = some x) (e : kn[i]? = some (some kd)) (hk : locK kd = true) : PG X (.Name x pos) (rdTG X.K G W (tgName i)) :=
  let z := C.loc h e (locK_ok hk)
  rg_name (by rw [C.hN]; exact C.nd) (C.iN h) z.1 z.2
theorem Cu.tg (C : Cu X N kn gl k W) (i : Nat) {kd : NameKind} (h : N[i]? = some x) (e : kn[i]? = some (some kd)) (hk : locK kd = true) : PG X (.Name x pos) (gName i) :=
  let z := C.loc h e (locK_ok hk)
  pg_name (by rw [C.hN]; exact C.nd) (C.iN h) z.1 z.2
theorem Cu.tf (L : Cl X.K cs as nf) (f : Nat) (h : as[f]? = some x) (hf : Nat.blt f nf = true) (ho : PE X e (rdE X.K (cgOf X.K cs as) W me)) : PG X (.Attribute e x pos) (rdTG X.K (cgOf X.K cs as) W (mAtt me f)) := by
  have z := L.no h hf
  have i := att_inj (K := X.K) (cs := cs) L.att h
  have ea := att_eq (K := X.K) (cs := cs) h
  subst ea
  exact rg_att i (clsB_cls L.cls) z ho
/-- statements -/
theorem Cu.aug (C : Cu X N kn gl k W) (i : Nat) {kd : NameKind} {op : Operator} {o : Val → Val → EH → R Val} (h : N[i]? = some x) (e1 : kn[i]? = some (some kd)) (hk : locK kd = true) (ho : Op2 X G WF (inplaceOp op) o) (he : PE X e (rdE X.K G W me)) : PS X (.AugAssign (.Name x p) op e pos) (rdS X.K G W (sAug i o me)) :=
  let z := C.loc h e1 (locK_ok hk)
  rs_aug (by rw [C.hN]; exact C.nd) (C.iN h) z.1 z.2 ho he
theorem Cu.augF (L : Cl X.K cs as nf) (f : Nat) {op : Operator} {o : Val → Val → EH → R Val} (h : as[f]? = some x) (hf : Nat.blt f nf = true) (hb : PE X b (rdE X.K (cgOf X.K cs as) W mb)) (ho : Op2 X (cgOf X.K cs as) WF (inplaceOp op) o) (he : PE X e (rdE X.K (cgOf X.K cs as) W me)) :
    PS X (.AugAssign (.Attribute b x p) op e pos) (rdS X.K (cgOf X.K cs as) W (sAugF mb f o me)) := by
  have z := L.no h hf
  have i := att_inj (K := X.K) (cs := cs) L.att h
  have ea := att_eq (K := X.K) (cs := cs) h
  subst ea
  exact rs_augF i (clsB_cls L.cls) z hb ho he
theorem Cu.par2 (C : Cu X N kn gl k W) {y : Str} {px py pt pt2 : Pos} {kt k2 : _} (i l : Nat) (h1 : N[i]? = some x) (h2 : N[l]? = some y) (k1 : kn[i]? = some (some .local)) (k3 : kn[l]? = some (some .local)) (hi : Nat.beq i l = false) (hp : (py.line == px.line) = true) (hs : plainL [a, b] = true) (hf : [a, b].all (foldedForSure 8) = false) (hc : [a, b].all (constantsAlone 8) = false)
    (ha : PA X [a, b] (rdA X.K G W ma)) : PS X (.Assign [.Tuple [.Name x px, .Name y py] kt pt] (.Tuple [a, b] k2 pt2) pos) (rdS X.K G W (sPar [i, l] ma)) := by
  have ne : i ≠ l := fun z => by subst z; rw [Nat.beq_refl] at hi; cases hi
  have nx : x ≠ y := fun z => by
    subst z
    obtain ⟨a1, a2⟩ := List.getElem?_eq_some_iff.mp h1
    obtain ⟨b1, b2⟩ := List.getElem?_eq_some_iff.mp h2
    exact ne (nodup_ix C.nd a1 b1 (a2.trans b2.symm))
  have lx := C.kd i x _ h1 k1 (by decide)
  have ly := C.kd l y _ h2 k3 (by decide)
  exact rs_par2 C.calm (by rw [C.hN]; exact C.nd) (C.iN h1) (C.iN h2) ne lx ly (sw2_ok C.kind lx ly hp nx hs hf hc) (swsN_ok rfl) ha
theorem Cu.par3 (C : Cu X N kn gl k W) {y z : Str} {px py pz pt pt2 : Pos} {kt k2 : _} (i l m : Nat) (h1 : N[i]? = some x) (h2 : N[l]? = some y) (h3 : N[m]? = some z) (k1 : kn[i]? = some (some .local)) (k3 : kn[l]? = some (some .local)) (k4 : kn[m]? = some (some .local)) (hi : (Nat.beq i l || (Nat.beq i m || Nat.beq l m)) = false) (hp : (py.line == px.line) = true) (hq : (pz.line == px.line) = true)
    (hs : plainL [a, b, c] = true) (hf : [a, b, c].all (foldedForSure 8) = false) (hc : [a, b, c].all (constantsAlone 8) = false)
    (ha : PA X [a, b, c] (rdA X.K G W ma)) : PS X (.Assign [.Tuple [.Name x px, .Name y py, .Name z pz] kt pt] (.Tuple [a, b, c] k2 pt2) pos) (rdS X.K G W (sPar [i, l, m] ma)) := by
  obtain ⟨q1, q2⟩ := Bool.or_eq_false_iff.mp hi
  obtain ⟨q3, q4⟩ := Bool.or_eq_false_iff.mp q2
  have ne : ∀ {u v : Nat}, Nat.beq u v = false → u ≠ v := fun {u v} h z => by subst z; rw [Nat.beq_refl] at h; cases h
  have nn : ∀ {u v : Nat} {s t : Str}, u ≠ v → N[u]? = some s → N[v]? = some t → s ≠ t := fun {u v s t} n e1 e2 z => by
    subst z
    obtain ⟨a1, a2⟩ := List.getElem?_eq_some_iff.mp e1
    obtain ⟨b1, b2⟩ := List.getElem?_eq_some_iff.mp e2
    exact n (nodup_ix C.nd a1 b1 (a2.trans b2.symm))
  have lx := C.kd i x _ h1 k1 (by decide)
  have ly := C.kd l y _ h2 k3 (by decide)
  have lz := C.kd m z _ h3 k4 (by decide)
  exact rs_par3 C.calm (by rw [C.hN]; exact C.nd) (C.iN h1) (C.iN h2) (C.iN h3) (ne q1) (ne q3) (ne q4) lx ly lz (sw3_ok C.kind lx ly lz hp hq (nn (ne q1) h1 h2) (nn (ne q3) h1 h3) (nn (ne q4) h2 h3) hs hf hc) (swsN_ok rfl) ha
/-- [e for x in src if c] -/
theorem Cu.lc (C : Cu X N kn gl k W) {elt tg iter : Expr} {ifs : List Expr} {scope : Scope} {own : List (Str × Nat)} {w : Nat} {mi : M Src} {t : CT} {tc : M Bool} (ok : blkK N kn scope own kn' gl' = true) (hm : (t.slots.all fun i => (own.map (·.2)).contains i) = true) (hs : notSet iter = true)
    (hi : PI X tg iter (rdI X.K G W mi)) (hg : ∀ (X' : Cx), X'.K = X.K → Cu X' N kn' gl' k WF → PG X' tg (t.g X'.K)) (ht : ∀ (s : Shared) (H : Hp) (A : Addr) (cl : List (Str × Addr)) (fp : List Addr), Cu (X.blk s H scope (compEnvC scope cl A X.env) fp) N kn' gl' k WF → PTs (X.blk s H scope (compEnvC scope cl A X.env) fp) ifs (rdT X.K G WF tc))
    (he : ∀ (s : Shared) (H : Hp) (A : Addr) (cl : List (Str × Addr)) (fp : List Addr), Cu (X.blk s H scope (compEnvC scope cl A X.env) fp) N kn' gl' k WF → PE (X.blk s H scope (compEnvC scope cl A X.env) fp) elt (rdE X.K G WF me)) :
    PE X (.ListComp elt [⟨tg, iter, ifs, 0⟩] scope pos) (rdE X.K G W (mComp w mi t tc me (own.map (·.2)))) :=
  re_lc C.calm (by rw [C.hN]; exact C.nd) (C.blkOk ok) (fun i hi => List.contains_iff_mem.mp (List.all_eq_true.mp hm i hi)) (fold_ok hs) hi (fun s H A cl fp => hg _ rfl (C.blk ok s H A cl fp)) (fun s H A cl fp => ht s H A cl fp (C.blk ok s H A cl fp)) fun s H A cl fp => he s H A cl fp (C.blk ok s H A cl fp)
/-- name = [..] -/
theorem Cu.setLc (C : Cu X N kn gl k W) {y : Str} {py spos : Pos} (i : Nat) {elt tg iter : Expr} {ifs : List Expr} {scope : Scope} {own : List (Str × Nat)} {w : Nat} {mi : M Src} {t : CT} {tc : M Bool} (hy : N[i]? = some y) (ky : kn[i]? = some (some .local)) (hl : (py.line == pos.line) = true) (hn : (scope.names.any fun (n, k) => n == y && (k == .local || k == .cell)) = false)
    (ok : blkK N kn scope own kn' gl' = true) (hm : (t.slots.all fun i => (own.map (·.2)).contains i) = true) (hs : notSet iter = true)
    (hi : PI X tg iter (rdI X.K G W mi)) (hg : ∀ (X' : Cx), X'.K = X.K → Cu X' N kn' gl' k WF → PG X' tg (t.g X'.K)) (ht : ∀ (s : Shared) (H : Hp) (A : Addr) (cl : List (Str × Addr)) (fp : List Addr), Cu (X.blk s H scope (compEnvC scope cl A X.env) fp) N kn' gl' k WF → PTs (X.blk s H scope (compEnvC scope cl A X.env) fp) ifs (rdT X.K G WF tc))
    (he : ∀ (s : Shared) (H : Hp) (A : Addr) (cl : List (Str × Addr)) (fp : List Addr), Cu (X.blk s H scope (compEnvC scope cl A X.env) fp) N kn' gl' k WF → PE (X.blk s H scope (compEnvC scope cl A X.env) fp) elt (rdE X.K G WF me)) :
    PS X (.Assign [.Name y py] (.ListComp elt [⟨tg, iter, ifs, 0⟩] scope pos) spos) (rdS X.K G W (sAsg (mComp w mi t tc me (own.map (·.2))) (tgName i))) :=
  rs_setLc C.calm (by rw [C.hN]; exact C.nd) (C.iN hy) (C.kd i y _ hy ky (by decide)) (sw_true C.kind (C.kd i y _ hy ky (by decide)) hl hn) (C.blkOk ok) (fun i hi => List.contains_iff_mem.mp (List.all_eq_true.mp hm i hi)) (fold_ok hs) hi (fun s H A cl fp => hg _ rfl (C.blk ok s H A cl fp)) (fun s H A cl fp => ht s H A cl fp (C.blk ok s H A cl fp)) fun s H A cl fp => he s H A cl fp (C.blk ok s H A cl fp)
theorem rs_bad {st : Stmt} : PS X st (rdS X.K G W fun _ _ => .bad) := ⟨fun pins s σ H D I ⟨F, ι, env, h, en, sm, p⟩ => p.elim⟩
theorem rss_bad {st : List Stmt} : PSs X st (rdS X.K G W fun _ _ => .bad) := ⟨fun pins s σ H D I ⟨F, ι, env, h, en, sm, p⟩ => p.elim⟩
theorem re_bad : PE X e (rdE X.K G W fun _ _ => .bad) := ⟨fun pins s σ H Q I ⟨F, ι, env, h, en, sm, p⟩ => p.elim⟩
end
end Ev

set_option Elab.async false
set_option linter.all false
set_option maxRecDepth 100000
set_option maxHeartbeats 4000000
/-! Ev, 20: texts, tables of the module. -/
namespace Ev
open PySem PySem.Spec PyProof.Rows L2
/-- a table of the module: by a text's signs -/
def tabAt (tb : List (List Nat × D)) (s : List Nat) : Option D := match tb with
  | [] => none
  | (t, d) :: r => if decide (t = s) = true then some d else tabAt r s
def mTab (tb : List (List Nat × D)) (a : M Val) : M Val := fun env h => (a env h).bind fun x h1 => match x with
  | .d (.str s) => match tabAt tb s with
    | some d => .ok (.d d) h1
    | none => .bad
  | _ => .bad
def mTabIn (neg : Bool) (tb : List (List Nat × D)) (a : M Val) : M Bool := fun env h => (a env h).bind fun x h1 => match x with
  | .d (.str s) => match tabAt tb s with
    | some _ => .ok (!neg) h1
    | none => .bad
  | _ => .bad
/-- what the dict at a holds: ints by texts -/
def tabB (a : PySem.W.Frag → Addr) (tb : List (List Nat × Int)) (K : PySem.W.Frag) : Bool := tb.all fun q => match PySem.W.nsIn K (a K) ⟨q.1.toArray⟩ with
  | some (some (.int i _)) => decide (i = q.2)
  | _ => false
def tabI (tb : List (List Nat × Int)) : List (List Nat × D) := tb.map fun q => (q.1, .int q.2)
/-- what a table is to say -/
def TabR (K : PySem.W.Frag) (a : Addr) (tb : List (List Nat × D)) : Prop := ∀ s d, tabAt tb s = some d → ∃ u v, PySem.W.nsIn K a ⟨s.toArray⟩ = some (some u) ∧ RelV v u ∧ ∀ H, RD K H d v
theorem tabI_ok {K : PySem.W.Frag} {a : PySem.W.Frag → Addr} {tb : List (List Nat × Int)} (h : tabB a tb K = true) : TabR K (a K) (tabI tb) := fun s d e => by
  induction tb with
  | nil => cases e
  | cons q r ih =>
    obtain ⟨h1, h2⟩ := Bool.and_eq_true_iff.mp (show ((match PySem.W.nsIn K (a K) ⟨q.1.toArray⟩ with
      | some (some (.int i _)) => decide (i = q.2)
      | _ => false) && tabB a r K) = true from h)
    have e : (if decide (q.1 = s) = true then some (D.int q.2) else tabAt (tabI r) s) = some d := e
    by_cases c : q.1 = s
    · rw [if_pos (decide_eq_true c)] at e
      cases e
      rw [← c]
      split at h1
      · rename_i i t eq
        have ei : i = q.2 := of_decide_eq_true h1
        rw [ei] at eq
        exact ⟨_, .int q.2, eq, ⟨t, rfl⟩, fun _ => rfl⟩
      · cases h1
    · rw [if_neg (fun z => c (of_decide_eq_true z))] at e
      exact ih h2 e
section
variable {X : Cx} {N : List Str} {kn kn' : List (Option NameKind)} {gl gl' : List Str} {k j : Nat} {W : WX} {G : Cg} {x : Str} {pos p q : Pos} {e a b c : Expr} {me mb mc : M Val}
theorem re_sL {z : Str} {l : List Nat} {j : Nat} (h : z.cps.toList = l) : PE X (.Constant (.str z) j pos) (rdE X.K G W (mCst (.d (.str l)))) := by
  subst h
  exact re_str
theorem Cu.gsL (C : Cu X N kn gl k W) (i : Nat) {z : Str} {l : List Nat} (h : gl[i]? = some x) (hm : ∃ t, X.mg x = some (.str z t)) (hz : z.cps.toList = l) : PE X (.Name x pos) (rdE X.K G W (mCst (.d (.str l)))) := by
  subst hz
  exact C.gs i h hm
theorem Cu.gName (C : Cu X N kn gl k W) (i : Nat) {ad : Addr} (h : gl[i]? = some x) (hm : X.mg x = some (.ref ad)) : PE X (.Name x pos) (tC (.ref ad)) := pe_glob (v := .ref ad) (C.gl i x h) hm rfl (okNm_1 (C.dG x (List.mem_of_getElem? h)))
theorem Cu.tabIn (C : Cu X N kn gl k W) (i : Nat) {ad : Addr} {tb : List (List Nat × D)} (h : gl[i]? = some x) (hm : X.mg x = some (.ref ad)) (hD : ∃ es n, KDict X.K X.w ad es n) (ht : TabR X.K ad tb) (he : PE X e (rdE X.K G W me)) : PE X (.Compare e [.In] [.Name x p] pos) (rdE X.K G W (mVal (mTabIn false tb me))) := by
  obtain ⟨es, n, D⟩ := hD
  refine PE.imp (pe_cmpR (op_in_kd D) he (C.gName i h hm) rfl) fun σ H Q ⟨F, ι, env, h, en, sm, p⟩ => ?_
  unfold mVal mTabIn at p
  rw [bindAssoc] at p
  refine rd_bind en sm p fun ι1 H1 h1 y v x1 sm1 r1 p1 => ?_
  split at p1
  · rename_i s
    split at p1
    · rename_i d ed
      obtain ⟨u, w, e1, e2, e3⟩ := ht s d ed
      cases r1
      exact ⟨_, _, rfl, rfl, e1, PostG.val (v := V.bl true) p1 sm1 rfl⟩
    · exact p1.elim
  · exact p1.elim
theorem Cu.tabNotIn (C : Cu X N kn gl k W) (i : Nat) {ad : Addr} {tb : List (List Nat × D)} (h : gl[i]? = some x) (hm : X.mg x = some (.ref ad)) (hD : ∃ es n, KDict X.K X.w ad es n) (ht : TabR X.K ad tb) (he : PE X e (rdE X.K G W me)) : PE X (.Compare e [.NotIn] [.Name x p] pos) (rdE X.K G W (mVal (mTabIn true tb me))) := by
  obtain ⟨es, n, D⟩ := hD
  refine PE.imp (pe_cmpR (op_notIn_kd D) he (C.gName i h hm) rfl) fun σ H Q ⟨F, ι, env, h, en, sm, p⟩ => ?_
  unfold mVal mTabIn at p
  rw [bindAssoc] at p
  refine rd_bind en sm p fun ι1 H1 h1 y v x1 sm1 r1 p1 => ?_
  split at p1
  · rename_i s
    split at p1
    · rename_i d ed
      obtain ⟨u, w, e1, e2, e3⟩ := ht s d ed
      cases r1
      exact ⟨_, _, rfl, rfl, e1, PostG.val (v := V.bl false) p1 sm1 rfl⟩
    · exact p1.elim
  · exact p1.elim
theorem Cu.tabIx (C : Cu X N kn gl k W) (i : Nat) {ad : Addr} {tb : List (List Nat × D)} (h : gl[i]? = some x) (hm : X.mg x = some (.ref ad)) (hD : ∃ es n, KDict X.K X.w ad es n) (ht : TabR X.K ad tb) (hs : PlainIx e) (he : PE X e (rdE X.K G W me)) : PE X (.Subscript (.Name x p) e pos) (rdE X.K G W (mTab tb me)) := by
  obtain ⟨es, n, D⟩ := hD
  refine ⟨fun pins s σ H Q I ⟨F, ι, env, h0, en, sm, p⟩ => ?_⟩
  refine Subscript_ (thn ((C.gName i h hm).run pins s σ H (fun v H1 => v = .ref ad ∧ H1 = H) I ⟨rfl, rfl⟩) fun u s1 ⟨v, H1, I1, r1, ev, eH⟩ => ?_)
  subst ev eH
  obtain rfl : u = Value.ref ad := r1
  refine st_e he I1 en sm p fun u2 s2 v2 ι2 H2 h2 y I2 e2 sm2 r2 q2 p2 => ?_
  split at p2
  · rename_i s
    split at p2
    · rename_i d ed
      obtain ⟨u0, w, e1, e3, e4⟩ := ht s d ed
      cases r2
      exact tail_any (kd_type D I2) PySem.F.slot_dict_getitem.lookup (op_item_kd D pins s2 σ H2 (.ref ad) _ _ _ Q I2 rfl q2 ⟨_, _, _, rfl, rfl, e1, e3, p2.val sm2 (e4 H2)⟩) (hs _ _)
    · exact p2.elim
  · exact p2.elim
theorem Cu.ttabIn (C : Cu X N kn gl k W) (i : Nat) {ad : Addr} {tb : List (List Nat × D)} (h : gl[i]? = some x) (hm : X.mg x = some (.ref ad)) (hD : ∃ es n, KDict X.K X.w ad es n) (ht : TabR X.K ad tb) (he : PE X e (rdE X.K G W me)) : PT X (.Compare e [.In] [.Name x p] pos) (rdT X.K G W (mTabIn false tb me)) := by
  obtain ⟨es, n, D⟩ := hD
  refine PT.imp (pt_cmpR (op_in_kd D) he (C.gName i h hm) rfl) fun σ H Q ⟨F, ι, env, h, en, sm, p⟩ => ?_
  unfold mTabIn at p
  refine rd_bind en sm p fun ι1 H1 h1 y v x1 sm1 r1 p1 => ?_
  split at p1
  · rename_i s
    split at p1
    · rename_i d ed
      obtain ⟨u, w, e1, e2, e3⟩ := ht s d ed
      cases r1
      exact ⟨_, _, rfl, rfl, e1, true, rfl, p1.val sm1 rfl⟩
    · exact p1.elim
  · exact p1.elim
theorem Cu.ttabNotIn (C : Cu X N kn gl k W) (i : Nat) {ad : Addr} {tb : List (List Nat × D)} (h : gl[i]? = some x) (hm : X.mg x = some (.ref ad)) (hD : ∃ es n, KDict X.K X.w ad es n) (ht : TabR X.K ad tb) (he : PE X e (rdE X.K G W me)) : PT X (.Compare e [.NotIn] [.Name x p] pos) (rdT X.K G W (mTabIn true tb me)) := by
  obtain ⟨es, n, D⟩ := hD
  refine PT.imp (pt_cmpR (op_notIn_kd D) he (C.gName i h hm) rfl) fun σ H Q ⟨F, ι, env, h, en, sm, p⟩ => ?_
  unfold mTabIn at p
  refine rd_bind en sm p fun ι1 H1 h1 y v x1 sm1 r1 p1 => ?_
  split at p1
  · rename_i s
    split at p1
    · rename_i d ed
      obtain ⟨u, w, e1, e2, e3⟩ := ht s d ed
      cases r1
      exact ⟨_, _, rfl, rfl, e1, false, rfl, p1.val sm1 rfl⟩
    · exact p1.elim
  · exact p1.elim
end
end Ev

set_option Elab.async false
set_option linter.all false
set_option maxRecDepth 100000
set_option maxHeartbeats 1000000
/-! Ev: plain rules for the laws' own proofs: loops, comprehensions. -/
namespace Ev
@[simp] theorem bind_mk {α β : Type} (a : α) (h : EH) (f : α → EH → R β) : (R.ok a h).bind f = f a h := rfl
@[simp] theorem run_ok {α : Type} (a : α) (h : EH) (env : Env') (f : α → EH → RS) : (R.ok a h).run env f = f a h := rfl
@[simp] theorem rs_nx (env : Env') (h : EH) (f : MS) : (RS.nx env h).bind f = f env h := rfl
@[simp] theorem rs_rt (v : Val) (h : EH) (f : MS) : (RS.rt v h).bind f = .rt v h := rfl
@[simp] theorem tn_nx (env : Env') (h : EH) (f : MS) : (RS.nx env h).turn f = f env h := rfl
@[simp] theorem tn_rt (v : Val) (h : EH) (f : MS) : (RS.rt v h).turn f = .rt v h := rfl
@[simp] theorem noX_ok {α : Type} (a : α) (h : EH) : noX (R.ok a h) = .ok a h := rfl
@[simp] theorem fn_rt (v : Val) (h : EH) : (RS.rt v h).fn = .ok v h := rfl
@[simp] theorem fn_nx (e : Env') (h : EH) : (RS.nx e h).fn = .ok (.d .non) h := rfl
@[simp] theorem ret_fn (r : R Val) (env : Env') (f : MS) : ((r.run env fun x h1 => RS.rt x h1).bind f).fn = r := by cases r <;> rfl
@[simp] theorem ret_bind (r : R Val) (env : Env') (f : MS) : (r.run env fun x h1 => RS.rt x h1).bind f = r.run env fun x h1 => RS.rt x h1 := by cases r <;> rfl
@[simp] theorem ret_fn0 (r : R Val) (env : Env') : (r.run env fun x h1 => RS.rt x h1).fn = r := by cases r <;> rfl
@[simp] theorem bind_id (r : R Val) : (r.bind fun v h => .ok v h) = r := by cases r <;> rfl
@[simp] theorem nxt (env : Env') (h : EH) : sNext env h = .nx env h := rfl
@[simp] theorem turn_ret (r : R Val) (env : Env') (k : MS) : (r.run env fun x h1 => RS.rt x h1).turn k = r.run env fun x h1 => RS.rt x h1 := by cases r <;> rfl
/-- a loop over items that stand still -/
theorem loopL_inv {t : MT} {b : MS} {xs : List Val} (I : Nat → Env' → EH → Prop) (step : ∀ i env h (hi : i < xs.length), I i env h → ∃ env' h', ((t xs[i] env h).run env fun env1 h1 => b env1 h1) = .nx env' h' ∧ I (i + 1) env' h') {env : Env'} {h : EH} (h0 : I 0 env h) : ∃ env' h', loopL t b xs env h = .nx env' h' ∧ I xs.length env' h' := by
  have key : ∀ (n i : Nat) (env : Env') (h : EH), xs.length - i = n → i ≤ xs.length → I i env h → ∃ env' h', loopL t b (xs.drop i) env h = .nx env' h' ∧ I xs.length env' h' := by
    intro n
    induction n with
    | zero =>
      intro i env h e l z
      have : i = xs.length := by omega
      subst this
      rw [List.drop_length]
      exact ⟨env, h, rfl, z⟩
    | succ n ih =>
      intro i env h e l z
      have hi : i < xs.length := by omega
      obtain ⟨env1, h1, e1, z1⟩ := step i env h hi z
      obtain ⟨env2, h2, e2, z2⟩ := ih (i + 1) env1 h1 (by omega) hi z1
      refine ⟨env2, h2, ?_, z2⟩
      rw [List.drop_eq_getElem_cons hi]
      unfold loopL
      cases q : t xs[i] env h with
      | bad => rw [q] at e1; cases e1
      | exc c fs h' => rw [q] at e1; cases e1
      | ok en h' =>
        rw [q] at e1
        have e1 : b en h' = .nx env1 h1 := e1
        show (b en h').turn _ = _
        rw [e1]
        exact e2
  exact key _ 0 env h rfl (Nat.zero_le _) h0
theorem compL_inv {k : Nat} {e : M Val} {env : Env'} {xs : List Val} (I : Nat → List Val → EH → Prop) (step : ∀ i ys h (hi : i < xs.length), I i ys h → ∃ y h', e (env.set k (some xs[i])) h = .ok y h' ∧ I (i + 1) (ys ++ [y]) h') {h : EH} (h0 : I 0 [] h) : ∃ ys h', compL (.one k) mYes e env xs h = .ok ys h' ∧ I xs.length ys h' := by
  have key : ∀ (n i : Nat) (ac : List Val) (h : EH), xs.length - i = n → i ≤ xs.length → I i ac h → ∃ ys h', compL (.one k) mYes e env (xs.drop i) h = .ok ys h' ∧ I xs.length (ac ++ ys) h' := by
    intro n
    induction n with
    | zero =>
      intro i ac h e l z
      have : i = xs.length := by omega
      subst this
      rw [List.drop_length]
      exact ⟨[], h, rfl, by rw [List.append_nil]; exact z⟩
    | succ n ih =>
      intro i ac h e0 l z
      have hi : i < xs.length := by omega
      obtain ⟨y, h1, e1, z1⟩ := step i ac h hi z
      obtain ⟨ys, h2, e2, z2⟩ := ih (i + 1) _ h1 (by omega) hi z1
      refine ⟨y :: ys, h2, ?_, by rw [List.append_assoc] at z2; exact z2⟩
      rw [List.drop_eq_getElem_cons hi]
      show ((e (env.set k (some xs[i])) h).bind fun y h3 => (compL (.one k) mYes e env (xs.drop (i + 1)) h3).bind fun ys h4 => .ok (y :: ys) h4) = _
      rw [e1, bind_mk, e2]
      rfl
  obtain ⟨ys, h', a, b⟩ := key _ 0 [] h rfl (Nat.zero_le _) h0
  exact ⟨ys, h', a, b⟩
/-- a comprehension whose items change nothing -/
theorem compL_pure {k : Nat} {e : M Val} {env : Env'} {h : EH} (f : Val → Val) : ∀ {xs : List Val}, (∀ x, x ∈ xs → e (env.set k (some x)) h = .ok (f x) h) → compL (.one k) mYes e env xs h = .ok (xs.map f) h
  | [], _ => rfl
  | x :: r, p => by
    show ((e (env.set k (some x)) h).bind fun y h3 => (compL (.one k) mYes e env r h3).bind fun ys h4 => .ok (y :: ys) h4) = _
    rw [p x (List.mem_cons_self ..), bind_mk, compL_pure f fun y m => p y (List.mem_cons_of_mem _ m)]
    rfl
theorem mItems_seq {w k : Nat} {src : M Src} {e : M Val} {own : List Nat} {env : Env'} {h h1 h2 : EH} {xs ys : List Val} (es : src env h = .ok (.seq xs) h1) (ec : compL (.one k) mYes e (wipeE env own) xs h1 = .ok ys h2) : mItems w src (.one k) mYes e own env h = .ok ys h2 := by
  unfold mItems
  rw [es, bind_mk]
  show noX (compL (.one k) mYes e (wipeE env own) xs h1) = _
  rw [ec]
  rfl
theorem mComp_seq {w k : Nat} {src : M Src} {e : M Val} {own : List Nat} {env : Env'} {h h1 h2 : EH} {xs ys : List Val} (es : src env h = .ok (.seq xs) h1) (ec : compL (.one k) mYes e (wipeE env own) xs h1 = .ok ys h2) (hf : ys.length ≤ 16777216) : mComp w src (.one k) mYes e own env h = .ok (.r h2.length) (h2 ++ [.lst ys]) := by
  unfold mComp
  rw [mItems_seq es ec, bind_mk]
  unfold newL
  rw [if_pos (show fits ys.length = true from Nat.ble_eq_true_of_le hf)]
theorem sFor_seq {w : Nat} {src : M Src} {t : MT} {b : MS} {env : Env'} {h h1 : EH} {xs : List Val} (es : src env h = .ok (.seq xs) h1) : sFor w src t b env h = loopL t b xs env h1 := by
  unfold sFor
  rw [es]
  rfl
@[simp] theorem rng_len (lo : Int) (n : Nat) : (rng lo n).length = n := by simp [rng]
theorem rng_get (lo : Int) (n i : Nat) (h : i < (rng lo n).length) : (rng lo n)[i] = .d (.int (lo + i)) := by simp [rng]
@[simp] theorem getL_new (h : EH) (xs : List Val) : getL (.r h.length) (h ++ [.lst xs]) = some xs := by simp [getL]
@[simp] theorem getS_new (h : EH) (xs : List Val) : getS (.r h.length) (h ++ [.lst xs]) = some xs := by simp [getS, asT]
theorem newT_ok {xs : List Val} {h : EH} (hf : xs.length ≤ 16777216) : newT xs h = .ok (mkT xs) h := if_pos (Nat.ble_eq_true_of_le hf)
theorem newL_ok {xs : List Val} {h : EH} (hf : xs.length ≤ 16777216) : newL xs h = .ok (.r h.length) (h ++ [.lst xs]) := if_pos (Nat.ble_eq_true_of_le hf)
theorem fits_of {n : Nat} (hf : n ≤ 16777216) : fits n = true := Nat.ble_eq_true_of_le hf
theorem append_new {h : EH} {xs : List Val} {y : Val} (hf : xs.length + 1 ≤ 16777216) : lAppend (.r h.length) [y] (h ++ [.lst xs]) = .ok (.d .non) (h ++ [.lst (xs ++ [y])]) := by
  have e : (h ++ [Ob.lst xs]).set h.length (.lst (xs ++ [y])) = h ++ [.lst (xs ++ [y])] := by
    rw [List.set_append_right _ _ (Nat.le_refl _)]
    simp
  simp [lAppend, putL, fits_of hf, e]
theorem mBM_ap {mo : M Val} {ma : M (List Val)} {env : Env'} {h1 h : EH} {h0 : EH} {xs : List Val} {y : Val} (eo : mo env h1 = .ok (.r h.length) h1) (et : tyNo (.r h.length) h1 = some 4) (ea : ma env h1 = .ok [y] (h ++ [.lst xs])) (hf : xs.length + 1 ≤ 16777216) : mBM 4 lAppend mo ma env h1 = .ok (.d .non) (h ++ [.lst (xs ++ [y])]) := by
  unfold mBM
  rw [eo, bind_mk, et]
  show (if Nat.beq 4 4 = true then _ else _) = _
  rw [if_pos (show Nat.beq 4 4 = true from rfl), ea, bind_mk, append_new hf]
  rfl
theorem opIdx_tup (b : Bool) (ds : List D) (i : Int) (h : EH) : opIdx (.d (.tup b ds)) (.d (.int i)) h = match atV (ds.map .d) i with
    | some v => .ok v h
    | none => .bad := by
  simp only [opIdx, getS, asT] <;> rfl
theorem opIdx_t (xs : List Val) (i : Int) (h : EH) : opIdx (.t xs) (.d (.int i)) h = match atV xs i with
    | some v => .ok v h
    | none => .bad := by
  simp only [opIdx, getS, asT] <;> rfl
theorem opIdx_l {n : Nat} {xs : List Val} {h : EH} (e : h[n]? = some (.lst xs)) (i : Int) : opIdx (.r n) (.d (.int i)) h = match atV xs i with
    | some v => .ok v h
    | none => .bad := by
  simp only [opIdx, getS, asT, getL, e] <;> rfl
theorem map_const_rng (f : Val) (lo : Int) (n : Nat) : (rng lo n).map (fun _ => f) = List.replicate n f := by
  rw [List.eq_replicate_iff]
  simp
theorem okR_of {j : Int} (h1 : -1000000000 ≤ j) (h2 : j ≤ 1000000000) : okR j = true := by
  unfold okR
  rw [decide_eq_true (show -(2 ^ 62) ≤ j by omega), decide_eq_true (show j < 2 ^ 62 by omega)]
  rfl
theorem rgOk_of {i j : Int} (h1 : -10000000 ≤ i) (h2 : i ≤ 10000000) (h3 : -10000000 ≤ j) (h4 : j ≤ 6000000) : rgOk i j = true := by
  unfold rgOk
  rw [okR_of (by omega) (by omega), okR_of (by omega) (by omega), fits_of (by omega)]
  rfl
theorem iRange1_ok {a : M (List Val)} {env : Env'} {h h1 : EH} {j : Int} (ea : a env h = .ok [.d (.int j)] h1) (l1 : -1000000000 ≤ j) (l2 : j ≤ 1000000000) : iRange1 a env h = .ok (.seq (rng 0 j.toNat)) h1 := by
  unfold iRange1
  rw [ea, bind_mk]
  exact if_pos (okR_of l1 l2)
theorem iVal_tup {a : M Val} {env : Env'} {h h1 : EH} {b : Bool} {ds : List D} (ea : a env h = .ok (.d (.tup b ds)) h1) : iVal a env h = .ok (.seq (ds.map .d)) h1 := by
  unfold iVal
  rw [ea]
  rfl
theorem iVal_t {a : M Val} {env : Env'} {h h1 : EH} {xs : List Val} (ea : a env h = .ok (.t xs) h1) : iVal a env h = .ok (.seq xs) h1 := by
  unfold iVal
  rw [ea]
  rfl
theorem iVal_l {a : M Val} {env : Env'} {h h1 : EH} {n : Nat} {xs : List Val} (ea : a env h = .ok (.r n) h1) (en : h1[n]? = some (.lst xs)) : iVal a env h = .ok (.live (.r n)) h1 := by
  unfold iVal
  rw [ea]
  simp [asT, getS, getL, en]
theorem mIdx_ap (a b : M Val) (env : Env') (h : EH) : mIdx a b env h = (a env h).bind fun x h1 => (b env h1).bind fun y h2 => opIdx x y h2 := rfl
theorem callFn_d {f : Fn} {xs : List Val} {ds : List D} {d : D} {h h' : EH} (hp : pures xs = some ds) (e : f xs [] = .ok (.d d) h') : callFn f xs h = .ok (.d d) h := by
  unfold callFn
  simp [hp, e]
theorem callFn_l {f : Fn} {xs : List Val} {ds es : List D} {n : Nat} {ys : List Val} {h h' : EH} (hp : pures xs = some ds) (e : f xs [] = .ok (.r n) h') (hn : h'[n]? = some (.lst ys)) (hy : pures ys = some es) : callFn f xs h = .ok (.r h.length) (h ++ [.lst ys]) := by
  unfold callFn
  simp [hp, e, hn, hy]
end Ev

set_option Elab.async false
set_option linter.all false
set_option maxRecDepth 100000
set_option maxHeartbeats 1000000
/-! Ev: one step at a time: what a piece comes to, from what its parts come to. -/
namespace Ev
variable {env env1 : Env'} {h h1 h2 : EH}
theorem sSeq_nx {a b : MS} {r : RS} (e : a env h = .nx env1 h1) (e2 : b env1 h1 = r) : sSeq a b env h = r := by
  unfold sSeq
  rw [e]
  exact e2
theorem sSeq_rt {a b : MS} {v : Val} (e : a env h = .rt v h1) : sSeq a b env h = .rt v h1 := by
  unfold sSeq
  rw [e]
  rfl
theorem sAsg_ok {m : M Val} {t : MT} {v : Val} {env2 : Env'} (e : m env h = .ok v h1) (et : t v env h1 = .ok env2 h2) : sAsg m t env h = .nx env2 h2 := by
  unfold sAsg
  rw [e, run_ok, et, run_ok]
theorem sAsg_n {m : M Val} {i : Nat} {v : Val} (e : m env h = .ok v h1) : sAsg m (tgName i) env h = .nx (env.set i (some v)) h1 := sAsg_ok e rfl
theorem sRet_ok {m : M Val} {v : Val} (e : m env h = .ok v h1) : sRet m env h = .rt v h1 := by
  unfold sRet
  rw [e, run_ok]
theorem sExpr_ok {m : M Val} {v : Val} (e : m env h = .ok v h1) : sExpr m env h = .nx env h1 := by
  unfold sExpr
  rw [e, run_ok]
theorem sIf_t {c : M Bool} {a b : MS} {r : RS} (e : c env h = .ok true h1) (ea : a env h1 = r) : sIf c a b env h = r := by
  unfold sIf
  rw [e, run_ok, if_pos rfl, ea]
theorem sIf_f {c : M Bool} {a b : MS} {r : RS} (e : c env h = .ok false h1) (eb : b env h1 = r) : sIf c a b env h = r := by
  unfold sIf
  rw [e, run_ok, if_neg (by decide), eb]
theorem sPar_ok {is : List Nat} {ma : M (List Val)} {xs : List Val} (e : ma env h = .ok xs h1) (el : Nat.beq xs.length is.length = true) : sPar is ma env h = .nx (setAll is xs env) h1 := by
  unfold sPar
  rw [e, run_ok, if_pos el]
theorem sFor_ok {w : Nat} {src : M Src} {t : MT} {b : MS} {xs : List Val} {r : RS} (es : src env h = .ok (.seq xs) h1) (el : loopL t b xs env h1 = r) : sFor w src t b env h = r := (sFor_seq es).trans el
theorem fn_rt' {n m : Nat} {b : MS} {xs : List Val} {v : Val} (hn : Nat.beq xs.length n = true) (e : b (startE m xs) h = .rt v h1) : fnOf n m b xs h = .ok v h1 := by
  unfold fnOf
  rw [if_pos hn, e]
  rfl
theorem mCons_ok {a : M Val} {r : M (List Val)} {x : Val} {xs : List Val} (ea : a env h = .ok x h1) (er : r env h1 = .ok xs h2) : mCons a r env h = .ok (x :: xs) h2 := by
  unfold mCons
  rw [ea, bind_mk, er, bind_mk]
theorem mNil_ok : mNil env h = .ok [] h := rfl
theorem mOp_ok {op : List Val → EH → R Val} {a : M (List Val)} {xs : List Val} {v : Val} (ea : a env h = .ok xs h1) (er : op xs h1 = .ok v h2) : mOp op a env h = .ok v h2 := by
  unfold mOp
  rw [ea, bind_mk, er]
  rfl
theorem m2_ok {op : Val → Val → EH → R Val} {a b : M Val} {x y : Val} {r : R Val} (ea : a env h = .ok x h1) (eb : b env h1 = .ok y h2) (er : op x y h2 = r) : m2 op a b env h = r := by
  unfold m2
  rw [ea, bind_mk, eb, bind_mk, er]
theorem m1_ok {op : Val → EH → R Val} {a : M Val} {x : Val} {r : R Val} (ea : a env h = .ok x h1) (er : op x h1 = r) : m1 op a env h = r := by
  unfold m1
  rw [ea, bind_mk, er]
theorem mB_ok {a : M Val} {b : Bool} (ea : a env h = .ok (.d (.bl b)) h1) : mB a env h = .ok b h1 := by
  unfold mB
  rw [ea]
  rfl
theorem mIf_t {α : Type} {c : M Bool} {a b : M α} {r : R α} (ec : c env h = .ok true h1) (ea : a env h1 = r) : mIf c a b env h = r := by
  unfold mIf
  rw [ec, bind_mk, if_pos rfl, ea]
theorem mIf_f {α : Type} {c : M Bool} {a b : M α} {r : R α} (ec : c env h = .ok false h1) (eb : b env h1 = r) : mIf c a b env h = r := by
  unfold mIf
  rw [ec, bind_mk, if_neg (by decide), eb]
theorem mTup_ok {r : M (List Val)} {xs : List Val} (e : r env h = .ok xs h1) (hf : xs.length ≤ 16777216) : mTup r env h = .ok (mkT xs) h1 := by
  unfold mTup
  rw [e, bind_mk, newT_ok hf]
theorem mLst_ok {r : M (List Val)} {xs : List Val} (e : r env h = .ok xs h1) (hf : xs.length ≤ 16777216) : mLst r env h = .ok (.r h1.length) (h1 ++ [.lst xs]) := by
  unfold mLst
  rw [e, bind_mk, newL_ok hf]
theorem mCall_ok {f : Fn} {ds : List D} {ma : M (List Val)} {xs : List Val} {r : R Val} (ea : ma env h = .ok xs h1) (er : callFn f (xs ++ ds.map .d) h1 = r) : mCall f ds ma env h = r := by
  unfold mCall
  rw [ea, bind_mk, er]
theorem mSlice_ok {a : M Val} {lo hi : M (Option Int)} {x : Val} {l u : Option Int} {r : R Val} {h3 : EH} (ea : a env h = .ok x h1) (el : lo env h1 = .ok l h2) (eu : hi env h2 = .ok u h3) (er : opSlice x l u h3 = r) : mSlice a lo hi env h = r := by
  unfold mSlice
  rw [ea, bind_mk, el, bind_mk, eu, bind_mk, er]
theorem mPart_n : mPart none env h = .ok none h := rfl
theorem mPart_s {a : M Val} {i : Int} (ea : a env h = .ok (.d (.int i)) h1) : mPart (some a) env h = .ok (some i) h1 := by
  show ((a env h).bind fun x h1 => match x with
    | .d (.int i) => R.ok (some i) h1
    | _ => .bad) = _
  rw [ea]
  rfl
theorem mTruth_b {a : M Val} {b : Bool} (ea : a env h = .ok (.d (.bl b)) h1) : mTruth a env h = .ok b h1 := by
  unfold mTruth
  rw [ea]
  rfl
theorem mNot_ok {a : M Bool} {b : Bool} (ea : a env h = .ok b h1) : mNot a env h = .ok (!b) h1 := by
  unfold mNot
  rw [ea, bind_mk]
theorem mOr_t {a b : M Bool} (ea : a env h = .ok true h1) : mOr a b env h = .ok true h1 := by
  unfold mOr
  rw [ea, bind_mk, if_pos rfl]
theorem mOr_f {a b : M Bool} {r : R Bool} (ea : a env h = .ok false h1) (eb : b env h1 = r) : mOr a b env h = r := by
  unfold mOr
  rw [ea, bind_mk, if_neg (by decide), eb]
end Ev

set_option Elab.async false
set_option linter.all false
set_option maxRecDepth 100000
set_option maxHeartbeats 1000000
/-! Ev: found == due and repr(found) == repr(due), of data that are the same. -/
namespace Ev
open PySem PySem.Spec PyProof.Rows L2
theorem eqAny_same {x y : Val} {h : EH} {p : PyData} (ex : vpy 32 h x = some p) (ey : vpy 32 h y = some p) (hl : p.canLay0 = true) (hd : p.depth ≤ 60) : eqAny x y h = some true := by
  have s : SeqAt.shaped p = true := by
    unfold SeqAt.shaped
    rw [hl, decide_eq_true (show p.depth ≤ 64 by omega)]
    rfl
  have r := SeqAt.eqv_refl p hl
  unfold eqAny
  simp only [ex, ey, s, r]
  rfl
theorem opEq_same {x y : Val} {h : EH} {p : PyData} (ex : vpy 32 h x = some p) (ey : vpy 32 h y = some p) (hl : p.canLay0 = true) (hd : p.depth ≤ 60) : opEq x y h = .ok (.d (.bl true)) h := by
  have g := eqAny_same ex ey hl hd
  unfold opEq
  split
  · rename_i i j
    have e1 : some (PyData.int i) = some p := ex
    have e2 : some (PyData.int j) = some p := ey
    have e3 := e1.trans e2.symm
    cases e3
    unfold okB
    rw [decide_eq_true rfl]
  · rename_i i j
    have e1 : some (PyData.str ⟨i.toArray⟩) = some p := ex
    have e2 : some (PyData.str ⟨j.toArray⟩) = some p := ey
    have e3 := e1.trans e2.symm
    cases e3
    unfold okB
    rw [decide_eq_true rfl]
  · rw [g]
    rfl
theorem repOf_same {x : Val} {h : EH} {p : PyData} (ex : vpy 32 h x = some p) (hd : p.depth ≤ 60) (ht : txtOk p = true) (hs : txtSz p ≤ 16777216) : repOf x h = some p := by
  have o : repOk p = true := by
    unfold repOk
    rw [ht, fits_of hs, show Nat.ble p.depth 60 = true from Nat.ble_eq_true_of_le hd]
    rfl
  unfold repOf
  simp only [ex, o]
  rfl
mutual
theorem pyBeq_refl : ∀ {p : PyData}, p.canLay0 = true → pyBeq p p = true
  | .none, _ => rfl
  | .bool b, _ => by simp [pyBeq]
  | .int b, _ => by simp [pyBeq]
  | .str b, _ => by simp [pyBeq]
  | .list xs, h => pyBeqs_refl (by simpa [PyData.canLay0] using h)
  | .tuple xs, h => pyBeqs_refl (by simpa [PyData.canLay0] using h)
  | .dict xs, h => nomatch h
theorem pyBeqs_refl : ∀ {p : List PyData}, PyData.canLayAll0 p = true → pyBeqs p p = true
  | [], _ => rfl
  | x :: xs, h => by
    have h' : x.canLay0 = true ∧ PyData.canLayAll0 xs = true := by simpa [PyData.canLayAll0] using h
    show (pyBeq x x && pyBeqs xs xs) = true
    rw [pyBeq_refl h'.1, pyBeqs_refl h'.2]
    rfl
end
/-- the body of _law_alike -/
abbrev alikeB : MS := sSeq (sRet (mAndV (m2 opEq (mVar 0) (mVar 1)) (mVal (mRepEq (mVar 0) (mVar 1))))) sNext
theorem alike_ok {x y : Val} {h : EH} {p : PyData} (ex : vpy 32 h x = some p) (ey : vpy 32 h y = some p) (hl : p.canLay0 = true) (hd : p.depth ≤ 60) (ht : txtOk p = true) (hs : txtSz p ≤ 16777216) : fnOf 2 2 alikeB [x, y] h = .ok (.d (.bl true)) h := by
  refine fn_rt' rfl (sSeq_rt (sRet_ok ?_))
  have e1 : m2 opEq (mVar 0) (mVar 1) (startE 2 [x, y]) h = .ok (.d (.bl true)) h := m2_ok rfl rfl (opEq_same ex ey hl hd)
  have v0 : mVar 0 (startE 2 [x, y]) h = .ok x h := rfl
  have v1 : mVar 1 (startE 2 [x, y]) h = .ok y h := rfl
  have e2 : mVal (mRepEq (mVar 0) (mVar 1)) (startE 2 [x, y]) h = .ok (.d (.bl true)) h := by
    unfold mVal mRepEq
    rw [v0, bind_mk]
    simp only [repOf_same ex hd ht hs]
    rw [v1, bind_mk]
    simp only [repOf_same ey hd ht hs, pyBeq_refl hl]
    rfl
  unfold mAndV
  rw [e1, bind_mk]
  show (R.ok true h).bind _ = _
  rw [bind_mk, if_pos rfl, e2]
/-- a list of ints -/
theorem mapO_ints (n : Nat) (h : EH) : ∀ ns : List Int, mapO (vpy n h) (ns.map fun i => Val.d (.int i)) = some (ns.map PyData.int)
  | [] => rfl
  | i :: r => by
    have e : vpy n h (.d (.int i)) = some (.int i) := by cases n <;> rfl
    rw [List.map_cons]
    unfold mapO
    rw [e, mapO_ints n h r]
    rfl
theorem vpy_ints {h : EH} {n : Nat} {ns : List Int} (e : h[n]? = some (.lst (ns.map fun i => .d (.int i)))) : vpy 32 h (.r n) = some (.list (ns.map PyData.int)) := by
  show (match h[n]? with
      | some (.lst xs) => (mapO (vpy 31 h) xs).map PyData.list
      | _ => none) = _
  rw [e]
  show (mapO (vpy 31 h) (ns.map fun i => Val.d (.int i))).map PyData.list = _
  rw [mapO_ints]
  rfl
theorem ints_lay : ∀ ns : List Int, PyData.canLayAll0 (ns.map PyData.int) = true
  | [] => rfl
  | i :: r => ints_lay r
theorem ints_depth : ∀ ns : List Int, PyData.depthAll (ns.map PyData.int) = 0
  | [] => rfl
  | i :: r => by
    show max (PyData.depth (.int i)) (PyData.depthAll (r.map PyData.int)) = 0
    rw [ints_depth r]
    rfl
theorem ints_txt {k : Nat} (hk : k ≤ 1000) : ∀ {ns : List Int}, (∀ i, i ∈ ns → i.natAbs < 2 ^ k) → txtOks (ns.map PyData.int) = true ∧ txtSzs (ns.map PyData.int) ≤ (k + 4) * ns.length
  | [], _ => ⟨rfl, Nat.zero_le _⟩
  | i :: r, p => by
    obtain ⟨a, b⟩ := ints_txt hk (ns := r) fun j m => p j (List.mem_cons_of_mem _ m)
    have hi := p i (List.mem_cons_self ..)
    have l : i.natAbs.log2 ≤ k := by
      by_cases z : i.natAbs = 0
      · rw [z]
        simp
      · exact Nat.le_of_lt ((Nat.log2_lt z).mpr hi)
    refine ⟨?_, ?_⟩
    · show (txtOk (.int i) && txtOks (r.map PyData.int)) = true
      rw [a, show txtOk (.int i) = true from Nat.ble_eq_true_of_le (by omega)]
      rfl
    · show i.natAbs.log2 + 2 + 2 + txtSzs (r.map PyData.int) ≤ (k + 4) * (r.length + 1)
      rw [Nat.mul_add]
      omega
theorem alike_ints {h : EH} {m n : Nat} {ns : List Int} (em : h[m]? = some (.lst (ns.map fun i => .d (.int i)))) (en : h[n]? = some (.lst (ns.map fun i => .d (.int i)))) (hl : ns.length ≤ 10000) (hb : ∀ i, i ∈ ns → i.natAbs < 2 ^ 1000) : fnOf 2 2 alikeB [.r m, .r n] h = .ok (.d (.bl true)) h := by
  obtain ⟨a, b⟩ := ints_txt (k := 1000) (Nat.le_refl _) hb
  refine alike_ok (vpy_ints em) (vpy_ints en) (ints_lay ns) ?_ a ?_
  · show PyData.depthAll (ns.map PyData.int) + 1 ≤ 60
    rw [ints_depth]
    omega
  · show txtSzs (ns.map PyData.int) + 3 ≤ 16777216
    omega
end Ev

set_option linter.all false
set_option maxRecDepth 100000
set_option maxHeartbeats 0
namespace K73
open PySem PySem.Spec PyProof.Rows L2 Ev PySem.F
/-! ### the text -/
def top (i : Nat) : Stmt := PySem.Challenge.pw_scaledcode_k73_wide_rails_of_many_wires.main.body.getD i (.Pass ⟨0, 0, 0, 0⟩)
def mem (s : Stmt) (j : Nat) : Stmt := match s with
  | .ClassDef _ _ _ b _ _ _ _ _ _ _ => b.getD j (.Pass ⟨0, 0, 0, 0⟩)
  | _ => .Pass ⟨0, 0, 0, 0⟩
abbrev wd : Nat := 1000000
abbrev cs : List Str := ["Board"]
abbrev as : List Str := ["its_wires", "its_known", "its_gates", "put", "constant", "number", "doubled", "word_of", "turned", "with_constant", "gate", "stretched", "summed", "less_by", "product", "less", "added", "is_below", "halved", "chosen", "is_wide", "net"]
abbrev C_Board : Nat := 0
abbrev F_its_wires : Nat := 0
abbrev F_its_known : Nat := 1
abbrev F_its_gates : Nat := 2
abbrev F_put : Nat := 3
abbrev F_constant : Nat := 4
abbrev F_number : Nat := 5
abbrev F_doubled : Nat := 6
abbrev F_word_of : Nat := 7
abbrev F_turned : Nat := 8
abbrev F_with_constant : Nat := 9
abbrev F_gate : Nat := 10
abbrev F_stretched : Nat := 11
abbrev F_summed : Nat := 12
abbrev F_less_by : Nat := 13
abbrev F_product : Nat := 14
abbrev F_less : Nat := 15
abbrev F_added : Nat := 16
abbrev F_is_below : Nat := 17
abbrev F_halved : Nat := 18
abbrev F_chosen : Nat := 19
abbrev F_is_wide : Nat := 20
abbrev F_net : Nat := 21
abbrev k0_one : List Nat := [111, 110, 101]
theorem k0_one_ok : (Str.ofString "one").cps.toList = k0_one := by decide +kernel
abbrev k1_zero : List Nat := [122, 101, 114, 111]
theorem k1_zero_ok : (Str.ofString "zero").cps.toList = k1_zero := by decide +kernel
abbrev k2_not : List Nat := [110, 111, 116]
theorem k2_not_ok : (Str.ofString "not").cps.toList = k2_not := by decide +kernel
abbrev k3_xor : List Nat := [120, 111, 114]
theorem k3_xor_ok : (Str.ofString "xor").cps.toList = k3_xor := by decide +kernel
abbrev k4_and : List Nat := [97, 110, 100]
theorem k4_and_ok : (Str.ofString "and").cps.toList = k4_and := by decide +kernel
abbrev k5_or : List Nat := [111, 114]
theorem k5_or_ok : (Str.ofString "or").cps.toList = k5_or := by decide +kernel
abbrev T_SIZES : List (List Nat × Int) := [([97, 110, 100], 2), ([111, 114], 2), ([120, 111, 114], 2), ([110, 111, 116], 1), ([111, 110, 101], 0), ([122, 101, 114, 111], 0)]
def fa : List He.Fa := [.free "abs", .glo "_law_bag", .free "int", .glo "_law_take", .glo "Board", .mkr "Board", .free "tuple", .free "range", .free "len", .meth "Board" "put", .str "ONE" "one", .str "ZERO" "zero", .meth "Board" "constant", .glo "bit_at", .meth "Board" "number", .free "enumerate", .meth "Board" "doubled", .str "NOT" "not", .meth "Board" "word_of", .meth "Board" "turned", .free "max", .free "min", .meth "Board" "with_constant", .meth "Board" "gate", .free "zip", .meth "Board" "stretched", .meth "Board" "summed", .meth "Board" "less_by", .meth "Board" "product", .meth "Board" "less", .meth "Board" "added", .meth "Board" "is_below", .meth "Board" "halved", .meth "Board" "chosen", .meth "Board" "is_wide", .meth "Board" "net", .free "repr", .glo "_law_alike", .free "isinstance", .int "PARTS" 3, .free "bool", .glo "is_integer", .free "str", .glo "SIZES", .free "all", .glo "are_integers", .glo "is_gate", .glo "checked_net", .glo "depth", .glo "_law_two", .glo "_law_some", .free "list", .glo "driven", .glo "flow", .glo "_law_bits", .glo "_law_integer", .glo "law"]
abbrev st__law_bag : Stmt := top 20
def d__law_bag : He.DefD := ⟨("_law_bag", none), "_law_bag", "_law_bag", defArgs st__law_bag, defBody st__law_bag, defScope st__law_bag, [], []⟩
abbrev st__law_take : Stmt := top 21
def d__law_take : He.DefD := ⟨("_law_take", none), "_law_take", "_law_take", defArgs st__law_take, defBody st__law_take, defScope st__law_take, [], []⟩
abbrev st_Board___init__ : Stmt := mem (top 18) 0
def d_Board___init__ : He.DefD := ⟨("Board", some "__init__"), "__init__", "Board.__init__", defArgs st_Board___init__, defBody st_Board___init__, defScope st_Board___init__, [], []⟩
abbrev st_Board_put : Stmt := mem (top 18) 1
def d_Board_put : He.DefD := ⟨("Board", some "put"), "put", "Board.put", defArgs st_Board_put, defBody st_Board_put, defScope st_Board_put, [], []⟩
abbrev st_Board_constant : Stmt := mem (top 18) 2
def d_Board_constant : He.DefD := ⟨("Board", some "constant"), "constant", "Board.constant", defArgs st_Board_constant, defBody st_Board_constant, defScope st_Board_constant, [], []⟩
abbrev st_bit_at : Stmt := top 17
def d_bit_at : He.DefD := ⟨("bit_at", none), "bit_at", "bit_at", defArgs st_bit_at, defBody st_bit_at, defScope st_bit_at, [], []⟩
abbrev st_Board_number : Stmt := mem (top 18) 7
def d_Board_number : He.DefD := ⟨("Board", some "number"), "number", "Board.number", defArgs st_Board_number, defBody st_Board_number, defScope st_Board_number, [], []⟩
abbrev st_Board_doubled : Stmt := mem (top 18) 15
def d_Board_doubled : He.DefD := ⟨("Board", some "doubled"), "doubled", "Board.doubled", defArgs st_Board_doubled, defBody st_Board_doubled, defScope st_Board_doubled, [], []⟩
abbrev st_Board_word_of : Stmt := mem (top 18) 3
def d_Board_word_of : He.DefD := ⟨("Board", some "word_of"), "word_of", "Board.word_of", defArgs st_Board_word_of, defBody st_Board_word_of, defScope st_Board_word_of, [], []⟩
abbrev st_Board_turned : Stmt := mem (top 18) 4
def d_Board_turned : He.DefD := ⟨("Board", some "turned"), "turned", "Board.turned", defArgs st_Board_turned, defBody st_Board_turned, defScope st_Board_turned, [], []⟩
abbrev st_Board_with_constant : Stmt := mem (top 18) 5
def d_Board_with_constant : He.DefD := ⟨("Board", some "with_constant"), "with_constant", "Board.with_constant", defArgs st_Board_with_constant, defBody st_Board_with_constant, defScope st_Board_with_constant, [], []⟩
abbrev st_Board_gate : Stmt := mem (top 18) 6
def d_Board_gate : He.DefD := ⟨("Board", some "gate"), "gate", "Board.gate", defArgs st_Board_gate, defBody st_Board_gate, defScope st_Board_gate, [.non], []⟩
abbrev st_Board_stretched : Stmt := mem (top 18) 8
def d_Board_stretched : He.DefD := ⟨("Board", some "stretched"), "stretched", "Board.stretched", defArgs st_Board_stretched, defBody st_Board_stretched, defScope st_Board_stretched, [], []⟩
abbrev st_Board_summed : Stmt := mem (top 18) 9
def d_Board_summed : He.DefD := ⟨("Board", some "summed"), "summed", "Board.summed", defArgs st_Board_summed, defBody st_Board_summed, defScope st_Board_summed, [], []⟩
abbrev st_Board_less_by : Stmt := mem (top 18) 11
def d_Board_less_by : He.DefD := ⟨("Board", some "less_by"), "less_by", "Board.less_by", defArgs st_Board_less_by, defBody st_Board_less_by, defScope st_Board_less_by, [], []⟩
abbrev st_Board_product : Stmt := mem (top 18) 13
def d_Board_product : He.DefD := ⟨("Board", some "product"), "product", "Board.product", defArgs st_Board_product, defBody st_Board_product, defScope st_Board_product, [], []⟩
abbrev st_Board_less : Stmt := mem (top 18) 12
def d_Board_less : He.DefD := ⟨("Board", some "less"), "less", "Board.less", defArgs st_Board_less, defBody st_Board_less, defScope st_Board_less, [], []⟩
abbrev st_Board_added : Stmt := mem (top 18) 10
def d_Board_added : He.DefD := ⟨("Board", some "added"), "added", "Board.added", defArgs st_Board_added, defBody st_Board_added, defScope st_Board_added, [], []⟩
abbrev st_Board_is_below : Stmt := mem (top 18) 16
def d_Board_is_below : He.DefD := ⟨("Board", some "is_below"), "is_below", "Board.is_below", defArgs st_Board_is_below, defBody st_Board_is_below, defScope st_Board_is_below, [], []⟩
abbrev st_Board_halved : Stmt := mem (top 18) 14
def d_Board_halved : He.DefD := ⟨("Board", some "halved"), "halved", "Board.halved", defArgs st_Board_halved, defBody st_Board_halved, defScope st_Board_halved, [], []⟩
abbrev st_Board_chosen : Stmt := mem (top 18) 17
def d_Board_chosen : He.DefD := ⟨("Board", some "chosen"), "chosen", "Board.chosen", defArgs st_Board_chosen, defBody st_Board_chosen, defScope st_Board_chosen, [], []⟩
abbrev st_Board_is_wide : Stmt := mem (top 18) 18
def d_Board_is_wide : He.DefD := ⟨("Board", some "is_wide"), "is_wide", "Board.is_wide", defArgs st_Board_is_wide, defBody st_Board_is_wide, defScope st_Board_is_wide, [], []⟩
abbrev st_Board_net : Stmt := mem (top 18) 19
def d_Board_net : He.DefD := ⟨("Board", some "net"), "net", "Board.net", defArgs st_Board_net, defBody st_Board_net, defScope st_Board_net, [], []⟩
abbrev st__law_alike : Stmt := top 23
def d__law_alike : He.DefD := ⟨("_law_alike", none), "_law_alike", "_law_alike", defArgs st__law_alike, defBody st__law_alike, defScope st__law_alike, [], []⟩
abbrev st_is_integer : Stmt := top 4
def d_is_integer : He.DefD := ⟨("is_integer", none), "is_integer", "is_integer", defArgs st_is_integer, defBody st_is_integer, defScope st_is_integer, [], []⟩
abbrev st_are_integers : Stmt := top 5
def d_are_integers : He.DefD := ⟨("are_integers", none), "are_integers", "are_integers", defArgs st_are_integers, defBody st_are_integers, defScope st_are_integers, [], []⟩
abbrev st_is_gate : Stmt := top 12
def d_is_gate : He.DefD := ⟨("is_gate", none), "is_gate", "is_gate", defArgs st_is_gate, defBody st_is_gate, defScope st_is_gate, [], []⟩
abbrev st_checked_net : Stmt := top 13
def d_checked_net : He.DefD := ⟨("checked_net", none), "checked_net", "checked_net", defArgs st_checked_net, defBody st_checked_net, defScope st_checked_net, [], []⟩
abbrev st_depth : Stmt := top 16
def d_depth : He.DefD := ⟨("depth", none), "depth", "depth", defArgs st_depth, defBody st_depth, defScope st_depth, [], []⟩
abbrev st__law_two : Stmt := top 24
def d__law_two : He.DefD := ⟨("_law_two", none), "_law_two", "_law_two", defArgs st__law_two, defBody st__law_two, defScope st__law_two, [], []⟩
abbrev st__law_some : Stmt := top 22
def d__law_some : He.DefD := ⟨("_law_some", none), "_law_some", "_law_some", defArgs st__law_some, defBody st__law_some, defScope st__law_some, [], []⟩
abbrev st_driven : Stmt := top 14
def d_driven : He.DefD := ⟨("driven", none), "driven", "driven", defArgs st_driven, defBody st_driven, defScope st_driven, [], []⟩
abbrev st_flow : Stmt := top 15
def d_flow : He.DefD := ⟨("flow", none), "flow", "flow", defArgs st_flow, defBody st_flow, defScope st_flow, [], []⟩
abbrev st__law_bits : Stmt := top 25
def d__law_bits : He.DefD := ⟨("_law_bits", none), "_law_bits", "_law_bits", defArgs st__law_bits, defBody st__law_bits, defScope st__law_bits, [], []⟩
abbrev st__law_integer : Stmt := top 26
def d__law_integer : He.DefD := ⟨("_law_integer", none), "_law_integer", "_law_integer", defArgs st__law_integer, defBody st__law_integer, defScope st__law_integer, [], []⟩
abbrev st_law : Stmt := top 27
def d_law : He.DefD := ⟨("law", none), "law", "law", defArgs st_law, defBody st_law, defScope st_law, [], []⟩
def fn : List He.DefD := [d__law_bag, d__law_take, d_Board___init__, d_Board_put, d_Board_constant, d_bit_at, d_Board_number, d_Board_doubled, d_Board_word_of, d_Board_turned, d_Board_with_constant, d_Board_gate, d_Board_stretched, d_Board_summed, d_Board_less_by, d_Board_product, d_Board_less, d_Board_added, d_Board_is_below, d_Board_halved, d_Board_chosen, d_Board_is_wide, d_Board_net, d__law_alike, d_is_integer, d_are_integers, d_is_gate, d_checked_net, d_depth, d__law_two, d__law_some, d_driven, d_flow, d__law_bits, d__law_integer, d_law]
def ts : List He.Tab := [(fun K => He.ga K "SIZES", ["and", "or", "xor", "not", "one", "zero"])]
def bs : List (PySem.W.Frag → Bool) := [clsB cs (as.take 3), tabB (fun K => He.ga K "SIZES") T_SIZES]
abbrev Sx (K : PySem.W.Frag) (mg : Str → Option Value) (w : World) := Fx fa fn ts bs K mg w
abbrev Gk (K : PySem.W.Frag) : Cg := cgOf K cs as
section
variable {P : Program} {w : World} {K : PySem.W.Frag} {mg : Str → Option Value} {base : Heap} {X : Cx} {W : WX}
theorem hL (S : Sx K mg w) : Cl K cs as 3 := ⟨by decide +kernel, S.b 0 rfl⟩
/-! ### _law_bag -/
abbrev N__law_bag : List Str := ["script", "cell"]
abbrev kn__law_bag : List (Option NameKind) := [some .local, none]
abbrev gl__law_bag : List Str := []
abbrev kn__law_bag_0 : List (Option NameKind) := [none, some .local]
abbrev gl__law_bag_0 : List Str := ["abs"]
def b__law_bag : MS := (sSeq (sRet (mLst (mCons (mCst (.d (.int 0))) (mCons (mCst (.d (.int 1234567891))) (mCons (mCst (.d (.int 0))) (mCons (mComp wd (iVal (mSlice (mVar 0) (mPart none) (mPart (some (mCst (.d (.int 63))))))) (.one 1) mYes (mOp bAbs (mCons (mVar 1) mNil)) [1]) mNil)))))) sNext)
def m__law_bag : Fn := fnOf 1 2 b__law_bag
theorem wk__law_bag (C : CuS X N__law_bag kn__law_bag gl__law_bag 0 W) (S : Sx X.K X.mg X.w) : PSs X (defBody st__law_bag) (rdS X.K (Gk X.K) W b__law_bag) :=
  have C := C
  (rss_cons (rs_ret (re_lst (ra_cons (star_ok rfl) (re_int) (ra_cons (star_ok rfl) (re_int) (ra_cons (star_ok rfl) (re_int) (ra_cons (star_ok rfl) (C.lc (kn' := kn__law_bag_0) (gl' := gl__law_bag_0) (own := [("cell", 1)]) (w := wd) (t := (.one 1)) (by decide +kernel) rfl rfl (pi_val (re_slice (C.v 0 rfl rfl rfl) ro_none (ro_some (re_int)))) (fun X' _ C => C.tg 1 rfl rfl rfl) (fun _ _ _ _ _ C => ts_nil) (fun _ _ _ _ _ C => (C.bf 0 (c_abs) rfl (S.free 0 rfl) boot_abs rfl (ra_cons (star_ok rfl) (C.v 1 rfl rfl rfl) ra_nil)))) ra_nil)))))) rss_nil)
theorem sc__law_bag : FnScope N__law_bag ["script"] (defScope st__law_bag) := ⟨rfl, rfl, rfl, by decide +kernel, rfl, by decide +kernel, by decide +kernel⟩
theorem ok__law_bag (S : Sx K mg w) : Cal P w K mg base (Gk K) 1 (He.ga K "_law_bag") m__law_bag [] := by
  obtain ⟨fd, F⟩ := S.d.def_ 0 (d := d__law_bag) rfl
  exact ⟨fd, _, [], [], fn_ok F sc__law_bag fun X W e1 e2 e3 e4 e5 C => by subst e1 e2 e3 e4 e5; exact wk__law_bag (C.cu (by decide +kernel)) S, F.bindsN (fun _ _ _ _ _ _ us hl => match us, hl with | [_], _ => rfl), .nil, fun _ => rfl, F.kp⟩
/-! ### _law_take -/
abbrev N__law_take : List Str := ["bag", "many", "cell", "stirred", "value", "begin", "second"]
abbrev kn__law_take : List (Option NameKind) := [some .local, some .local, some .local, some .local, some .local, some .local, some .local]
abbrev gl__law_take : List Str := ["int"]
def b__law_take : MS := (sSeq (sIf (mB (m2 opEq (mIdx (mVar 0) (mCst (.d (.int 0)))) (mCst (.d (.int 0))))) (sSeq (sAsg (mIdx (m2 opAdd (mSlice (mIdx (mVar 0) (mCst (.d (.int 3)))) (mPart (some (mIdx (mVar 0) (mCst (.d (.int 2)))))) (mPart none)) (mLst (mCons (mCst (.d (.int 0))) mNil))) (mCst (.d (.int 0)))) (tgName 2)) (sSeq (sAugS (mVar 0) (mCst (.d (.int 2))) ipAdd (mCst (.d (.int 1)))) (sSeq (sIf (mB (m2 opGe (mVar 2) (m2 opPow (mCst (.d (.int 10))) (mCst (.d (.int 18)))))) (sSeq (sAsg (mVar 2) (mSub (mVar 0) (mCst (.d (.int 0))))) sNext) sNext) (sSeq (sAsg (m2 opAdd (m2 opAdd (m2 opMul (mIdx (mVar 0) (mCst (.d (.int 1)))) (mCst (.d (.int 48271)))) (m2 opMod (mOp bInt (mCons (mVar 2) mNil)) (mCst (.d (.int 2147483647))))) (m2 opMul (mCst (.d (.int 7919))) (mIdx (mVar 0) (mCst (.d (.int 2)))))) (tgName 3)) (sSeq (sAsg (m2 opMod (mOp bInt (mCons (mVar 3) mNil)) (mCst (.d (.int 2147483647)))) (mSub (mVar 0) (mCst (.d (.int 1))))) sNext))))) sNext) (sSeq (sIf (mB (m2 opGt (mIdx (mVar 0) (mCst (.d (.int 0)))) (mCst (.d (.int 0))))) (sSeq (sAsg (m2 opMod (mOp bInt (mCons (mIdx (mVar 0) (mCst (.d (.int 0)))) mNil)) (mVar 1)) (tgName 4)) (sSeq (sAsg (m2 opFdiv (mOp bInt (mCons (mIdx (mVar 0) (mCst (.d (.int 0)))) mNil)) (mVar 1)) (mSub (mVar 0) (mCst (.d (.int 0))))) (sSeq (sRet (mVar 4)) sNext))) sNext) (sSeq (sAsg (m2 opMod (mOp bInt (mCons (m2 opMul (m2 opAdd (mIdx (mVar 0) (mCst (.d (.int 1)))) (mCst (.d (.int 1)))) (mCst (.d (.int 39373)))) mNil)) (mCst (.d (.int 1000000007)))) (tgName 5)) (sSeq (sAsg (m2 opMod (mOp bInt (mCons (m2 opMul (m2 opMod (mOp bInt (mCons (m2 opMul (mVar 5) (mVar 5)) mNil)) (mCst (.d (.int 998244353)))) (mCst (.d (.int 30011)))) mNil)) (mCst (.d (.int 998244353)))) (tgName 6)) (sSeq (sRet (m2 opMod (mOp bInt (mCons (m2 opFdiv (mVar 6) (mCst (.d (.int 7)))) mNil)) (mVar 1))) sNext)))))
def m__law_take : Fn := fnOf 2 7 b__law_take
theorem wk__law_take (C : CuS X N__law_take kn__law_take gl__law_take 0 W) (S : Sx X.K X.mg X.w) : PSs X (defBody st__law_take) (rdS X.K (Gk X.K) W b__law_take) :=
  have C := C
  (rss_cons (rs_if (rt_cmp (op2_eq C.u64) (re_idx C.u1 (ix_ok rfl) (C.v 0 rfl rfl rfl) (re_int)) (re_int) (beh_ok rfl)) (rss_cons (rs_asg (sws_ok rfl) (swt_ok rfl) rfl (re_idx C.u1 (ix_ok rfl) (re_op2 op2_add (re_slice (re_idx C.u1 (ix_ok rfl) (C.v 0 rfl rfl rfl) (re_int)) (ro_some (re_idx C.u1 (ix_ok rfl) (C.v 0 rfl rfl rfl) (re_int))) ro_none) (re_lst (ra_cons (star_ok rfl) (re_int) ra_nil))) (re_int)) (C.t 2 rfl rfl rfl)) (rss_cons (rs_augS C.u1 (aug_ok rfl) (C.v 0 rfl rfl rfl) (re_int) op2_iadd (re_int)) (rss_cons (rs_if (rt_cmp op2_ge (C.v 2 rfl rfl rfl) (re_op2 op2_pow (re_int) (re_int)) (beh_ok rfl)) (rss_cons (rs_asg (swsN_ok rfl) (swt_ok rfl) rfl (C.v 2 rfl rfl rfl) (rg_sub C.u1 (C.v 0 rfl rfl rfl) (re_int))) rss_nil) rss_nil) (rss_cons (rs_asg (sws_ok rfl) (swt_ok rfl) rfl (re_op2 op2_add (re_op2 op2_add (re_op2 op2_mul (re_idx C.u1 (ix_ok rfl) (C.v 0 rfl rfl rfl) (re_int)) (re_int)) (re_op2 op2_mod (C.bT 0 (c_int) rfl (S.free 2 rfl) boot_int rfl (ra_cons (star_ok rfl) (C.v 2 rfl rfl rfl) ra_nil)) (re_int))) (re_op2 op2_mul (re_int) (re_idx C.u1 (ix_ok rfl) (C.v 0 rfl rfl rfl) (re_int)))) (C.t 3 rfl rfl rfl)) (rss_cons (rs_asg (swsN_ok rfl) (swt_ok rfl) rfl (re_op2 op2_mod (C.bT 0 (c_int) rfl (S.free 2 rfl) boot_int rfl (ra_cons (star_ok rfl) (C.v 3 rfl rfl rfl) ra_nil)) (re_int)) (rg_sub C.u1 (C.v 0 rfl rfl rfl) (re_int))) rss_nil))))) rss_nil) (rss_cons (rs_if (rt_cmp op2_gt (re_idx C.u1 (ix_ok rfl) (C.v 0 rfl rfl rfl) (re_int)) (re_int) (beh_ok rfl)) (rss_cons (rs_asg (sws_ok rfl) (swt_ok rfl) rfl (re_op2 op2_mod (C.bT 0 (c_int) rfl (S.free 2 rfl) boot_int rfl (ra_cons (star_ok rfl) (re_idx C.u1 (ix_ok rfl) (C.v 0 rfl rfl rfl) (re_int)) ra_nil)) (C.v 1 rfl rfl rfl)) (C.t 4 rfl rfl rfl)) (rss_cons (rs_asg (swsN_ok rfl) (swt_ok rfl) rfl (re_op2 op2_fdiv (C.bT 0 (c_int) rfl (S.free 2 rfl) boot_int rfl (ra_cons (star_ok rfl) (re_idx C.u1 (ix_ok rfl) (C.v 0 rfl rfl rfl) (re_int)) ra_nil)) (C.v 1 rfl rfl rfl)) (rg_sub C.u1 (C.v 0 rfl rfl rfl) (re_int))) (rss_cons (rs_ret (C.v 4 rfl rfl rfl)) rss_nil))) rss_nil) (rss_cons (rs_asg (sws_ok rfl) (swt_ok rfl) rfl (re_op2 op2_mod (C.bT 0 (c_int) rfl (S.free 2 rfl) boot_int rfl (ra_cons (star_ok rfl) (re_op2 op2_mul (re_op2 op2_add (re_idx C.u1 (ix_ok rfl) (C.v 0 rfl rfl rfl) (re_int)) (re_int)) (re_int)) ra_nil)) (re_int)) (C.t 5 rfl rfl rfl)) (rss_cons (rs_asg (sws_ok rfl) (swt_ok rfl) rfl (re_op2 op2_mod (C.bT 0 (c_int) rfl (S.free 2 rfl) boot_int rfl (ra_cons (star_ok rfl) (re_op2 op2_mul (re_op2 op2_mod (C.bT 0 (c_int) rfl (S.free 2 rfl) boot_int rfl (ra_cons (star_ok rfl) (re_op2 op2_mul (C.v 5 rfl rfl rfl) (C.v 5 rfl rfl rfl)) ra_nil)) (re_int)) (re_int)) ra_nil)) (re_int)) (C.t 6 rfl rfl rfl)) (rss_cons (rs_ret (re_op2 op2_mod (C.bT 0 (c_int) rfl (S.free 2 rfl) boot_int rfl (ra_cons (star_ok rfl) (re_op2 op2_fdiv (C.v 6 rfl rfl rfl) (re_int)) ra_nil)) (C.v 1 rfl rfl rfl))) rss_nil)))))
theorem sc__law_take : FnScope N__law_take ["bag", "many"] (defScope st__law_take) := ⟨rfl, rfl, rfl, by decide +kernel, rfl, by decide +kernel, by decide +kernel⟩
theorem ok__law_take (S : Sx K mg w) : Cal P w K mg base (Gk K) 1 (He.ga K "_law_take") m__law_take [] := by
  obtain ⟨fd, F⟩ := S.d.def_ 1 (d := d__law_take) rfl
  exact ⟨fd, _, [], [], fn_ok F sc__law_take fun X W e1 e2 e3 e4 e5 C => by subst e1 e2 e3 e4 e5; exact wk__law_take (C.cu (by decide +kernel)) S, F.bindsN (fun _ _ _ _ _ _ us hl => match us, hl with | [_, _], _ => rfl), .nil, fun _ => rfl, F.kp⟩
/-! ### Board.__init__ -/
abbrev N_Board___init__ : List Str := ["self", "wires"]
abbrev kn_Board___init__ : List (Option NameKind) := [some .local, some .local]
abbrev gl_Board___init__ : List Str := []
def b_Board___init__ : MS := (sSeq (sAsg (mVar 1) (mAtt (mVar 0) F_its_wires)) (sSeq (sAsg (mTup (mCons (mLst mNil) (mCons (mDt) mNil))) (tgTup 2 (tgCons (mAtt (mVar 0) F_its_gates) (tgCons (mAtt (mVar 0) F_its_known) tgNil)))) sNext))
def m_Board___init__ : Fn := fnOf 2 2 b_Board___init__
theorem wk_Board___init__ (C : CuS X N_Board___init__ kn_Board___init__ gl_Board___init__ 0 W) (S : Sx X.K X.mg X.w) : PSs X (defBody st_Board___init__) (rdS X.K (Gk X.K) W b_Board___init__) :=
  have C := C
  (rss_cons (rs_asg (swsN_ok rfl) (swt_ok rfl) rfl (C.v 1 rfl rfl rfl) (Cu.tf (hL S) F_its_wires rfl rfl (C.v 0 rfl rfl rfl))) (rss_cons (rs_asg (swsN_ok rfl) (swx_ok rfl) rfl (re_tup (ra_cons (star_ok rfl) (re_lst ra_nil) (ra_cons (star_ok rfl) (re_dt) ra_nil))) (rg_tup C.calm rfl rfl (rgs_cons rfl (Cu.tf (hL S) F_its_gates rfl rfl (C.v 0 rfl rfl rfl)) (rgs_cons rfl (Cu.tf (hL S) F_its_known rfl rfl (C.v 0 rfl rfl rfl)) rgs_nil)))) rss_nil))
theorem sc_Board___init__ : FnScope N_Board___init__ ["self", "wires"] (defScope st_Board___init__) := ⟨rfl, rfl, rfl, by decide +kernel, rfl, by decide +kernel, by decide +kernel⟩
theorem ok_Board___init__ (S : Sx K mg w) : Cal P w K mg base (Gk K) 1 (He.ma K (He.ga K "Board") "__init__") m_Board___init__ [] := by
  obtain ⟨fd, F⟩ := S.d.def_ 2 (d := d_Board___init__) rfl
  exact ⟨fd, _, [], [], fn_ok F sc_Board___init__ fun X W e1 e2 e3 e4 e5 C => by subst e1 e2 e3 e4 e5; exact wk_Board___init__ (C.cu (by decide +kernel)) S, F.bindsN (fun _ _ _ _ _ _ us hl => match us, hl with | [_, _], _ => rfl), .nil, fun _ => rfl, F.kp⟩
/-! ### Board.put -/
abbrev N_Board_put : List Str := ["self", "gate"]
abbrev kn_Board_put : List (Option NameKind) := [some .local, some .local]
abbrev gl_Board_put : List Str := ["len"]
def b_Board_put : MS := (sSeq (sIf (mB (m2 opNotIn (mVar 1) (mFld (mVar 0) F_its_known))) (sSeq (sAsg (m2 opAdd (mFld (mVar 0) F_its_wires) (mOp bLen (mCons (mFld (mVar 0) F_its_gates) mNil))) (mSub (mFld (mVar 0) F_its_known) (mVar 1))) (sSeq (sExpr (mBM 4 lAppend (mFld (mVar 0) F_its_gates) (mCons (mVar 1) mNil))) sNext)) sNext) (sSeq (sRet (mIdx (mFld (mVar 0) F_its_known) (mVar 1))) sNext))
def m_Board_put : Fn := fnOf 2 2 b_Board_put
theorem wk_Board_put (C : CuS X N_Board_put kn_Board_put gl_Board_put 0 W) (S : Sx X.K X.mg X.w) : PSs X (defBody st_Board_put) (rdS X.K (Gk X.K) W b_Board_put) :=
  have C := C
  (rss_cons (rs_if (rt_cmp (op2_notIn C.u1) (C.v 1 rfl rfl rfl) (Cu.f (hL S) F_its_known rfl rfl (base_ok rfl) (C.v 0 rfl rfl rfl)) (beh_ok rfl)) (rss_cons (rs_asg (swsN_ok rfl) (swt_ok rfl) rfl (re_op2 op2_add (Cu.f (hL S) F_its_wires rfl rfl (base_ok rfl) (C.v 0 rfl rfl rfl)) (C.bf 0 (c_len) rfl (S.free 8 rfl) boot_len rfl (ra_cons (star_ok rfl) (Cu.f (hL S) F_its_gates rfl rfl (base_ok rfl) (C.v 0 rfl rfl rfl)) ra_nil))) (rg_sub C.u1 (Cu.f (hL S) F_its_known rfl rfl (base_ok rfl) (C.v 0 rfl rfl rfl)) (C.v 1 rfl rfl rfl))) (rss_cons (rs_expr (swp_ok rfl) (Cu.bm (t := 4) (.inr (.inl rfl)) plainAttrs_list PySem.F.slot_list_append rfl m_lAppend (base_ok rfl) rfl rfl rfl (Cu.f (hL S) F_its_gates rfl rfl (base_ok rfl) (C.v 0 rfl rfl rfl)) (ra_cons (star_ok rfl) (C.v 1 rfl rfl rfl) ra_nil))) rss_nil)) rss_nil) (rss_cons (rs_ret (re_idx C.u1 (ix_ok rfl) (Cu.f (hL S) F_its_known rfl rfl (base_ok rfl) (C.v 0 rfl rfl rfl)) (C.v 1 rfl rfl rfl))) rss_nil))
theorem sc_Board_put : FnScope N_Board_put ["self", "gate"] (defScope st_Board_put) := ⟨rfl, rfl, rfl, by decide +kernel, rfl, by decide +kernel, by decide +kernel⟩
theorem ok_Board_put (S : Sx K mg w) : Cal P w K mg base (Gk K) 1 (He.ma K (He.ga K "Board") "put") m_Board_put [] := by
  obtain ⟨fd, F⟩ := S.d.def_ 3 (d := d_Board_put) rfl
  exact ⟨fd, _, [], [], fn_ok F sc_Board_put fun X W e1 e2 e3 e4 e5 C => by subst e1 e2 e3 e4 e5; exact wk_Board_put (C.cu (by decide +kernel)) S, F.bindsN (fun _ _ _ _ _ _ us hl => match us, hl with | [_, _], _ => rfl), .nil, fun _ => rfl, F.kp⟩
/-! ### Board.constant -/
abbrev N_Board_constant : List Str := ["self", "bit"]
abbrev kn_Board_constant : List (Option NameKind) := [some .local, some .local]
abbrev gl_Board_constant : List Str := ["ONE", "ZERO"]
def b_Board_constant : MS := (sSeq (sRet (mMeth C_Board F_put m_Board_put [] (mVar 0) (mCons (mTup (mCons (mIf (mB (m2 opEq (mVar 1) (mCst (.d (.int 1))))) (mCst (.d (.str k0_one))) (mCst (.d (.str k1_zero)))) mNil)) mNil))) sNext)
def m_Board_constant : Fn := fnOf 2 2 b_Board_constant
theorem wk_Board_constant (C : CuS X N_Board_constant kn_Board_constant gl_Board_constant 1 W) (S : Sx X.K X.mg X.w) : PSs X (defBody st_Board_constant) (rdS X.K (Gk X.K) W b_Board_constant) :=
  have C := C
  (rss_cons (rs_ret (C.m (hL S) C_Board rfl F_put rfl (S.meth 9 rfl) (ok_Board_put S) rfl rfl rfl (C.v 0 rfl rfl rfl) (ra_cons (star_ok rfl) (re_tup (ra_cons (star_ok rfl) (re_if (rt_cmp (op2_eq C.u64) (C.v 1 rfl rfl rfl) (re_int) (beh_ok rfl)) (C.gsL 0 rfl (S.str 10 rfl) k0_one_ok) (C.gsL 1 rfl (S.str 11 rfl) k1_zero_ok)) ra_nil)) ra_nil))) rss_nil)
theorem sc_Board_constant : FnScope N_Board_constant ["self", "bit"] (defScope st_Board_constant) := ⟨rfl, rfl, rfl, by decide +kernel, rfl, by decide +kernel, by decide +kernel⟩
theorem ok_Board_constant (S : Sx K mg w) : Cal P w K mg base (Gk K) 2 (He.ma K (He.ga K "Board") "constant") m_Board_constant [] := by
  obtain ⟨fd, F⟩ := S.d.def_ 4 (d := d_Board_constant) rfl
  exact ⟨fd, _, [], [], fn_ok F sc_Board_constant fun X W e1 e2 e3 e4 e5 C => by subst e1 e2 e3 e4 e5; exact wk_Board_constant (C.cu (by decide +kernel)) S, F.bindsN (fun _ _ _ _ _ _ us hl => match us, hl with | [_, _], _ => rfl), .nil, fun _ => rfl, F.kp⟩
/-! ### bit_at -/
abbrev N_bit_at : List Str := ["integer", "place"]
abbrev kn_bit_at : List (Option NameKind) := [some .local, some .local]
abbrev gl_bit_at : List Str := []
def b_bit_at : MS := (sSeq (sRet (m2 opAnd (m2 opShr (mVar 0) (mVar 1)) (mCst (.d (.int 1))))) sNext)
def m_bit_at : Fn := fnOf 2 2 b_bit_at
theorem wk_bit_at (C : CuS X N_bit_at kn_bit_at gl_bit_at 0 W) (S : Sx X.K X.mg X.w) : PSs X (defBody st_bit_at) (rdS X.K (Gk X.K) W b_bit_at) :=
  have C := C
  (rss_cons (rs_ret (re_op2 op2_and (re_op2 op2_shr (C.v 0 rfl rfl rfl) (C.v 1 rfl rfl rfl)) (re_int))) rss_nil)
theorem sc_bit_at : FnScope N_bit_at ["integer", "place"] (defScope st_bit_at) := ⟨rfl, rfl, rfl, by decide +kernel, rfl, by decide +kernel, by decide +kernel⟩
theorem ok_bit_at (S : Sx K mg w) : Cal P w K mg base (Gk K) 1 (He.ga K "bit_at") m_bit_at [] := by
  obtain ⟨fd, F⟩ := S.d.def_ 5 (d := d_bit_at) rfl
  exact ⟨fd, _, [], [], fn_ok F sc_bit_at fun X W e1 e2 e3 e4 e5 C => by subst e1 e2 e3 e4 e5; exact wk_bit_at (C.cu (by decide +kernel)) S, F.bindsN (fun _ _ _ _ _ _ us hl => match us, hl with | [_, _], _ => rfl), .nil, fun _ => rfl, F.kp⟩
/-! ### Board.number -/
abbrev N_Board_number : List Str := ["self", "integer", "many", "place"]
abbrev kn_Board_number : List (Option NameKind) := [some .cell, some .cell, some .local, none]
abbrev gl_Board_number : List Str := ["tuple", "range"]
abbrev kn_Board_number_0 : List (Option NameKind) := [some .free, some .free, none, some .local]
abbrev gl_Board_number_0 : List Str := ["bit_at"]
def b_Board_number : MS := (sSeq (sRet (mOp bTuple (mCons (mComp wd (iRange1 (mCons (mVar 2) mNil)) (.one 3) mYes (mMeth C_Board F_constant m_Board_constant [] (mVar 0) (mCons (mCall m_bit_at [] (mCons (mVar 1) (mCons (mVar 3) mNil))) mNil)) [3]) mNil))) sNext)
def m_Board_number : Fn := fnOf 3 4 b_Board_number
theorem wk_Board_number (C : CuS X N_Board_number kn_Board_number gl_Board_number 2 W) (S : Sx X.K X.mg X.w) : PSs X (defBody st_Board_number) (rdS X.K (Gk X.K) W b_Board_number) :=
  have C := C
  (rss_cons (rs_ret (C.bT 0 (c_tuple) rfl (S.free 6 rfl) boot_tuple rfl (ra_cons (star_ok rfl) (C.lc (kn' := kn_Board_number_0) (gl' := gl_Board_number_0) (own := [("place", 3)]) (w := wd) (t := (.one 3)) (by decide +kernel) rfl rfl (ri_range1 (C.gl 1 _ rfl) (S.free 7 rfl) (star_ok rfl) (ra_cons (star_ok rfl) (C.v 2 rfl rfl rfl) ra_nil)) (fun X' _ C => C.tg 3 rfl rfl rfl) (fun _ _ _ _ _ C => ts_nil) (fun _ _ _ _ _ C => (C.m (hL S) C_Board rfl F_constant rfl (S.meth 12 rfl) (ok_Board_constant S) rfl rfl rfl (C.v 0 rfl rfl rfl) (ra_cons (star_ok rfl) (C.cl (ok_bit_at S) rfl 0 rfl (S.glo 13 rfl) rfl (ra_cons (star_ok rfl) (C.v 1 rfl rfl rfl) (ra_cons (star_ok rfl) (C.v 3 rfl rfl rfl) ra_nil))) ra_nil)))) ra_nil))) rss_nil)
theorem sc_Board_number : FnScope N_Board_number ["self", "integer", "many"] (defScope st_Board_number) := ⟨rfl, rfl, rfl, by decide +kernel, rfl, by decide +kernel, by decide +kernel⟩
theorem ok_Board_number (S : Sx K mg w) : Cal P w K mg base (Gk K) 3 (He.ma K (He.ga K "Board") "number") m_Board_number [] := by
  obtain ⟨fd, F⟩ := S.d.def_ 6 (d := d_Board_number) rfl
  exact ⟨fd, _, [], [], fn_ok F sc_Board_number fun X W e1 e2 e3 e4 e5 C => by subst e1 e2 e3 e4 e5; exact wk_Board_number (C.cu (by decide +kernel)) S, F.bindsN (fun _ _ _ _ _ _ us hl => match us, hl with | [_, _, _], _ => rfl), .nil, fun _ => rfl, F.kp⟩
/-! ### Board.doubled -/
abbrev N_Board_doubled : List Str := ["self", "rail", "many", "turn"]
abbrev kn_Board_doubled : List (Option NameKind) := [some .cell, some .local, some .local, none]
abbrev gl_Board_doubled : List Str := ["range"]
abbrev kn_Board_doubled_0 : List (Option NameKind) := [some .free, none, none, some .local]
abbrev gl_Board_doubled_0 : List Str := []
def b_Board_doubled : MS := (sSeq (sRet (mTup (mStar (mComp wd (iRange1 (mCons (mVar 2) mNil)) (.one 3) mYes (mMeth C_Board F_constant m_Board_constant [] (mVar 0) (mCons (mCst (.d (.int 0))) mNil)) [3]) (mStar (mVar 1) mNil)))) sNext)
def m_Board_doubled : Fn := fnOf 3 4 b_Board_doubled
theorem wk_Board_doubled (C : CuS X N_Board_doubled kn_Board_doubled gl_Board_doubled 2 W) (S : Sx X.K X.mg X.w) : PSs X (defBody st_Board_doubled) (rdS X.K (Gk X.K) W b_Board_doubled) :=
  have C := C
  (rss_cons (rs_ret (re_tup (ra_star (C.lc (kn' := kn_Board_doubled_0) (gl' := gl_Board_doubled_0) (own := [("turn", 3)]) (w := wd) (t := (.one 3)) (by decide +kernel) rfl rfl (ri_range1 (C.gl 0 _ rfl) (S.free 7 rfl) (star_ok rfl) (ra_cons (star_ok rfl) (C.v 2 rfl rfl rfl) ra_nil)) (fun X' _ C => C.tg 3 rfl rfl rfl) (fun _ _ _ _ _ C => ts_nil) (fun _ _ _ _ _ C => (C.m (hL S) C_Board rfl F_constant rfl (S.meth 12 rfl) (ok_Board_constant S) rfl rfl rfl (C.v 0 rfl rfl rfl) (ra_cons (star_ok rfl) (re_int) ra_nil)))) (ra_star (C.v 1 rfl rfl rfl) ra_nil)))) rss_nil)
theorem sc_Board_doubled : FnScope N_Board_doubled ["self", "rail", "many"] (defScope st_Board_doubled) := ⟨rfl, rfl, rfl, by decide +kernel, rfl, by decide +kernel, by decide +kernel⟩
theorem ok_Board_doubled (S : Sx K mg w) : Cal P w K mg base (Gk K) 3 (He.ma K (He.ga K "Board") "doubled") m_Board_doubled [] := by
  obtain ⟨fd, F⟩ := S.d.def_ 7 (d := d_Board_doubled) rfl
  exact ⟨fd, _, [], [], fn_ok F sc_Board_doubled fun X W e1 e2 e3 e4 e5 C => by subst e1 e2 e3 e4 e5; exact wk_Board_doubled (C.cu (by decide +kernel)) S, F.bindsN (fun _ _ _ _ _ _ us hl => match us, hl with | [_, _, _], _ => rfl), .nil, fun _ => rfl, F.kp⟩
/-! ### Board.word_of -/
abbrev N_Board_word_of : List Str := ["self", "wire"]
abbrev kn_Board_word_of : List (Option NameKind) := [some .local, some .local]
abbrev gl_Board_word_of : List Str := []
def b_Board_word_of : MS := (sSeq (sRet (mIf (mB (m2 opGe (mVar 1) (mFld (mVar 0) F_its_wires))) (mIdx (mIdx (mFld (mVar 0) F_its_gates) (m2 opSub (mVar 1) (mFld (mVar 0) F_its_wires))) (mCst (.d (.int 0)))) (mCst (.d .non)))) sNext)
def m_Board_word_of : Fn := fnOf 2 2 b_Board_word_of
theorem wk_Board_word_of (C : CuS X N_Board_word_of kn_Board_word_of gl_Board_word_of 0 W) (S : Sx X.K X.mg X.w) : PSs X (defBody st_Board_word_of) (rdS X.K (Gk X.K) W b_Board_word_of) :=
  have C := C
  (rss_cons (rs_ret (re_if (rt_cmp op2_ge (C.v 1 rfl rfl rfl) (Cu.f (hL S) F_its_wires rfl rfl (base_ok rfl) (C.v 0 rfl rfl rfl)) (beh_ok rfl)) (re_idx C.u1 (ix_ok rfl) (re_idx C.u1 (ix_ok rfl) (Cu.f (hL S) F_its_gates rfl rfl (base_ok rfl) (C.v 0 rfl rfl rfl)) (re_op2 op2_sub (C.v 1 rfl rfl rfl) (Cu.f (hL S) F_its_wires rfl rfl (base_ok rfl) (C.v 0 rfl rfl rfl)))) (re_int)) (re_non))) rss_nil)
theorem sc_Board_word_of : FnScope N_Board_word_of ["self", "wire"] (defScope st_Board_word_of) := ⟨rfl, rfl, rfl, by decide +kernel, rfl, by decide +kernel, by decide +kernel⟩
theorem ok_Board_word_of (S : Sx K mg w) : Cal P w K mg base (Gk K) 1 (He.ma K (He.ga K "Board") "word_of") m_Board_word_of [] := by
  obtain ⟨fd, F⟩ := S.d.def_ 8 (d := d_Board_word_of) rfl
  exact ⟨fd, _, [], [], fn_ok F sc_Board_word_of fun X W e1 e2 e3 e4 e5 C => by subst e1 e2 e3 e4 e5; exact wk_Board_word_of (C.cu (by decide +kernel)) S, F.bindsN (fun _ _ _ _ _ _ us hl => match us, hl with | [_, _], _ => rfl), .nil, fun _ => rfl, F.kp⟩
/-! ### Board.turned -/
abbrev N_Board_turned : List Str := ["self", "wire", "word"]
abbrev kn_Board_turned : List (Option NameKind) := [some .local, some .local, some .local]
abbrev gl_Board_turned : List Str := ["ONE", "ZERO", "int", "NOT"]
def b_Board_turned : MS := (sSeq (sAsg (mMeth C_Board F_word_of m_Board_word_of [] (mVar 0) (mCons (mVar 1) mNil)) (tgName 2)) (sSeq (sIf (mB (m2 opIn (mVar 2) (mTup (mCons (mCst (.d (.str k0_one))) (mCons (mCst (.d (.str k1_zero))) mNil))))) (sSeq (sRet (mMeth C_Board F_constant m_Board_constant [] (mVar 0) (mCons (mOp bInt (mCons (m2 opEq (mVar 2) (mCst (.d (.str k1_zero)))) mNil)) mNil))) sNext) sNext) (sSeq (sRet (mIf (mB (m2 opEq (mVar 2) (mCst (.d (.str k2_not))))) (mIdx (mIdx (mFld (mVar 0) F_its_gates) (m2 opSub (mVar 1) (mFld (mVar 0) F_its_wires))) (mCst (.d (.int 1)))) (mMeth C_Board F_put m_Board_put [] (mVar 0) (mCons (mTup (mCons (mCst (.d (.str k2_not))) (mCons (mVar 1) mNil))) mNil)))) sNext)))
def m_Board_turned : Fn := fnOf 2 3 b_Board_turned
theorem wk_Board_turned (C : CuS X N_Board_turned kn_Board_turned gl_Board_turned 2 W) (S : Sx X.K X.mg X.w) : PSs X (defBody st_Board_turned) (rdS X.K (Gk X.K) W b_Board_turned) :=
  have C := C
  (rss_cons (rs_asg (sws_ok rfl) (swt_ok rfl) rfl (C.m (hL S) C_Board rfl F_word_of rfl (S.meth 18 rfl) (ok_Board_word_of S) rfl rfl rfl (C.v 0 rfl rfl rfl) (ra_cons (star_ok rfl) (C.v 1 rfl rfl rfl) ra_nil)) (C.t 2 rfl rfl rfl)) (rss_cons (rs_if (rt_cmp (op2_in C.u1) (C.v 2 rfl rfl rfl) (re_tup (ra_cons (star_ok rfl) (C.gsL 0 rfl (S.str 10 rfl) k0_one_ok) (ra_cons (star_ok rfl) (C.gsL 1 rfl (S.str 11 rfl) k1_zero_ok) ra_nil))) (beh_ok rfl)) (rss_cons (rs_ret (C.m (hL S) C_Board rfl F_constant rfl (S.meth 12 rfl) (ok_Board_constant S) rfl rfl rfl (C.v 0 rfl rfl rfl) (ra_cons (star_ok rfl) (C.bT 2 (c_int) rfl (S.free 2 rfl) boot_int rfl (ra_cons (star_ok rfl) (re_cmp (op2_eq C.u64) (C.v 2 rfl rfl rfl) (C.gsL 1 rfl (S.str 11 rfl) k1_zero_ok) (beh_ok rfl)) ra_nil)) ra_nil))) rss_nil) rss_nil) (rss_cons (rs_ret (re_if (rt_cmp (op2_eq C.u64) (C.v 2 rfl rfl rfl) (C.gsL 3 rfl (S.str 17 rfl) k2_not_ok) (beh_ok rfl)) (re_idx C.u1 (ix_ok rfl) (re_idx C.u1 (ix_ok rfl) (Cu.f (hL S) F_its_gates rfl rfl (base_ok rfl) (C.v 0 rfl rfl rfl)) (re_op2 op2_sub (C.v 1 rfl rfl rfl) (Cu.f (hL S) F_its_wires rfl rfl (base_ok rfl) (C.v 0 rfl rfl rfl)))) (re_int)) (C.m (hL S) C_Board rfl F_put rfl (S.meth 9 rfl) (ok_Board_put S) rfl rfl rfl (C.v 0 rfl rfl rfl) (ra_cons (star_ok rfl) (re_tup (ra_cons (star_ok rfl) (C.gsL 3 rfl (S.str 17 rfl) k2_not_ok) (ra_cons (star_ok rfl) (C.v 1 rfl rfl rfl) ra_nil))) ra_nil)))) rss_nil)))
theorem sc_Board_turned : FnScope N_Board_turned ["self", "wire"] (defScope st_Board_turned) := ⟨rfl, rfl, rfl, by decide +kernel, rfl, by decide +kernel, by decide +kernel⟩
theorem ok_Board_turned (S : Sx K mg w) : Cal P w K mg base (Gk K) 3 (He.ma K (He.ga K "Board") "turned") m_Board_turned [] := by
  obtain ⟨fd, F⟩ := S.d.def_ 9 (d := d_Board_turned) rfl
  exact ⟨fd, _, [], [], fn_ok F sc_Board_turned fun X W e1 e2 e3 e4 e5 C => by subst e1 e2 e3 e4 e5; exact wk_Board_turned (C.cu (by decide +kernel)) S, F.bindsN (fun _ _ _ _ _ _ us hl => match us, hl with | [_, _], _ => rfl), .nil, fun _ => rfl, F.kp⟩
/-! ### Board.with_constant -/
abbrev N_Board_with_constant : List Str := ["self", "word", "bit", "wire"]
abbrev kn_Board_with_constant : List (Option NameKind) := [some .local, some .local, some .local, some .local]
abbrev gl_Board_with_constant : List Str := ["int"]
def b_Board_with_constant : MS := (sSeq (sIf (mB (m2 opEq (mVar 1) (mCst (.d (.str k3_xor))))) (sSeq (sRet (mIf (mB (m2 opEq (mVar 2) (mCst (.d (.int 1))))) (mMeth C_Board F_turned m_Board_turned [] (mVar 0) (mCons (mVar 3) mNil)) (mVar 3))) sNext) sNext) (sSeq (sRet (mIf (mB (m2 opEq (mVar 2) (mOp bInt (mCons (m2 opEq (mVar 1) (mCst (.d (.str k4_and)))) mNil)))) (mVar 3) (mMeth C_Board F_constant m_Board_constant [] (mVar 0) (mCons (mVar 2) mNil)))) sNext))
def m_Board_with_constant : Fn := fnOf 4 4 b_Board_with_constant
theorem wk_Board_with_constant (C : CuS X N_Board_with_constant kn_Board_with_constant gl_Board_with_constant 3 W) (S : Sx X.K X.mg X.w) : PSs X (defBody st_Board_with_constant) (rdS X.K (Gk X.K) W b_Board_with_constant) :=
  have C := C
  (rss_cons (rs_if (rt_cmp (op2_eq C.u64) (C.v 1 rfl rfl rfl) (re_sL k3_xor_ok) (beh_ok rfl)) (rss_cons (rs_ret (re_if (rt_cmp (op2_eq C.u64) (C.v 2 rfl rfl rfl) (re_int) (beh_ok rfl)) (C.m (hL S) C_Board rfl F_turned rfl (S.meth 19 rfl) (ok_Board_turned S) rfl rfl rfl (C.v 0 rfl rfl rfl) (ra_cons (star_ok rfl) (C.v 3 rfl rfl rfl) ra_nil)) (C.v 3 rfl rfl rfl))) rss_nil) rss_nil) (rss_cons (rs_ret (re_if (rt_cmp (op2_eq C.u64) (C.v 2 rfl rfl rfl) (C.bT 0 (c_int) rfl (S.free 2 rfl) boot_int rfl (ra_cons (star_ok rfl) (re_cmp (op2_eq C.u64) (C.v 1 rfl rfl rfl) (re_sL k4_and_ok) (beh_ok rfl)) ra_nil)) (beh_ok rfl)) (C.v 3 rfl rfl rfl) (C.m (hL S) C_Board rfl F_constant rfl (S.meth 12 rfl) (ok_Board_constant S) rfl rfl rfl (C.v 0 rfl rfl rfl) (ra_cons (star_ok rfl) (C.v 2 rfl rfl rfl) ra_nil)))) rss_nil))
theorem sc_Board_with_constant : FnScope N_Board_with_constant ["self", "word", "bit", "wire"] (defScope st_Board_with_constant) := ⟨rfl, rfl, rfl, by decide +kernel, rfl, by decide +kernel, by decide +kernel⟩
theorem ok_Board_with_constant (S : Sx K mg w) : Cal P w K mg base (Gk K) 4 (He.ma K (He.ga K "Board") "with_constant") m_Board_with_constant [] := by
  obtain ⟨fd, F⟩ := S.d.def_ 10 (d := d_Board_with_constant) rfl
  exact ⟨fd, _, [], [], fn_ok F sc_Board_with_constant fun X W e1 e2 e3 e4 e5 C => by subst e1 e2 e3 e4 e5; exact wk_Board_with_constant (C.cu (by decide +kernel)) S, F.bindsN (fun _ _ _ _ _ _ us hl => match us, hl with | [_, _, _, _], _ => rfl), .nil, fun _ => rfl, F.kp⟩
/-! ### Board.gate -/
abbrev N_Board_gate : List Str := ["self", "word", "a", "b", "one", "other", "wire", "there"]
abbrev kn_Board_gate : List (Option NameKind) := [some .local, some .local, some .local, some .local, some .local, some .local, some .local, some .local]
abbrev gl_Board_gate : List Str := ["NOT", "min", "max", "ONE", "ZERO", "int"]
def b_Board_gate : MS := (sSeq (sIf (mB (m2 opEq (mVar 1) (mCst (.d (.str k2_not))))) (sSeq (sRet (mMeth C_Board F_turned m_Board_turned [] (mVar 0) (mCons (mVar 2) mNil))) sNext) sNext) (sSeq (sPar [4, 5] (mCons (mOp bMin (mCons (mVar 2) (mCons (mVar 3) mNil))) (mCons (mOp bMax (mCons (mVar 2) (mCons (mVar 3) mNil))) mNil))) (sSeq (sIf (mB (m2 opEq (mVar 4) (mVar 5))) (sSeq (sRet (mIf (mB (m2 opEq (mVar 1) (mCst (.d (.str k3_xor))))) (mMeth C_Board F_constant m_Board_constant [] (mVar 0) (mCons (mCst (.d (.int 0))) mNil)) (mVar 4))) sNext) sNext) (sSeq (sFor wd (iVal (mTup (mCons (mTup (mCons (mVar 4) (mCons (mVar 5) mNil))) (mCons (mTup (mCons (mVar 5) (mCons (mVar 4) mNil))) mNil)))) (tgTup 2 (tgCons (tgName 6) (tgCons (tgName 7) tgNil))) (sSeq (sIf (mB (m2 opIn (mMeth C_Board F_word_of m_Board_word_of [] (mVar 0) (mCons (mVar 6) mNil)) (mTup (mCons (mCst (.d (.str k0_one))) (mCons (mCst (.d (.str k1_zero))) mNil))))) (sSeq (sRet (mMeth C_Board F_with_constant m_Board_with_constant [] (mVar 0) (mCons (mVar 1) (mCons (mOp bInt (mCons (m2 opEq (mMeth C_Board F_word_of m_Board_word_of [] (mVar 0) (mCons (mVar 6) mNil)) (mCst (.d (.str k0_one)))) mNil)) (mCons (mVar 7) mNil))))) sNext) sNext) sNext)) (sSeq (sRet (mMeth C_Board F_put m_Board_put [] (mVar 0) (mCons (mTup (mCons (mVar 1) (mCons (mVar 4) (mCons (mVar 5) mNil)))) mNil))) sNext)))))
def m_Board_gate : Fn := fnOf 4 8 b_Board_gate
theorem wk_Board_gate (C : CuS X N_Board_gate kn_Board_gate gl_Board_gate 4 W) (S : Sx X.K X.mg X.w) : PSs X (defBody st_Board_gate) (rdS X.K (Gk X.K) W b_Board_gate) :=
  have C := C
  (rss_cons (rs_if (rt_cmp (op2_eq C.u64) (C.v 1 rfl rfl rfl) (C.gsL 0 rfl (S.str 17 rfl) k2_not_ok) (beh_ok rfl)) (rss_cons (rs_ret (C.m (hL S) C_Board rfl F_turned rfl (S.meth 19 rfl) (ok_Board_turned S) rfl rfl rfl (C.v 0 rfl rfl rfl) (ra_cons (star_ok rfl) (C.v 2 rfl rfl rfl) ra_nil))) rss_nil) rss_nil) (rss_cons (C.par2 4 5 rfl rfl rfl rfl rfl rfl rfl rfl rfl (ra_cons (star_ok rfl) (C.bf 1 (c_min C.calm) rfl (S.free 21 rfl) boot_min rfl (ra_cons (star_ok rfl) (C.v 2 rfl rfl rfl) (ra_cons (star_ok rfl) (C.v 3 rfl rfl rfl) ra_nil))) (ra_cons (star_ok rfl) (C.bf 2 (c_max C.calm) rfl (S.free 20 rfl) boot_max rfl (ra_cons (star_ok rfl) (C.v 2 rfl rfl rfl) (ra_cons (star_ok rfl) (C.v 3 rfl rfl rfl) ra_nil))) ra_nil))) (rss_cons (rs_if (rt_cmp (op2_eq C.u64) (C.v 4 rfl rfl rfl) (C.v 5 rfl rfl rfl) (beh_ok rfl)) (rss_cons (rs_ret (re_if (rt_cmp (op2_eq C.u64) (C.v 1 rfl rfl rfl) (re_sL k3_xor_ok) (beh_ok rfl)) (C.m (hL S) C_Board rfl F_constant rfl (S.meth 12 rfl) (ok_Board_constant S) rfl rfl rfl (C.v 0 rfl rfl rfl) (ra_cons (star_ok rfl) (re_int) ra_nil)) (C.v 4 rfl rfl rfl))) rss_nil) rss_nil) (rss_cons (rs_for C.pass C.calm (fold_ok rfl) (pi_val (re_tup (ra_cons (star_ok rfl) (re_tup (ra_cons (star_ok rfl) (C.v 4 rfl rfl rfl) (ra_cons (star_ok rfl) (C.v 5 rfl rfl rfl) ra_nil))) (ra_cons (star_ok rfl) (re_tup (ra_cons (star_ok rfl) (C.v 5 rfl rfl rfl) (ra_cons (star_ok rfl) (C.v 4 rfl rfl rfl) ra_nil))) ra_nil)))) (rg_tup C.calm rfl rfl (rgs_cons rfl (C.t 6 rfl rfl rfl) (rgs_cons rfl (C.t 7 rfl rfl rfl) rgs_nil))) (rss_cons (rs_if (rt_cmp (op2_in C.u1) (C.m (hL S) C_Board rfl F_word_of rfl (S.meth 18 rfl) (ok_Board_word_of S) rfl rfl rfl (C.v 0 rfl rfl rfl) (ra_cons (star_ok rfl) (C.v 6 rfl rfl rfl) ra_nil)) (re_tup (ra_cons (star_ok rfl) (C.gsL 3 rfl (S.str 10 rfl) k0_one_ok) (ra_cons (star_ok rfl) (C.gsL 4 rfl (S.str 11 rfl) k1_zero_ok) ra_nil))) (beh_ok rfl)) (rss_cons (rs_ret (C.m (hL S) C_Board rfl F_with_constant rfl (S.meth 22 rfl) (ok_Board_with_constant S) rfl rfl rfl (C.v 0 rfl rfl rfl) (ra_cons (star_ok rfl) (C.v 1 rfl rfl rfl) (ra_cons (star_ok rfl) (C.bT 5 (c_int) rfl (S.free 2 rfl) boot_int rfl (ra_cons (star_ok rfl) (re_cmp (op2_eq C.u64) (C.m (hL S) C_Board rfl F_word_of rfl (S.meth 18 rfl) (ok_Board_word_of S) rfl rfl rfl (C.v 0 rfl rfl rfl) (ra_cons (star_ok rfl) (C.v 6 rfl rfl rfl) ra_nil)) (C.gsL 3 rfl (S.str 10 rfl) k0_one_ok) (beh_ok rfl)) ra_nil)) (ra_cons (star_ok rfl) (C.v 7 rfl rfl rfl) ra_nil))))) rss_nil) rss_nil) rss_nil)) (rss_cons (rs_ret (C.m (hL S) C_Board rfl F_put rfl (S.meth 9 rfl) (ok_Board_put S) rfl rfl rfl (C.v 0 rfl rfl rfl) (ra_cons (star_ok rfl) (re_tup (ra_cons (star_ok rfl) (C.v 1 rfl rfl rfl) (ra_cons (star_ok rfl) (C.v 4 rfl rfl rfl) (ra_cons (star_ok rfl) (C.v 5 rfl rfl rfl) ra_nil)))) ra_nil))) rss_nil)))))
theorem sc_Board_gate : FnScope N_Board_gate ["self", "word", "a", "b"] (defScope st_Board_gate) := ⟨rfl, rfl, rfl, by decide +kernel, rfl, by decide +kernel, by decide +kernel⟩
theorem ok_Board_gate (S : Sx K mg w) : Cal P w K mg base (Gk K) 5 (He.ma K (He.ga K "Board") "gate") m_Board_gate [] := by
  obtain ⟨fd, F⟩ := S.d.def_ 11 (d := d_Board_gate) rfl
  obtain ⟨ds, h1, h2⟩ := F.binds1 (ps := ["self", "word", "a", "b"]) 4 1 (fun z => List.cons_ne_nil _ _ z) rfl (fun _ _ _ _ _ _ _ us its h1 h2 => match us, its, h1, h2 with | [_, _, _, _], [_], _, _ => ⟨_, rfl, rfl⟩)
  exact ⟨fd, _, ds, _, fn_ok F sc_Board_gate fun X W e1 e2 e3 e4 e5 C => by subst e1 e2 e3 e4 e5; exact wk_Board_gate (C.cu (by decide +kernel)) S, h2, h1, fun _ => rfl, F.kp⟩
theorem ok_Board_gate_d1 (S : Sx K mg w) : Cal P w K mg base (Gk K) 5 (He.ma K (He.ga K "Board") "gate") m_Board_gate [.non] := by
  obtain ⟨fd, F⟩ := S.d.def_ 11 (d := d_Board_gate) rfl
  obtain ⟨ds, h1, h2⟩ := F.binds1 (ps := ["self", "word", "a", "b"]) 3 0 (fun z => List.cons_ne_nil _ _ z) rfl (fun _ _ _ _ _ _ _ us its h1 h2 => match us, its, h1, h2 with | [_, _, _], [_], _, _ => ⟨_, rfl, rfl⟩)
  exact ⟨fd, _, ds, _, fn_ok F sc_Board_gate fun X W e1 e2 e3 e4 e5 C => by subst e1 e2 e3 e4 e5; exact wk_Board_gate (C.cu (by decide +kernel)) S, h2, h1, fun _ => ⟨_, _, rfl, rfl, rfl⟩, F.kp⟩
/-! ### Board.stretched -/
abbrev N_Board_stretched : List Str := ["self", "rail", "many", "turn"]
abbrev kn_Board_stretched : List (Option NameKind) := [some .local, some .cell, some .local, none]
abbrev gl_Board_stretched : List Str := ["range", "len"]
abbrev kn_Board_stretched_0 : List (Option NameKind) := [none, some .free, none, some .local]
abbrev gl_Board_stretched_0 : List Str := []
def b_Board_stretched : MS := (sSeq (sRet (mTup (mStar (mVar 1) (mStar (mComp wd (iRange1 (mCons (m2 opSub (mVar 2) (mOp bLen (mCons (mVar 1) mNil))) mNil)) (.one 3) mYes (mIdx (mVar 1) (m1 opNeg (mCst (.d (.int 1))))) [3]) mNil)))) sNext)
def m_Board_stretched : Fn := fnOf 3 4 b_Board_stretched
theorem wk_Board_stretched (C : CuS X N_Board_stretched kn_Board_stretched gl_Board_stretched 0 W) (S : Sx X.K X.mg X.w) : PSs X (defBody st_Board_stretched) (rdS X.K (Gk X.K) W b_Board_stretched) :=
  have C := C
  (rss_cons (rs_ret (re_tup (ra_star (C.v 1 rfl rfl rfl) (ra_star (C.lc (kn' := kn_Board_stretched_0) (gl' := gl_Board_stretched_0) (own := [("turn", 3)]) (w := wd) (t := (.one 3)) (by decide +kernel) rfl rfl (ri_range1 (C.gl 0 _ rfl) (S.free 7 rfl) (star_ok rfl) (ra_cons (star_ok rfl) (re_op2 op2_sub (C.v 2 rfl rfl rfl) (C.bf 1 (c_len) rfl (S.free 8 rfl) boot_len rfl (ra_cons (star_ok rfl) (C.v 1 rfl rfl rfl) ra_nil))) ra_nil)) (fun X' _ C => C.tg 3 rfl rfl rfl) (fun _ _ _ _ _ C => ts_nil) (fun _ _ _ _ _ C => (re_idx C.u1 (ix_ok rfl) (C.v 1 rfl rfl rfl) (re_op1 op1_neg (re_int))))) ra_nil)))) rss_nil)
theorem sc_Board_stretched : FnScope N_Board_stretched ["self", "rail", "many"] (defScope st_Board_stretched) := ⟨rfl, rfl, rfl, by decide +kernel, rfl, by decide +kernel, by decide +kernel⟩
theorem ok_Board_stretched (S : Sx K mg w) : Cal P w K mg base (Gk K) 1 (He.ma K (He.ga K "Board") "stretched") m_Board_stretched [] := by
  obtain ⟨fd, F⟩ := S.d.def_ 12 (d := d_Board_stretched) rfl
  exact ⟨fd, _, [], [], fn_ok F sc_Board_stretched fun X W e1 e2 e3 e4 e5 C => by subst e1 e2 e3 e4 e5; exact wk_Board_stretched (C.cu (by decide +kernel)) S, F.bindsN (fun _ _ _ _ _ _ us hl => match us, hl with | [_, _, _], _ => rfl), .nil, fun _ => rfl, F.kp⟩
/-! ### Board.summed -/
abbrev N_Board_summed : List Str := ["self", "one", "other", "many", "carry", "found", "a", "b", "half"]
abbrev kn_Board_summed : List (Option NameKind) := [some .local, some .local, some .local, some .local, some .local, some .local, some .local, some .local, some .local]
abbrev gl_Board_summed : List Str := ["zip", "tuple"]
def b_Board_summed : MS := (sSeq (sAsg (mLst mNil) (tgName 5)) (sSeq (sFor wd (iZip (mCons (mMeth C_Board F_stretched m_Board_stretched [] (mVar 0) (mCons (mVar 1) (mCons (mVar 3) mNil))) (mCons (mMeth C_Board F_stretched m_Board_stretched [] (mVar 0) (mCons (mVar 2) (mCons (mVar 3) mNil))) mNil))) (tgTup 2 (tgCons (tgName 6) (tgCons (tgName 7) tgNil))) (sSeq (sAsg (mMeth C_Board F_gate m_Board_gate [] (mVar 0) (mCons (mCst (.d (.str k3_xor))) (mCons (mVar 6) (mCons (mVar 7) mNil)))) (tgName 8)) (sSeq (sExpr (mBM 4 lAppend (mVar 5) (mCons (mMeth C_Board F_gate m_Board_gate [] (mVar 0) (mCons (mCst (.d (.str k3_xor))) (mCons (mVar 8) (mCons (mVar 4) mNil)))) mNil))) (sSeq (sAsg (mMeth C_Board F_gate m_Board_gate [] (mVar 0) (mCons (mCst (.d (.str k5_or))) (mCons (mMeth C_Board F_gate m_Board_gate [] (mVar 0) (mCons (mCst (.d (.str k4_and))) (mCons (mVar 6) (mCons (mVar 7) mNil)))) (mCons (mMeth C_Board F_gate m_Board_gate [] (mVar 0) (mCons (mCst (.d (.str k4_and))) (mCons (mVar 8) (mCons (mVar 4) mNil)))) mNil)))) (tgName 4)) sNext)))) (sSeq (sRet (mOp bTuple (mCons (mVar 5) mNil))) sNext)))
def m_Board_summed : Fn := fnOf 5 9 b_Board_summed
theorem wk_Board_summed (C : CuS X N_Board_summed kn_Board_summed gl_Board_summed 5 W) (S : Sx X.K X.mg X.w) : PSs X (defBody st_Board_summed) (rdS X.K (Gk X.K) W b_Board_summed) :=
  have C := C
  (rss_cons (rs_asg (sws_ok rfl) (swt_ok rfl) rfl (re_lst ra_nil) (C.t 5 rfl rfl rfl)) (rss_cons (rs_for C.pass C.calm (fold_ok rfl) (ri_zip (C.gl 0 _ rfl) (S.free 24 rfl) (star_ok rfl) (plain_ok rfl) (ra_cons (star_ok rfl) (C.m (hL S) C_Board rfl F_stretched rfl (S.meth 25 rfl) (ok_Board_stretched S) rfl rfl rfl (C.v 0 rfl rfl rfl) (ra_cons (star_ok rfl) (C.v 1 rfl rfl rfl) (ra_cons (star_ok rfl) (C.v 3 rfl rfl rfl) ra_nil))) (ra_cons (star_ok rfl) (C.m (hL S) C_Board rfl F_stretched rfl (S.meth 25 rfl) (ok_Board_stretched S) rfl rfl rfl (C.v 0 rfl rfl rfl) (ra_cons (star_ok rfl) (C.v 2 rfl rfl rfl) (ra_cons (star_ok rfl) (C.v 3 rfl rfl rfl) ra_nil))) ra_nil))) (rg_tup C.calm rfl rfl (rgs_cons rfl (C.t 6 rfl rfl rfl) (rgs_cons rfl (C.t 7 rfl rfl rfl) rgs_nil))) (rss_cons (rs_asg (sws_ok rfl) (swt_ok rfl) rfl (C.m (hL S) C_Board rfl F_gate rfl (S.meth 23 rfl) (ok_Board_gate S) rfl rfl rfl (C.v 0 rfl rfl rfl) (ra_cons (star_ok rfl) (re_sL k3_xor_ok) (ra_cons (star_ok rfl) (C.v 6 rfl rfl rfl) (ra_cons (star_ok rfl) (C.v 7 rfl rfl rfl) ra_nil)))) (C.t 8 rfl rfl rfl)) (rss_cons (rs_expr (swp_ok rfl) (Cu.bm (t := 4) (.inr (.inl rfl)) plainAttrs_list PySem.F.slot_list_append rfl m_lAppend (base_ok rfl) rfl rfl rfl (C.v 5 rfl rfl rfl) (ra_cons (star_ok rfl) (C.m (hL S) C_Board rfl F_gate rfl (S.meth 23 rfl) (ok_Board_gate S) rfl rfl rfl (C.v 0 rfl rfl rfl) (ra_cons (star_ok rfl) (re_sL k3_xor_ok) (ra_cons (star_ok rfl) (C.v 8 rfl rfl rfl) (ra_cons (star_ok rfl) (C.v 4 rfl rfl rfl) ra_nil)))) ra_nil))) (rss_cons (rs_asg (sws_ok rfl) (swt_ok rfl) rfl (C.m (hL S) C_Board rfl F_gate rfl (S.meth 23 rfl) (ok_Board_gate S) rfl rfl rfl (C.v 0 rfl rfl rfl) (ra_cons (star_ok rfl) (re_sL k5_or_ok) (ra_cons (star_ok rfl) (C.m (hL S) C_Board rfl F_gate rfl (S.meth 23 rfl) (ok_Board_gate S) rfl rfl rfl (C.v 0 rfl rfl rfl) (ra_cons (star_ok rfl) (re_sL k4_and_ok) (ra_cons (star_ok rfl) (C.v 6 rfl rfl rfl) (ra_cons (star_ok rfl) (C.v 7 rfl rfl rfl) ra_nil)))) (ra_cons (star_ok rfl) (C.m (hL S) C_Board rfl F_gate rfl (S.meth 23 rfl) (ok_Board_gate S) rfl rfl rfl (C.v 0 rfl rfl rfl) (ra_cons (star_ok rfl) (re_sL k4_and_ok) (ra_cons (star_ok rfl) (C.v 8 rfl rfl rfl) (ra_cons (star_ok rfl) (C.v 4 rfl rfl rfl) ra_nil)))) ra_nil)))) (C.t 4 rfl rfl rfl)) rss_nil)))) (rss_cons (rs_ret (C.bT 1 (c_tuple) rfl (S.free 6 rfl) boot_tuple rfl (ra_cons (star_ok rfl) (C.v 5 rfl rfl rfl) ra_nil))) rss_nil)))
theorem sc_Board_summed : FnScope N_Board_summed ["self", "one", "other", "many", "carry"] (defScope st_Board_summed) := ⟨rfl, rfl, rfl, by decide +kernel, rfl, by decide +kernel, by decide +kernel⟩
theorem ok_Board_summed (S : Sx K mg w) : Cal P w K mg base (Gk K) 6 (He.ma K (He.ga K "Board") "summed") m_Board_summed [] := by
  obtain ⟨fd, F⟩ := S.d.def_ 13 (d := d_Board_summed) rfl
  exact ⟨fd, _, [], [], fn_ok F sc_Board_summed fun X W e1 e2 e3 e4 e5 C => by subst e1 e2 e3 e4 e5; exact wk_Board_summed (C.cu (by decide +kernel)) S, F.bindsN (fun _ _ _ _ _ _ us hl => match us, hl with | [_, _, _, _, _], _ => rfl), .nil, fun _ => rfl, F.kp⟩
/-! ### Board.less_by -/
abbrev N_Board_less_by : List Str := ["self", "one", "other", "many", "wire"]
abbrev kn_Board_less_by : List (Option NameKind) := [some .cell, some .local, some .local, some .local, none]
abbrev gl_Board_less_by : List Str := ["tuple"]
abbrev kn_Board_less_by_0 : List (Option NameKind) := [some .free, none, none, none, some .local]
abbrev gl_Board_less_by_0 : List Str := []
def b_Board_less_by : MS := (sSeq (sRet (mMeth C_Board F_summed m_Board_summed [] (mVar 0) (mCons (mVar 1) (mCons (mOp bTuple (mCons (mComp wd (iVal (mVar 2)) (.one 4) mYes (mMeth C_Board F_turned m_Board_turned [] (mVar 0) (mCons (mVar 4) mNil)) [4]) mNil)) (mCons (mVar 3) (mCons (mMeth C_Board F_constant m_Board_constant [] (mVar 0) (mCons (mCst (.d (.int 1))) mNil)) mNil)))))) sNext)
def m_Board_less_by : Fn := fnOf 4 5 b_Board_less_by
theorem wk_Board_less_by (C : CuS X N_Board_less_by kn_Board_less_by gl_Board_less_by 6 W) (S : Sx X.K X.mg X.w) : PSs X (defBody st_Board_less_by) (rdS X.K (Gk X.K) W b_Board_less_by) :=
  have C := C
  (rss_cons (rs_ret (C.m (hL S) C_Board rfl F_summed rfl (S.meth 26 rfl) (ok_Board_summed S) rfl rfl rfl (C.v 0 rfl rfl rfl) (ra_cons (star_ok rfl) (C.v 1 rfl rfl rfl) (ra_cons (star_ok rfl) (C.bT 0 (c_tuple) rfl (S.free 6 rfl) boot_tuple rfl (ra_cons (star_ok rfl) (C.lc (kn' := kn_Board_less_by_0) (gl' := gl_Board_less_by_0) (own := [("wire", 4)]) (w := wd) (t := (.one 4)) (by decide +kernel) rfl rfl (pi_val (C.v 2 rfl rfl rfl)) (fun X' _ C => C.tg 4 rfl rfl rfl) (fun _ _ _ _ _ C => ts_nil) (fun _ _ _ _ _ C => (C.m (hL S) C_Board rfl F_turned rfl (S.meth 19 rfl) (ok_Board_turned S) rfl rfl rfl (C.v 0 rfl rfl rfl) (ra_cons (star_ok rfl) (C.v 4 rfl rfl rfl) ra_nil)))) ra_nil)) (ra_cons (star_ok rfl) (C.v 3 rfl rfl rfl) (ra_cons (star_ok rfl) (C.m (hL S) C_Board rfl F_constant rfl (S.meth 12 rfl) (ok_Board_constant S) rfl rfl rfl (C.v 0 rfl rfl rfl) (ra_cons (star_ok rfl) (re_int) ra_nil)) ra_nil)))))) rss_nil)
theorem sc_Board_less_by : FnScope N_Board_less_by ["self", "one", "other", "many"] (defScope st_Board_less_by) := ⟨rfl, rfl, rfl, by decide +kernel, rfl, by decide +kernel, by decide +kernel⟩
theorem ok_Board_less_by (S : Sx K mg w) : Cal P w K mg base (Gk K) 7 (He.ma K (He.ga K "Board") "less_by") m_Board_less_by [] := by
  obtain ⟨fd, F⟩ := S.d.def_ 14 (d := d_Board_less_by) rfl
  exact ⟨fd, _, [], [], fn_ok F sc_Board_less_by fun X W e1 e2 e3 e4 e5 C => by subst e1 e2 e3 e4 e5; exact wk_Board_less_by (C.cu (by decide +kernel)) S, F.bindsN (fun _ _ _ _ _ _ us hl => match us, hl with | [_, _, _, _], _ => rfl), .nil, fun _ => rfl, F.kp⟩
/-! ### Board.product -/
abbrev N_Board_product : List Str := ["self", "one", "other", "many", "found", "place", "bit", "part", "wire"]
abbrev kn_Board_product : List (Option NameKind) := [some .cell, some .local, some .local, some .local, some .local, some .local, some .cell, some .local, none]
abbrev gl_Board_product : List Str := ["len", "enumerate", "tuple"]
abbrev kn_Board_product_0 : List (Option NameKind) := [some .free, none, none, none, none, none, some .free, none, some .local]
abbrev gl_Board_product_0 : List Str := []
def b_Board_product : MS := (sSeq (sAsg (m2 opAdd (mOp bLen (mCons (mVar 1) mNil)) (mOp bLen (mCons (mVar 2) mNil))) (tgName 3)) (sSeq (sAsg (mMeth C_Board F_number m_Board_number [] (mVar 0) (mCons (mCst (.d (.int 0))) (mCons (mVar 3) mNil))) (tgName 4)) (sSeq (sFor wd (iEnumA (mCons (mVar 2) mNil)) (tgTup 2 (tgCons (tgName 5) (tgCons (tgName 6) tgNil))) (sSeq (sAsg (mMeth C_Board F_doubled m_Board_doubled [] (mVar 0) (mCons (mOp bTuple (mCons (mComp wd (iVal (mVar 1)) (.one 8) mYes (mMeth C_Board F_gate m_Board_gate [] (mVar 0) (mCons (mCst (.d (.str k4_and))) (mCons (mVar 6) (mCons (mVar 8) mNil)))) [8]) mNil)) (mCons (mVar 5) mNil))) (tgName 7)) (sSeq (sIf (mB (m2 opLt (mVar 5) (m2 opSub (mOp bLen (mCons (mVar 2) mNil)) (mCst (.d (.int 1)))))) (sSeq (sAsg (mMeth C_Board F_summed m_Board_summed [] (mVar 0) (mCons (mVar 4) (mCons (mVar 7) (mCons (mVar 3) (mCons (mMeth C_Board F_constant m_Board_constant [] (mVar 0) (mCons (mCst (.d (.int 0))) mNil)) mNil))))) (tgName 4)) sNext) (sSeq (sAsg (mMeth C_Board F_less_by m_Board_less_by [] (mVar 0) (mCons (mVar 4) (mCons (mVar 7) (mCons (mVar 3) mNil)))) (tgName 4)) sNext)) sNext))) (sSeq (sRet (mVar 4)) sNext))))
def m_Board_product : Fn := fnOf 3 9 b_Board_product
theorem wk_Board_product (C : CuS X N_Board_product kn_Board_product gl_Board_product 7 W) (S : Sx X.K X.mg X.w) : PSs X (defBody st_Board_product) (rdS X.K (Gk X.K) W b_Board_product) :=
  have C := C
  (rss_cons (rs_asg (sws_ok rfl) (swt_ok rfl) rfl (re_op2 op2_add (C.bf 0 (c_len) rfl (S.free 8 rfl) boot_len rfl (ra_cons (star_ok rfl) (C.v 1 rfl rfl rfl) ra_nil)) (C.bf 0 (c_len) rfl (S.free 8 rfl) boot_len rfl (ra_cons (star_ok rfl) (C.v 2 rfl rfl rfl) ra_nil))) (C.t 3 rfl rfl rfl)) (rss_cons (rs_asg (sws_ok rfl) (swt_ok rfl) rfl (C.m (hL S) C_Board rfl F_number rfl (S.meth 14 rfl) (ok_Board_number S) rfl rfl rfl (C.v 0 rfl rfl rfl) (ra_cons (star_ok rfl) (re_int) (ra_cons (star_ok rfl) (C.v 3 rfl rfl rfl) ra_nil))) (C.t 4 rfl rfl rfl)) (rss_cons (rs_for C.pass C.calm (fold_ok rfl) (ri_enum (C.gl 1 _ rfl) (S.free 15 rfl) (star_ok rfl) (ra_cons (star_ok rfl) (C.v 2 rfl rfl rfl) ra_nil)) (rg_tup C.calm rfl rfl (rgs_cons rfl (C.t 5 rfl rfl rfl) (rgs_cons rfl (C.t 6 rfl rfl rfl) rgs_nil))) (rss_cons (rs_asg (sws_ok rfl) (swt_ok rfl) rfl (C.m (hL S) C_Board rfl F_doubled rfl (S.meth 16 rfl) (ok_Board_doubled S) rfl rfl rfl (C.v 0 rfl rfl rfl) (ra_cons (star_ok rfl) (C.bT 2 (c_tuple) rfl (S.free 6 rfl) boot_tuple rfl (ra_cons (star_ok rfl) (C.lc (kn' := kn_Board_product_0) (gl' := gl_Board_product_0) (own := [("wire", 8)]) (w := wd) (t := (.one 8)) (by decide +kernel) rfl rfl (pi_val (C.v 1 rfl rfl rfl)) (fun X' _ C => C.tg 8 rfl rfl rfl) (fun _ _ _ _ _ C => ts_nil) (fun _ _ _ _ _ C => (C.m (hL S) C_Board rfl F_gate rfl (S.meth 23 rfl) (ok_Board_gate S) rfl rfl rfl (C.v 0 rfl rfl rfl) (ra_cons (star_ok rfl) (re_sL k4_and_ok) (ra_cons (star_ok rfl) (C.v 6 rfl rfl rfl) (ra_cons (star_ok rfl) (C.v 8 rfl rfl rfl) ra_nil)))))) ra_nil)) (ra_cons (star_ok rfl) (C.v 5 rfl rfl rfl) ra_nil))) (C.t 7 rfl rfl rfl)) (rss_cons (rs_if (rt_cmp op2_lt (C.v 5 rfl rfl rfl) (re_op2 op2_sub (C.bf 0 (c_len) rfl (S.free 8 rfl) boot_len rfl (ra_cons (star_ok rfl) (C.v 2 rfl rfl rfl) ra_nil)) (re_int)) (beh_ok rfl)) (rss_cons (rs_asg (sws_ok rfl) (swt_ok rfl) rfl (C.m (hL S) C_Board rfl F_summed rfl (S.meth 26 rfl) (ok_Board_summed S) rfl rfl rfl (C.v 0 rfl rfl rfl) (ra_cons (star_ok rfl) (C.v 4 rfl rfl rfl) (ra_cons (star_ok rfl) (C.v 7 rfl rfl rfl) (ra_cons (star_ok rfl) (C.v 3 rfl rfl rfl) (ra_cons (star_ok rfl) (C.m (hL S) C_Board rfl F_constant rfl (S.meth 12 rfl) (ok_Board_constant S) rfl rfl rfl (C.v 0 rfl rfl rfl) (ra_cons (star_ok rfl) (re_int) ra_nil)) ra_nil))))) (C.t 4 rfl rfl rfl)) rss_nil) (rss_cons (rs_asg (sws_ok rfl) (swt_ok rfl) rfl (C.m (hL S) C_Board rfl F_less_by rfl (S.meth 27 rfl) (ok_Board_less_by S) rfl rfl rfl (C.v 0 rfl rfl rfl) (ra_cons (star_ok rfl) (C.v 4 rfl rfl rfl) (ra_cons (star_ok rfl) (C.v 7 rfl rfl rfl) (ra_cons (star_ok rfl) (C.v 3 rfl rfl rfl) ra_nil)))) (C.t 4 rfl rfl rfl)) rss_nil)) rss_nil))) (rss_cons (rs_ret (C.v 4 rfl rfl rfl)) rss_nil))))
theorem sc_Board_product : FnScope N_Board_product ["self", "one", "other"] (defScope st_Board_product) := ⟨rfl, rfl, rfl, by decide +kernel, rfl, by decide +kernel, by decide +kernel⟩
theorem ok_Board_product (S : Sx K mg w) : Cal P w K mg base (Gk K) 8 (He.ma K (He.ga K "Board") "product") m_Board_product [] := by
  obtain ⟨fd, F⟩ := S.d.def_ 15 (d := d_Board_product) rfl
  exact ⟨fd, _, [], [], fn_ok F sc_Board_product fun X W e1 e2 e3 e4 e5 C => by subst e1 e2 e3 e4 e5; exact wk_Board_product (C.cu (by decide +kernel)) S, F.bindsN (fun _ _ _ _ _ _ us hl => match us, hl with | [_, _, _], _ => rfl), .nil, fun _ => rfl, F.kp⟩
/-! ### Board.less -/
abbrev N_Board_less : List Str := ["self", "one", "other"]
abbrev kn_Board_less : List (Option NameKind) := [some .local, some .local, some .local]
abbrev gl_Board_less : List Str := ["max", "len"]
def b_Board_less : MS := (sSeq (sRet (mMeth C_Board F_less_by m_Board_less_by [] (mVar 0) (mCons (mVar 1) (mCons (mVar 2) (mCons (m2 opAdd (mCst (.d (.int 1))) (mOp bMax (mCons (mOp bLen (mCons (mVar 1) mNil)) (mCons (mOp bLen (mCons (mVar 2) mNil)) mNil)))) mNil))))) sNext)
def m_Board_less : Fn := fnOf 3 3 b_Board_less
theorem wk_Board_less (C : CuS X N_Board_less kn_Board_less gl_Board_less 7 W) (S : Sx X.K X.mg X.w) : PSs X (defBody st_Board_less) (rdS X.K (Gk X.K) W b_Board_less) :=
  have C := C
  (rss_cons (rs_ret (C.m (hL S) C_Board rfl F_less_by rfl (S.meth 27 rfl) (ok_Board_less_by S) rfl rfl rfl (C.v 0 rfl rfl rfl) (ra_cons (star_ok rfl) (C.v 1 rfl rfl rfl) (ra_cons (star_ok rfl) (C.v 2 rfl rfl rfl) (ra_cons (star_ok rfl) (re_op2 op2_add (re_int) (C.bf 0 (c_max C.calm) rfl (S.free 20 rfl) boot_max rfl (ra_cons (star_ok rfl) (C.bf 1 (c_len) rfl (S.free 8 rfl) boot_len rfl (ra_cons (star_ok rfl) (C.v 1 rfl rfl rfl) ra_nil)) (ra_cons (star_ok rfl) (C.bf 1 (c_len) rfl (S.free 8 rfl) boot_len rfl (ra_cons (star_ok rfl) (C.v 2 rfl rfl rfl) ra_nil)) ra_nil)))) ra_nil))))) rss_nil)
theorem sc_Board_less : FnScope N_Board_less ["self", "one", "other"] (defScope st_Board_less) := ⟨rfl, rfl, rfl, by decide +kernel, rfl, by decide +kernel, by decide +kernel⟩
theorem ok_Board_less (S : Sx K mg w) : Cal P w K mg base (Gk K) 8 (He.ma K (He.ga K "Board") "less") m_Board_less [] := by
  obtain ⟨fd, F⟩ := S.d.def_ 16 (d := d_Board_less) rfl
  exact ⟨fd, _, [], [], fn_ok F sc_Board_less fun X W e1 e2 e3 e4 e5 C => by subst e1 e2 e3 e4 e5; exact wk_Board_less (C.cu (by decide +kernel)) S, F.bindsN (fun _ _ _ _ _ _ us hl => match us, hl with | [_, _, _], _ => rfl), .nil, fun _ => rfl, F.kp⟩
/-! ### Board.added -/
abbrev N_Board_added : List Str := ["self", "one", "other"]
abbrev kn_Board_added : List (Option NameKind) := [some .local, some .local, some .local]
abbrev gl_Board_added : List Str := ["max", "len"]
def b_Board_added : MS := (sSeq (sRet (mMeth C_Board F_summed m_Board_summed [] (mVar 0) (mCons (mVar 1) (mCons (mVar 2) (mCons (m2 opAdd (mCst (.d (.int 1))) (mOp bMax (mCons (mOp bLen (mCons (mVar 1) mNil)) (mCons (mOp bLen (mCons (mVar 2) mNil)) mNil)))) (mCons (mMeth C_Board F_constant m_Board_constant [] (mVar 0) (mCons (mCst (.d (.int 0))) mNil)) mNil)))))) sNext)
def m_Board_added : Fn := fnOf 3 3 b_Board_added
theorem wk_Board_added (C : CuS X N_Board_added kn_Board_added gl_Board_added 6 W) (S : Sx X.K X.mg X.w) : PSs X (defBody st_Board_added) (rdS X.K (Gk X.K) W b_Board_added) :=
  have C := C
  (rss_cons (rs_ret (C.m (hL S) C_Board rfl F_summed rfl (S.meth 26 rfl) (ok_Board_summed S) rfl rfl rfl (C.v 0 rfl rfl rfl) (ra_cons (star_ok rfl) (C.v 1 rfl rfl rfl) (ra_cons (star_ok rfl) (C.v 2 rfl rfl rfl) (ra_cons (star_ok rfl) (re_op2 op2_add (re_int) (C.bf 0 (c_max C.calm) rfl (S.free 20 rfl) boot_max rfl (ra_cons (star_ok rfl) (C.bf 1 (c_len) rfl (S.free 8 rfl) boot_len rfl (ra_cons (star_ok rfl) (C.v 1 rfl rfl rfl) ra_nil)) (ra_cons (star_ok rfl) (C.bf 1 (c_len) rfl (S.free 8 rfl) boot_len rfl (ra_cons (star_ok rfl) (C.v 2 rfl rfl rfl) ra_nil)) ra_nil)))) (ra_cons (star_ok rfl) (C.m (hL S) C_Board rfl F_constant rfl (S.meth 12 rfl) (ok_Board_constant S) rfl rfl rfl (C.v 0 rfl rfl rfl) (ra_cons (star_ok rfl) (re_int) ra_nil)) ra_nil)))))) rss_nil)
theorem sc_Board_added : FnScope N_Board_added ["self", "one", "other"] (defScope st_Board_added) := ⟨rfl, rfl, rfl, by decide +kernel, rfl, by decide +kernel, by decide +kernel⟩
theorem ok_Board_added (S : Sx K mg w) : Cal P w K mg base (Gk K) 7 (He.ma K (He.ga K "Board") "added") m_Board_added [] := by
  obtain ⟨fd, F⟩ := S.d.def_ 17 (d := d_Board_added) rfl
  exact ⟨fd, _, [], [], fn_ok F sc_Board_added fun X W e1 e2 e3 e4 e5 C => by subst e1 e2 e3 e4 e5; exact wk_Board_added (C.cu (by decide +kernel)) S, F.bindsN (fun _ _ _ _ _ _ us hl => match us, hl with | [_, _, _], _ => rfl), .nil, fun _ => rfl, F.kp⟩
/-! ### Board.is_below -/
abbrev N_Board_is_below : List Str := ["self", "one", "other"]
abbrev kn_Board_is_below : List (Option NameKind) := [some .local, some .local, some .local]
abbrev gl_Board_is_below : List Str := []
def b_Board_is_below : MS := (sSeq (sRet (mIdx (mMeth C_Board F_less m_Board_less [] (mVar 0) (mCons (mVar 1) (mCons (mVar 2) mNil))) (m1 opNeg (mCst (.d (.int 1)))))) sNext)
def m_Board_is_below : Fn := fnOf 3 3 b_Board_is_below
theorem wk_Board_is_below (C : CuS X N_Board_is_below kn_Board_is_below gl_Board_is_below 8 W) (S : Sx X.K X.mg X.w) : PSs X (defBody st_Board_is_below) (rdS X.K (Gk X.K) W b_Board_is_below) :=
  have C := C
  (rss_cons (rs_ret (re_idx C.u1 (ix_ok rfl) (C.m (hL S) C_Board rfl F_less rfl (S.meth 29 rfl) (ok_Board_less S) rfl rfl rfl (C.v 0 rfl rfl rfl) (ra_cons (star_ok rfl) (C.v 1 rfl rfl rfl) (ra_cons (star_ok rfl) (C.v 2 rfl rfl rfl) ra_nil))) (re_op1 op1_neg (re_int)))) rss_nil)
theorem sc_Board_is_below : FnScope N_Board_is_below ["self", "one", "other"] (defScope st_Board_is_below) := ⟨rfl, rfl, rfl, by decide +kernel, rfl, by decide +kernel, by decide +kernel⟩
theorem ok_Board_is_below (S : Sx K mg w) : Cal P w K mg base (Gk K) 9 (He.ma K (He.ga K "Board") "is_below") m_Board_is_below [] := by
  obtain ⟨fd, F⟩ := S.d.def_ 18 (d := d_Board_is_below) rfl
  exact ⟨fd, _, [], [], fn_ok F sc_Board_is_below fun X W e1 e2 e3 e4 e5 C => by subst e1 e2 e3 e4 e5; exact wk_Board_is_below (C.cu (by decide +kernel)) S, F.bindsN (fun _ _ _ _ _ _ us hl => match us, hl with | [_, _, _], _ => rfl), .nil, fun _ => rfl, F.kp⟩
/-! ### Board.halved -/
abbrev N_Board_halved : List Str := ["self", "rail", "many"]
abbrev kn_Board_halved : List (Option NameKind) := [some .local, some .local, some .local]
abbrev gl_Board_halved : List Str := ["len"]
def b_Board_halved : MS := (sSeq (sRet (mIf (mB (m2 opLt (mVar 2) (mOp bLen (mCons (mVar 1) mNil)))) (mSlice (mVar 1) (mPart (some (mVar 2))) (mPart none)) (mSlice (mVar 1) (mPart (some (m1 opNeg (mCst (.d (.int 1)))))) (mPart none)))) sNext)
def m_Board_halved : Fn := fnOf 3 3 b_Board_halved
theorem wk_Board_halved (C : CuS X N_Board_halved kn_Board_halved gl_Board_halved 0 W) (S : Sx X.K X.mg X.w) : PSs X (defBody st_Board_halved) (rdS X.K (Gk X.K) W b_Board_halved) :=
  have C := C
  (rss_cons (rs_ret (re_if (rt_cmp op2_lt (C.v 2 rfl rfl rfl) (C.bf 0 (c_len) rfl (S.free 8 rfl) boot_len rfl (ra_cons (star_ok rfl) (C.v 1 rfl rfl rfl) ra_nil)) (beh_ok rfl)) (re_slice (C.v 1 rfl rfl rfl) (ro_some (C.v 2 rfl rfl rfl)) ro_none) (re_slice (C.v 1 rfl rfl rfl) (ro_some (re_op1 op1_neg (re_int))) ro_none))) rss_nil)
theorem sc_Board_halved : FnScope N_Board_halved ["self", "rail", "many"] (defScope st_Board_halved) := ⟨rfl, rfl, rfl, by decide +kernel, rfl, by decide +kernel, by decide +kernel⟩
theorem ok_Board_halved (S : Sx K mg w) : Cal P w K mg base (Gk K) 1 (He.ma K (He.ga K "Board") "halved") m_Board_halved [] := by
  obtain ⟨fd, F⟩ := S.d.def_ 19 (d := d_Board_halved) rfl
  exact ⟨fd, _, [], [], fn_ok F sc_Board_halved fun X W e1 e2 e3 e4 e5 C => by subst e1 e2 e3 e4 e5; exact wk_Board_halved (C.cu (by decide +kernel)) S, F.bindsN (fun _ _ _ _ _ _ us hl => match us, hl with | [_, _, _], _ => rfl), .nil, fun _ => rfl, F.kp⟩
/-! ### Board.chosen -/
abbrev N_Board_chosen : List Str := ["self", "wire", "one", "other", "many", "found", "turned", "a", "b"]
abbrev kn_Board_chosen : List (Option NameKind) := [some .local, some .local, some .local, some .local, some .local, some .local, some .local, some .local, some .local]
abbrev gl_Board_chosen : List Str := ["max", "len", "zip", "tuple"]
def b_Board_chosen : MS := (sSeq (sPar [4, 5, 6] (mCons (mOp bMax (mCons (mOp bLen (mCons (mVar 2) mNil)) (mCons (mOp bLen (mCons (mVar 3) mNil)) mNil))) (mCons (mLst mNil) (mCons (mMeth C_Board F_turned m_Board_turned [] (mVar 0) (mCons (mVar 1) mNil)) mNil)))) (sSeq (sFor wd (iZip (mCons (mMeth C_Board F_stretched m_Board_stretched [] (mVar 0) (mCons (mVar 2) (mCons (mVar 4) mNil))) (mCons (mMeth C_Board F_stretched m_Board_stretched [] (mVar 0) (mCons (mVar 3) (mCons (mVar 4) mNil))) mNil))) (tgTup 2 (tgCons (tgName 7) (tgCons (tgName 8) tgNil))) (sSeq (sExpr (mBM 4 lAppend (mVar 5) (mCons (mMeth C_Board F_gate m_Board_gate [] (mVar 0) (mCons (mCst (.d (.str k5_or))) (mCons (mMeth C_Board F_gate m_Board_gate [] (mVar 0) (mCons (mCst (.d (.str k4_and))) (mCons (mVar 1) (mCons (mVar 7) mNil)))) (mCons (mMeth C_Board F_gate m_Board_gate [] (mVar 0) (mCons (mCst (.d (.str k4_and))) (mCons (mVar 6) (mCons (mVar 8) mNil)))) mNil)))) mNil))) sNext)) (sSeq (sRet (mOp bTuple (mCons (mVar 5) mNil))) sNext)))
def m_Board_chosen : Fn := fnOf 4 9 b_Board_chosen
theorem wk_Board_chosen (C : CuS X N_Board_chosen kn_Board_chosen gl_Board_chosen 5 W) (S : Sx X.K X.mg X.w) : PSs X (defBody st_Board_chosen) (rdS X.K (Gk X.K) W b_Board_chosen) :=
  have C := C
  (rss_cons (C.par3 4 5 6 rfl rfl rfl rfl rfl rfl rfl rfl rfl rfl rfl rfl (ra_cons (star_ok rfl) (C.bf 0 (c_max C.calm) rfl (S.free 20 rfl) boot_max rfl (ra_cons (star_ok rfl) (C.bf 1 (c_len) rfl (S.free 8 rfl) boot_len rfl (ra_cons (star_ok rfl) (C.v 2 rfl rfl rfl) ra_nil)) (ra_cons (star_ok rfl) (C.bf 1 (c_len) rfl (S.free 8 rfl) boot_len rfl (ra_cons (star_ok rfl) (C.v 3 rfl rfl rfl) ra_nil)) ra_nil))) (ra_cons (star_ok rfl) (re_lst ra_nil) (ra_cons (star_ok rfl) (C.m (hL S) C_Board rfl F_turned rfl (S.meth 19 rfl) (ok_Board_turned S) rfl rfl rfl (C.v 0 rfl rfl rfl) (ra_cons (star_ok rfl) (C.v 1 rfl rfl rfl) ra_nil)) ra_nil)))) (rss_cons (rs_for C.pass C.calm (fold_ok rfl) (ri_zip (C.gl 2 _ rfl) (S.free 24 rfl) (star_ok rfl) (plain_ok rfl) (ra_cons (star_ok rfl) (C.m (hL S) C_Board rfl F_stretched rfl (S.meth 25 rfl) (ok_Board_stretched S) rfl rfl rfl (C.v 0 rfl rfl rfl) (ra_cons (star_ok rfl) (C.v 2 rfl rfl rfl) (ra_cons (star_ok rfl) (C.v 4 rfl rfl rfl) ra_nil))) (ra_cons (star_ok rfl) (C.m (hL S) C_Board rfl F_stretched rfl (S.meth 25 rfl) (ok_Board_stretched S) rfl rfl rfl (C.v 0 rfl rfl rfl) (ra_cons (star_ok rfl) (C.v 3 rfl rfl rfl) (ra_cons (star_ok rfl) (C.v 4 rfl rfl rfl) ra_nil))) ra_nil))) (rg_tup C.calm rfl rfl (rgs_cons rfl (C.t 7 rfl rfl rfl) (rgs_cons rfl (C.t 8 rfl rfl rfl) rgs_nil))) (rss_cons (rs_expr (swp_ok rfl) (Cu.bm (t := 4) (.inr (.inl rfl)) plainAttrs_list PySem.F.slot_list_append rfl m_lAppend (base_ok rfl) rfl rfl rfl (C.v 5 rfl rfl rfl) (ra_cons (star_ok rfl) (C.m (hL S) C_Board rfl F_gate rfl (S.meth 23 rfl) (ok_Board_gate S) rfl rfl rfl (C.v 0 rfl rfl rfl) (ra_cons (star_ok rfl) (re_sL k5_or_ok) (ra_cons (star_ok rfl) (C.m (hL S) C_Board rfl F_gate rfl (S.meth 23 rfl) (ok_Board_gate S) rfl rfl rfl (C.v 0 rfl rfl rfl) (ra_cons (star_ok rfl) (re_sL k4_and_ok) (ra_cons (star_ok rfl) (C.v 1 rfl rfl rfl) (ra_cons (star_ok rfl) (C.v 7 rfl rfl rfl) ra_nil)))) (ra_cons (star_ok rfl) (C.m (hL S) C_Board rfl F_gate rfl (S.meth 23 rfl) (ok_Board_gate S) rfl rfl rfl (C.v 0 rfl rfl rfl) (ra_cons (star_ok rfl) (re_sL k4_and_ok) (ra_cons (star_ok rfl) (C.v 6 rfl rfl rfl) (ra_cons (star_ok rfl) (C.v 8 rfl rfl rfl) ra_nil)))) ra_nil)))) ra_nil))) rss_nil)) (rss_cons (rs_ret (C.bT 3 (c_tuple) rfl (S.free 6 rfl) boot_tuple rfl (ra_cons (star_ok rfl) (C.v 5 rfl rfl rfl) ra_nil))) rss_nil)))
theorem sc_Board_chosen : FnScope N_Board_chosen ["self", "wire", "one", "other"] (defScope st_Board_chosen) := ⟨rfl, rfl, rfl, by decide +kernel, rfl, by decide +kernel, by decide +kernel⟩
theorem ok_Board_chosen (S : Sx K mg w) : Cal P w K mg base (Gk K) 6 (He.ma K (He.ga K "Board") "chosen") m_Board_chosen [] := by
  obtain ⟨fd, F⟩ := S.d.def_ 20 (d := d_Board_chosen) rfl
  exact ⟨fd, _, [], [], fn_ok F sc_Board_chosen fun X W e1 e2 e3 e4 e5 C => by subst e1 e2 e3 e4 e5; exact wk_Board_chosen (C.cu (by decide +kernel)) S, F.bindsN (fun _ _ _ _ _ _ us hl => match us, hl with | [_, _, _, _], _ => rfl), .nil, fun _ => rfl, F.kp⟩
/-! ### Board.is_wide -/
abbrev N_Board_is_wide : List Str := ["self", "rail", "width", "found", "wire"]
abbrev kn_Board_is_wide : List (Option NameKind) := [some .local, some .local, some .local, some .local, some .local]
abbrev gl_Board_is_wide : List Str := []
def b_Board_is_wide : MS := (sSeq (sAsg (mMeth C_Board F_constant m_Board_constant [] (mVar 0) (mCons (mCst (.d (.int 0))) mNil)) (tgName 3)) (sSeq (sFor wd (iVal (mSlice (mVar 1) (mPart (some (mVar 2))) (mPart none))) (tgName 4) (sSeq (sAsg (mMeth C_Board F_gate m_Board_gate [] (mVar 0) (mCons (mCst (.d (.str k5_or))) (mCons (mVar 3) (mCons (mMeth C_Board F_gate m_Board_gate [] (mVar 0) (mCons (mCst (.d (.str k3_xor))) (mCons (mVar 4) (mCons (mIdx (mVar 1) (m2 opSub (mVar 2) (mCst (.d (.int 1))))) mNil)))) mNil)))) (tgName 3)) sNext)) (sSeq (sRet (mVar 3)) sNext)))
def m_Board_is_wide : Fn := fnOf 3 5 b_Board_is_wide
theorem wk_Board_is_wide (C : CuS X N_Board_is_wide kn_Board_is_wide gl_Board_is_wide 5 W) (S : Sx X.K X.mg X.w) : PSs X (defBody st_Board_is_wide) (rdS X.K (Gk X.K) W b_Board_is_wide) :=
  have C := C
  (rss_cons (rs_asg (sws_ok rfl) (swt_ok rfl) rfl (C.m (hL S) C_Board rfl F_constant rfl (S.meth 12 rfl) (ok_Board_constant S) rfl rfl rfl (C.v 0 rfl rfl rfl) (ra_cons (star_ok rfl) (re_int) ra_nil)) (C.t 3 rfl rfl rfl)) (rss_cons (rs_for C.pass C.calm (fold_ok rfl) (pi_val (re_slice (C.v 1 rfl rfl rfl) (ro_some (C.v 2 rfl rfl rfl)) ro_none)) (C.t 4 rfl rfl rfl) (rss_cons (rs_asg (sws_ok rfl) (swt_ok rfl) rfl (C.m (hL S) C_Board rfl F_gate rfl (S.meth 23 rfl) (ok_Board_gate S) rfl rfl rfl (C.v 0 rfl rfl rfl) (ra_cons (star_ok rfl) (re_sL k5_or_ok) (ra_cons (star_ok rfl) (C.v 3 rfl rfl rfl) (ra_cons (star_ok rfl) (C.m (hL S) C_Board rfl F_gate rfl (S.meth 23 rfl) (ok_Board_gate S) rfl rfl rfl (C.v 0 rfl rfl rfl) (ra_cons (star_ok rfl) (re_sL k3_xor_ok) (ra_cons (star_ok rfl) (C.v 4 rfl rfl rfl) (ra_cons (star_ok rfl) (re_idx C.u1 (ix_ok rfl) (C.v 1 rfl rfl rfl) (re_op2 op2_sub (C.v 2 rfl rfl rfl) (re_int))) ra_nil)))) ra_nil)))) (C.t 3 rfl rfl rfl)) rss_nil)) (rss_cons (rs_ret (C.v 3 rfl rfl rfl)) rss_nil)))
theorem sc_Board_is_wide : FnScope N_Board_is_wide ["self", "rail", "width"] (defScope st_Board_is_wide) := ⟨rfl, rfl, rfl, by decide +kernel, rfl, by decide +kernel, by decide +kernel⟩
theorem ok_Board_is_wide (S : Sx K mg w) : Cal P w K mg base (Gk K) 6 (He.ma K (He.ga K "Board") "is_wide") m_Board_is_wide [] := by
  obtain ⟨fd, F⟩ := S.d.def_ 21 (d := d_Board_is_wide) rfl
  exact ⟨fd, _, [], [], fn_ok F sc_Board_is_wide fun X W e1 e2 e3 e4 e5 C => by subst e1 e2 e3 e4 e5; exact wk_Board_is_wide (C.cu (by decide +kernel)) S, F.bindsN (fun _ _ _ _ _ _ us hl => match us, hl with | [_, _, _], _ => rfl), .nil, fun _ => rfl, F.kp⟩
/-! ### Board.net -/
abbrev N_Board_net : List Str := ["self", "ends"]
abbrev kn_Board_net : List (Option NameKind) := [some .local, some .local]
abbrev gl_Board_net : List Str := ["tuple"]
def b_Board_net : MS := (sSeq (sRet (mTup (mCons (mFld (mVar 0) F_its_wires) (mCons (mOp bTuple (mCons (mFld (mVar 0) F_its_gates) mNil)) (mCons (mOp bTuple (mCons (mVar 1) mNil)) mNil))))) sNext)
def m_Board_net : Fn := fnOf 2 2 b_Board_net
theorem wk_Board_net (C : CuS X N_Board_net kn_Board_net gl_Board_net 0 W) (S : Sx X.K X.mg X.w) : PSs X (defBody st_Board_net) (rdS X.K (Gk X.K) W b_Board_net) :=
  have C := C
  (rss_cons (rs_ret (re_tup (ra_cons (star_ok rfl) (Cu.f (hL S) F_its_wires rfl rfl (base_ok rfl) (C.v 0 rfl rfl rfl)) (ra_cons (star_ok rfl) (C.bT 0 (c_tuple) rfl (S.free 6 rfl) boot_tuple rfl (ra_cons (star_ok rfl) (Cu.f (hL S) F_its_gates rfl rfl (base_ok rfl) (C.v 0 rfl rfl rfl)) ra_nil)) (ra_cons (star_ok rfl) (C.bT 0 (c_tuple) rfl (S.free 6 rfl) boot_tuple rfl (ra_cons (star_ok rfl) (C.v 1 rfl rfl rfl) ra_nil)) ra_nil))))) rss_nil)
theorem sc_Board_net : FnScope N_Board_net ["self", "ends"] (defScope st_Board_net) := ⟨rfl, rfl, rfl, by decide +kernel, rfl, by decide +kernel, by decide +kernel⟩
theorem ok_Board_net (S : Sx K mg w) : Cal P w K mg base (Gk K) 1 (He.ma K (He.ga K "Board") "net") m_Board_net [] := by
  obtain ⟨fd, F⟩ := S.d.def_ 22 (d := d_Board_net) rfl
  exact ⟨fd, _, [], [], fn_ok F sc_Board_net fun X W e1 e2 e3 e4 e5 C => by subst e1 e2 e3 e4 e5; exact wk_Board_net (C.cu (by decide +kernel)) S, F.bindsN (fun _ _ _ _ _ _ us hl => match us, hl with | [_, _], _ => rfl), .nil, fun _ => rfl, F.kp⟩
/-! ### _law_alike -/
abbrev N__law_alike : List Str := ["found", "due"]
abbrev kn__law_alike : List (Option NameKind) := [some .local, some .local]
abbrev gl__law_alike : List Str := ["repr"]
def b__law_alike : MS := (sSeq (sRet ((mAndV (m2 opEq (mVar 0) (mVar 1)) (mVal (mRepEq (mVar 0) (mVar 1)))))) sNext)
def m__law_alike : Fn := fnOf 2 2 b__law_alike
theorem wk__law_alike (C : CuS X N__law_alike kn__law_alike gl__law_alike 0 W) (S : Sx X.K X.mg X.w) (hG : X.A.guards = some []) : PSs X (defBody st__law_alike) (rdS X.K (Gk X.K) W b__law_alike) :=
  have C := C
  (rss_cons (rs_ret ((re_and (re_cmp (op2_eq C.u64) (C.v 0 rfl rfl rfl) (C.v 1 rfl rfl rfl) (beh_ok rfl)) (re_one (re_repEq hG C.u64 (C.gl 0 _ rfl) (S.free 36 rfl) (star_ok rfl) (star_ok rfl) (beh_ok rfl) (C.v 0 rfl rfl rfl) (C.v 1 rfl rfl rfl)))))) rss_nil)
theorem sc__law_alike : FnScope N__law_alike ["found", "due"] (defScope st__law_alike) := ⟨rfl, rfl, rfl, by decide +kernel, rfl, by decide +kernel, by decide +kernel⟩
theorem ok__law_alike (S : Sx K mg w) : CalG P w K mg base (Gk K) 1 (He.ga K "_law_alike") m__law_alike [] := by
  obtain ⟨fd, F⟩ := S.d.def_ 23 (d := d__law_alike) rfl
  exact ⟨fd, _, [], [], fnG_ok F sc__law_alike fun X W e1 e2 e3 e4 e5 hg C => by subst e1 e2 e3 e4 e5; exact wk__law_alike (C.cu (by decide +kernel)) S hg, F.bindsN (fun _ _ _ _ _ _ us hl => match us, hl with | [_, _], _ => rfl), .nil, fun _ => rfl, F.kp⟩
/-! ### is_integer -/
abbrev N_is_integer : List Str := ["thing"]
abbrev kn_is_integer : List (Option NameKind) := [some .local]
abbrev gl_is_integer : List Str := ["isinstance", "int", "bool"]
def b_is_integer : MS := (sSeq (sRet ((mAndV (mVal (mIsi 0 (mVar 0))) (mNotV (mVal (mIsi 1 (mVar 0))))))) sNext)
def m_is_integer : Fn := fnOf 1 1 b_is_integer
theorem wk_is_integer (C : CuS X N_is_integer kn_is_integer gl_is_integer 0 W) (S : Sx X.K X.mg X.w) : PSs X (defBody st_is_integer) (rdS X.K (Gk X.K) W b_is_integer) :=
  have C := C
  (rss_cons (rs_ret ((re_and (C.isi (t := 0) rfl 0 1 rfl (S.free 38 rfl) rfl (S.free 2 rfl) boot_int rfl (C.v 0 rfl rfl rfl)) (re_one (re_not (C.isi (t := 1) rfl 0 2 rfl (S.free 38 rfl) rfl (S.free 40 rfl) boot_bool rfl (C.v 0 rfl rfl rfl))))))) rss_nil)
theorem sc_is_integer : FnScope N_is_integer ["thing"] (defScope st_is_integer) := ⟨rfl, rfl, rfl, by decide +kernel, rfl, by decide +kernel, by decide +kernel⟩
theorem ok_is_integer (S : Sx K mg w) : Cal P w K mg base (Gk K) 1 (He.ga K "is_integer") m_is_integer [] := by
  obtain ⟨fd, F⟩ := S.d.def_ 24 (d := d_is_integer) rfl
  exact ⟨fd, _, [], [], fn_ok F sc_is_integer fun X W e1 e2 e3 e4 e5 C => by subst e1 e2 e3 e4 e5; exact wk_is_integer (C.cu (by decide +kernel)) S, F.bindsN (fun _ _ _ _ _ _ us hl => match us, hl with | [_], _ => rfl), .nil, fun _ => rfl, F.kp⟩
/-! ### are_integers -/
abbrev N_are_integers : List Str := ["thing", "one"]
abbrev kn_are_integers : List (Option NameKind) := [some .local, none]
abbrev gl_are_integers : List Str := ["isinstance", "tuple", "all"]
abbrev kn_are_integers_0 : List (Option NameKind) := [none, some .local]
abbrev gl_are_integers_0 : List Str := ["is_integer"]
def b_are_integers : MS := (sSeq (sRet ((mAndV (mVal (mIsi 3 (mVar 0))) (mOp bAll (mCons (mComp wd (iVal (mVar 0)) (.one 1) mYes (mCall m_is_integer [] (mCons (mVar 1) mNil)) [1]) mNil))))) sNext)
def m_are_integers : Fn := fnOf 1 2 b_are_integers
theorem wk_are_integers (C : CuS X N_are_integers kn_are_integers gl_are_integers 1 W) (S : Sx X.K X.mg X.w) : PSs X (defBody st_are_integers) (rdS X.K (Gk X.K) W b_are_integers) :=
  have C := C
  (rss_cons (rs_ret ((re_and (C.isi (t := 3) rfl 0 1 rfl (S.free 38 rfl) rfl (S.free 6 rfl) boot_tuple rfl (C.v 0 rfl rfl rfl)) (re_one (C.bf 2 (c_all C.calm) rfl (S.free 44 rfl) boot_all rfl (ra_cons (star_ok rfl) (C.lc (kn' := kn_are_integers_0) (gl' := gl_are_integers_0) (own := [("one", 1)]) (w := wd) (t := (.one 1)) (by decide +kernel) rfl rfl (pi_val (C.v 0 rfl rfl rfl)) (fun X' _ C => C.tg 1 rfl rfl rfl) (fun _ _ _ _ _ C => ts_nil) (fun _ _ _ _ _ C => (C.cl (ok_is_integer S) rfl 0 rfl (S.glo 41 rfl) rfl (ra_cons (star_ok rfl) (C.v 1 rfl rfl rfl) ra_nil)))) ra_nil)))))) rss_nil)
theorem sc_are_integers : FnScope N_are_integers ["thing"] (defScope st_are_integers) := ⟨rfl, rfl, rfl, by decide +kernel, rfl, by decide +kernel, by decide +kernel⟩
theorem ok_are_integers (S : Sx K mg w) : Cal P w K mg base (Gk K) 2 (He.ga K "are_integers") m_are_integers [] := by
  obtain ⟨fd, F⟩ := S.d.def_ 25 (d := d_are_integers) rfl
  exact ⟨fd, _, [], [], fn_ok F sc_are_integers fun X W e1 e2 e3 e4 e5 C => by subst e1 e2 e3 e4 e5; exact wk_are_integers (C.cu (by decide +kernel)) S, F.bindsN (fun _ _ _ _ _ _ us hl => match us, hl with | [_], _ => rfl), .nil, fun _ => rfl, F.kp⟩
/-! ### is_gate -/
abbrev N_is_gate : List Str := ["thing"]
abbrev kn_is_gate : List (Option NameKind) := [some .local]
abbrev gl_is_gate : List Str := ["isinstance", "tuple", "str", "SIZES", "are_integers", "len"]
def b_is_gate : MS := (sSeq (sIf ((mOr (mNot (mTruth (mVal (mIsi 3 (mVar 0))))) (mOr (mB (m2 opEq (mVar 0) (mTup mNil))) (mOr (mNot (mTruth (mVal (mIsi 2 (mIdx (mVar 0) (mCst (.d (.int 0)))))))) ((mTabIn true (tabI T_SIZES) (mIdx (mVar 0) (mCst (.d (.int 0)))))))))) (sSeq (sRet (mCst (.d (.bl false)))) sNext) sNext) (sSeq (sRet ((mAndV (mCall m_are_integers [] (mCons (mSlice (mVar 0) (mPart (some (mCst (.d (.int 1))))) (mPart none)) mNil)) (m2 opEq (mOp bLen (mCons (mVar 0) mNil)) (m2 opAdd (mCst (.d (.int 1))) (mTab (tabI T_SIZES) (mIdx (mVar 0) (mCst (.d (.int 0)))))))))) sNext))
def m_is_gate : Fn := fnOf 1 1 b_is_gate
theorem wk_is_gate (C : CuS X N_is_gate kn_is_gate gl_is_gate 2 W) (S : Sx X.K X.mg X.w) : PSs X (defBody st_is_gate) (rdS X.K (Gk X.K) W b_is_gate) :=
  have C := C
  (rss_cons (rs_if (PW.pt (rw_or (rt_not (rt_truth (test_ok rfl) (C.isi (t := 3) rfl 0 1 rfl (S.free 38 rfl) rfl (S.free 6 rfl) boot_tuple rfl (C.v 0 rfl rfl rfl)))) (rw_or (rt_cmp (op2_eq C.u64) (C.v 0 rfl rfl rfl) (re_tup ra_nil) (beh_ok rfl)) (rw_or (rt_not (rt_truth (test_ok rfl) (C.isi (t := 2) rfl 0 2 rfl (S.free 38 rfl) rfl (S.free 42 rfl) boot_str rfl (re_idx C.u1 (ix_ok rfl) (C.v 0 rfl rfl rfl) (re_int))))) (rw_or1 (C.ttabNotIn 3 rfl (S.glo 43 rfl) (S.tab 0 rfl) (tabI_ok (S.b 1 rfl)) (re_idx C.u1 (ix_ok rfl) (C.v 0 rfl rfl rfl) (re_int)))))))) (rss_cons (rs_ret (re_bl)) rss_nil) rss_nil) (rss_cons (rs_ret ((re_and (C.cl (ok_are_integers S) rfl 4 rfl (S.glo 45 rfl) rfl (ra_cons (star_ok rfl) (re_slice (C.v 0 rfl rfl rfl) (ro_some (re_int)) ro_none) ra_nil)) (re_one (re_cmp (op2_eq C.u64) (C.bf 5 (c_len) rfl (S.free 8 rfl) boot_len rfl (ra_cons (star_ok rfl) (C.v 0 rfl rfl rfl) ra_nil)) (re_op2 op2_add (re_int) (C.tabIx 3 rfl (S.glo 43 rfl) (S.tab 0 rfl) (tabI_ok (S.b 1 rfl)) (ix_ok rfl) (re_idx C.u1 (ix_ok rfl) (C.v 0 rfl rfl rfl) (re_int)))) (beh_ok rfl)))))) rss_nil))
theorem sc_is_gate : FnScope N_is_gate ["thing"] (defScope st_is_gate) := ⟨rfl, rfl, rfl, by decide +kernel, rfl, by decide +kernel, by decide +kernel⟩
theorem ok_is_gate (S : Sx K mg w) : Cal P w K mg base (Gk K) 3 (He.ga K "is_gate") m_is_gate [] := by
  obtain ⟨fd, F⟩ := S.d.def_ 26 (d := d_is_gate) rfl
  exact ⟨fd, _, [], [], fn_ok F sc_is_gate fun X W e1 e2 e3 e4 e5 C => by subst e1 e2 e3 e4 e5; exact wk_is_gate (C.cu (by decide +kernel)) S, F.bindsN (fun _ _ _ _ _ _ us hl => match us, hl with | [_], _ => rfl), .nil, fun _ => rfl, F.kp⟩
/-! ### checked_net -/
abbrev N_checked_net : List Str := ["thing", "at", "gate", "wire"]
abbrev kn_checked_net : List (Option NameKind) := [some .cell, some .cell, some .local, none]
abbrev gl_checked_net : List Str := ["isinstance", "tuple", "len", "PARTS", "is_integer", "BadPaper", "enumerate", "is_gate", "all", "are_integers"]
abbrev kn_checked_net_0 : List (Option NameKind) := [some .free, some .free, none, some .local]
abbrev gl_checked_net_0 : List Str := []
abbrev kn_checked_net_1 : List (Option NameKind) := [some .free, none, none, some .local]
abbrev gl_checked_net_1 : List Str := ["len"]
def b_checked_net : MS := (sSeq (sIf ((mOr (mNot (mTruth (mVal (mIsi 3 (mVar 0))))) (mOr (mB (m2 opNe (mOp bLen (mCons (mVar 0) mNil)) (mCst (.d (.int 3))))) (mNot (mTruth (mCall m_is_integer [] (mCons (mIdx (mVar 0) (mCst (.d (.int 0)))) mNil))))))) (sSeq (fun _ _ => .bad) sNext) sNext) (sSeq (sIf ((mOr (mB (m2 opLt (mIdx (mVar 0) (mCst (.d (.int 0)))) (mCst (.d (.int 0))))) (mOr (mNot (mTruth (mVal (mIsi 3 (mIdx (mVar 0) (mCst (.d (.int 1)))))))) (mNot (mTruth (mVal (mIsi 3 (mIdx (mVar 0) (mCst (.d (.int 2))))))))))) (sSeq (fun _ _ => .bad) sNext) sNext) (sSeq (sFor wd (iEnumA (mCons (mIdx (mVar 0) (mCst (.d (.int 1)))) mNil)) (tgTup 2 (tgCons (tgName 1) (tgCons (tgName 2) tgNil))) (sSeq (sIf (mNot (mTruth (mCall m_is_gate [] (mCons (mVar 2) mNil)))) (sSeq (fun _ _ => .bad) sNext) sNext) (sSeq (sIf (mNot (mTruth (mOp bAll (mCons (mComp wd (iVal (mSlice (mVar 2) (mPart (some (mCst (.d (.int 1))))) (mPart none))) (.one 3) mYes (mChain opLe opLt (mCst (.d (.int 0))) (mVar 3) (m2 opAdd (mIdx (mVar 0) (mCst (.d (.int 0)))) (mVar 1))) [3]) mNil)))) (sSeq (fun _ _ => .bad) sNext) sNext) sNext))) (sSeq (sIf (mNot (mTruth (mCall m_are_integers [] (mCons (mIdx (mVar 0) (mCst (.d (.int 2)))) mNil)))) (sSeq (fun _ _ => .bad) sNext) sNext) (sSeq (sIf (mNot (mTruth (mOp bAll (mCons (mComp wd (iVal (mIdx (mVar 0) (mCst (.d (.int 2))))) (.one 3) mYes (mChain opLe opLt (mCst (.d (.int 0))) (mVar 3) (m2 opAdd (mIdx (mVar 0) (mCst (.d (.int 0)))) (mOp bLen (mCons (mIdx (mVar 0) (mCst (.d (.int 1)))) mNil)))) [3]) mNil)))) (sSeq (fun _ _ => .bad) sNext) sNext) (sSeq (sRet (mVar 0)) sNext))))))
def m_checked_net : Fn := fnOf 1 4 b_checked_net
theorem wk_checked_net (C : CuS X N_checked_net kn_checked_net gl_checked_net 3 W) (S : Sx X.K X.mg X.w) : PSs X (defBody st_checked_net) (rdS X.K (Gk X.K) W b_checked_net) :=
  have C := C
  (rss_cons (rs_if (PW.pt (rw_or (rt_not (rt_truth (test_ok rfl) (C.isi (t := 3) rfl 0 1 rfl (S.free 38 rfl) rfl (S.free 6 rfl) boot_tuple rfl (C.v 0 rfl rfl rfl)))) (rw_or (rt_cmp (op2_ne C.u64) (C.bf 2 (c_len) rfl (S.free 8 rfl) boot_len rfl (ra_cons (star_ok rfl) (C.v 0 rfl rfl rfl) ra_nil)) (C.gi 3 rfl (S.int 39 rfl)) (beh_ok rfl)) (rw_or1 (rt_not (rt_truth (test_ok rfl) (C.cl (ok_is_integer S) rfl 4 rfl (S.glo 41 rfl) rfl (ra_cons (star_ok rfl) (re_idx C.u1 (ix_ok rfl) (C.v 0 rfl rfl rfl) (re_int)) ra_nil)))))))) (rss_cons rs_bad rss_nil) rss_nil) (rss_cons (rs_if (PW.pt (rw_or (rt_cmp op2_lt (re_idx C.u1 (ix_ok rfl) (C.v 0 rfl rfl rfl) (re_int)) (re_int) (beh_ok rfl)) (rw_or (rt_not (rt_truth (test_ok rfl) (C.isi (t := 3) rfl 0 1 rfl (S.free 38 rfl) rfl (S.free 6 rfl) boot_tuple rfl (re_idx C.u1 (ix_ok rfl) (C.v 0 rfl rfl rfl) (re_int))))) (rw_or1 (rt_not (rt_truth (test_ok rfl) (C.isi (t := 3) rfl 0 1 rfl (S.free 38 rfl) rfl (S.free 6 rfl) boot_tuple rfl (re_idx C.u1 (ix_ok rfl) (C.v 0 rfl rfl rfl) (re_int))))))))) (rss_cons rs_bad rss_nil) rss_nil) (rss_cons (rs_for C.pass C.calm (fold_ok rfl) (ri_enum (C.gl 6 _ rfl) (S.free 15 rfl) (star_ok rfl) (ra_cons (star_ok rfl) (re_idx C.u1 (ix_ok rfl) (C.v 0 rfl rfl rfl) (re_int)) ra_nil)) (rg_tup C.calm rfl rfl (rgs_cons rfl (C.t 1 rfl rfl rfl) (rgs_cons rfl (C.t 2 rfl rfl rfl) rgs_nil))) (rss_cons (rs_if (rt_not (rt_truth (test_ok rfl) (C.cl (ok_is_gate S) rfl 7 rfl (S.glo 46 rfl) rfl (ra_cons (star_ok rfl) (C.v 2 rfl rfl rfl) ra_nil)))) (rss_cons rs_bad rss_nil) rss_nil) (rss_cons (rs_if (rt_not (rt_truth (test_ok rfl) (C.bf 8 (c_all C.calm) rfl (S.free 44 rfl) boot_all rfl (ra_cons (star_ok rfl) (C.lc (kn' := kn_checked_net_0) (gl' := gl_checked_net_0) (own := [("wire", 3)]) (w := wd) (t := (.one 3)) (by decide +kernel) rfl rfl (pi_val (re_slice (C.v 2 rfl rfl rfl) (ro_some (re_int)) ro_none)) (fun X' _ C => C.tg 3 rfl rfl rfl) (fun _ _ _ _ _ C => ts_nil) (fun _ _ _ _ _ C => (re_chain op2_le op2_lt (re_int) (C.v 3 rfl rfl rfl) (re_op2 op2_add (re_idx C.u1 (ix_ok rfl) (C.v 0 rfl rfl rfl) (re_int)) (C.v 1 rfl rfl rfl)) (last_ok rfl)))) ra_nil)))) (rss_cons rs_bad rss_nil) rss_nil) rss_nil))) (rss_cons (rs_if (rt_not (rt_truth (test_ok rfl) (C.cl (ok_are_integers S) rfl 9 rfl (S.glo 45 rfl) rfl (ra_cons (star_ok rfl) (re_idx C.u1 (ix_ok rfl) (C.v 0 rfl rfl rfl) (re_int)) ra_nil)))) (rss_cons rs_bad rss_nil) rss_nil) (rss_cons (rs_if (rt_not (rt_truth (test_ok rfl) (C.bf 8 (c_all C.calm) rfl (S.free 44 rfl) boot_all rfl (ra_cons (star_ok rfl) (C.lc (kn' := kn_checked_net_1) (gl' := gl_checked_net_1) (own := [("wire", 3)]) (w := wd) (t := (.one 3)) (by decide +kernel) rfl rfl (pi_val (re_idx C.u1 (ix_ok rfl) (C.v 0 rfl rfl rfl) (re_int))) (fun X' _ C => C.tg 3 rfl rfl rfl) (fun _ _ _ _ _ C => ts_nil) (fun _ _ _ _ _ C => (re_chain op2_le op2_lt (re_int) (C.v 3 rfl rfl rfl) (re_op2 op2_add (re_idx C.u1 (ix_ok rfl) (C.v 0 rfl rfl rfl) (re_int)) (C.bf 0 (c_len) rfl (S.free 8 rfl) boot_len rfl (ra_cons (star_ok rfl) (re_idx C.u1 (ix_ok rfl) (C.v 0 rfl rfl rfl) (re_int)) ra_nil))) (last_ok rfl)))) ra_nil)))) (rss_cons rs_bad rss_nil) rss_nil) (rss_cons (rs_ret (C.v 0 rfl rfl rfl)) rss_nil))))))
theorem sc_checked_net : FnScope N_checked_net ["thing"] (defScope st_checked_net) := ⟨rfl, rfl, rfl, by decide +kernel, rfl, by decide +kernel, by decide +kernel⟩
theorem ok_checked_net (S : Sx K mg w) : Cal P w K mg base (Gk K) 4 (He.ga K "checked_net") m_checked_net [] := by
  obtain ⟨fd, F⟩ := S.d.def_ 27 (d := d_checked_net) rfl
  exact ⟨fd, _, [], [], fn_ok F sc_checked_net fun X W e1 e2 e3 e4 e5 C => by subst e1 e2 e3 e4 e5; exact wk_checked_net (C.cu (by decide +kernel)) S, F.bindsN (fun _ _ _ _ _ _ us hl => match us, hl with | [_], _ => rfl), .nil, fun _ => rfl, F.kp⟩
/-! ### depth -/
abbrev N_depth : List Str := ["net", "found", "gate", "wire"]
abbrev kn_depth : List (Option NameKind) := [some .local, some .cell, some .local, none]
abbrev gl_depth : List Str := ["max"]
abbrev kn_depth_0 : List (Option NameKind) := [none, some .free, none, some .local]
abbrev gl_depth_0 : List Str := []
abbrev kn_depth_1 : List (Option NameKind) := [none, some .free, none, some .local]
abbrev gl_depth_1 : List Str := []
def b_depth : MS := (sSeq (sAsg (m2 opMul (mLst (mCons (mCst (.d (.int 0))) mNil)) (mIdx (mVar 0) (mCst (.d (.int 0))))) (tgName 1)) (sSeq (sFor wd (iVal (mIdx (mVar 0) (mCst (.d (.int 1))))) (tgName 2) (sSeq (sExpr (mBM 4 lAppend (mVar 1) (mCons (m2 opAdd (mCst (.d (.int 1))) (mOp bMax (mCons (mLst (mCons (mCst (.d (.int 0))) (mStar (mComp wd (iVal (mSlice (mVar 2) (mPart (some (mCst (.d (.int 1))))) (mPart none))) (.one 3) mYes (mIdx (mVar 1) (mVar 3)) [3]) mNil))) mNil))) mNil))) sNext)) (sSeq (sRet (mOp bMax (mCons (mLst (mCons (mCst (.d (.int 0))) (mStar (mComp wd (iVal (mIdx (mVar 0) (mCst (.d (.int 2))))) (.one 3) mYes (mIdx (mVar 1) (mVar 3)) [3]) mNil))) mNil))) sNext)))
def m_depth : Fn := fnOf 1 4 b_depth
theorem wk_depth (C : CuS X N_depth kn_depth gl_depth 0 W) (S : Sx X.K X.mg X.w) : PSs X (defBody st_depth) (rdS X.K (Gk X.K) W b_depth) :=
  have C := C
  (rss_cons (rs_asg (sws_ok rfl) (swt_ok rfl) rfl (re_op2 op2_mul (re_lst (ra_cons (star_ok rfl) (re_int) ra_nil)) (re_idx C.u1 (ix_ok rfl) (C.v 0 rfl rfl rfl) (re_int))) (C.t 1 rfl rfl rfl)) (rss_cons (rs_for C.pass C.calm (fold_ok rfl) (pi_val (re_idx C.u1 (ix_ok rfl) (C.v 0 rfl rfl rfl) (re_int))) (C.t 2 rfl rfl rfl) (rss_cons (rs_expr (swp_ok rfl) (Cu.bm (t := 4) (.inr (.inl rfl)) plainAttrs_list PySem.F.slot_list_append rfl m_lAppend (base_ok rfl) rfl rfl rfl (C.v 1 rfl rfl rfl) (ra_cons (star_ok rfl) (re_op2 op2_add (re_int) (C.bf 0 (c_max C.calm) rfl (S.free 20 rfl) boot_max rfl (ra_cons (star_ok rfl) (re_lst (ra_cons (star_ok rfl) (re_int) (ra_star (C.lc (kn' := kn_depth_0) (gl' := gl_depth_0) (own := [("wire", 3)]) (w := wd) (t := (.one 3)) (by decide +kernel) rfl rfl (pi_val (re_slice (C.v 2 rfl rfl rfl) (ro_some (re_int)) ro_none)) (fun X' _ C => C.tg 3 rfl rfl rfl) (fun _ _ _ _ _ C => ts_nil) (fun _ _ _ _ _ C => (re_idx C.u1 (ix_ok rfl) (C.v 1 rfl rfl rfl) (C.v 3 rfl rfl rfl)))) ra_nil))) ra_nil))) ra_nil))) rss_nil)) (rss_cons (rs_ret (C.bf 0 (c_max C.calm) rfl (S.free 20 rfl) boot_max rfl (ra_cons (star_ok rfl) (re_lst (ra_cons (star_ok rfl) (re_int) (ra_star (C.lc (kn' := kn_depth_1) (gl' := gl_depth_1) (own := [("wire", 3)]) (w := wd) (t := (.one 3)) (by decide +kernel) rfl rfl (pi_val (re_idx C.u1 (ix_ok rfl) (C.v 0 rfl rfl rfl) (re_int))) (fun X' _ C => C.tg 3 rfl rfl rfl) (fun _ _ _ _ _ C => ts_nil) (fun _ _ _ _ _ C => (re_idx C.u1 (ix_ok rfl) (C.v 1 rfl rfl rfl) (C.v 3 rfl rfl rfl)))) ra_nil))) ra_nil))) rss_nil)))
theorem sc_depth : FnScope N_depth ["net"] (defScope st_depth) := ⟨rfl, rfl, rfl, by decide +kernel, rfl, by decide +kernel, by decide +kernel⟩
theorem ok_depth (S : Sx K mg w) : Cal P w K mg base (Gk K) 1 (He.ga K "depth") m_depth [] := by
  obtain ⟨fd, F⟩ := S.d.def_ 28 (d := d_depth) rfl
  exact ⟨fd, _, [], [], fn_ok F sc_depth fun X W e1 e2 e3 e4 e5 C => by subst e1 e2 e3 e4 e5; exact wk_depth (C.cu (by decide +kernel)) S, F.bindsN (fun _ _ _ _ _ _ us hl => match us, hl with | [_], _ => rfl), .nil, fun _ => rfl, F.kp⟩
/-! ### _law_two -/
abbrev N__law_two : List Str := ["scale", "many", "found", "turn"]
abbrev kn__law_two : List (Option NameKind) := [some .local, some .local, some .local, some .local]
abbrev gl__law_two : List Str := ["abs", "range"]
def b__law_two : MS := (sSeq (sPar [1, 2] (mCons (mOp bAbs (mCons (mVar 0) mNil)) (mCons (mCst (.d (.int 1))) mNil))) (sSeq (sFor wd (iRange1 (mCons (mVar 1) mNil)) (tgName 3) (sSeq (sAsg (m2 opMul (mVar 2) (mCst (.d (.int 2)))) (tgName 2)) sNext)) (sSeq (sRet (mIf (mB (m2 opGe (mVar 0) (mCst (.d (.int 0))))) (mTup (mCons (mVar 2) (mCons (mCst (.d (.int 1))) mNil))) (mTup (mCons (mCst (.d (.int 1))) (mCons (mVar 2) mNil))))) sNext)))
def m__law_two : Fn := fnOf 1 4 b__law_two
theorem wk__law_two (C : CuS X N__law_two kn__law_two gl__law_two 0 W) (S : Sx X.K X.mg X.w) : PSs X (defBody st__law_two) (rdS X.K (Gk X.K) W b__law_two) :=
  have C := C
  (rss_cons (C.par2 1 2 rfl rfl rfl rfl rfl rfl rfl rfl rfl (ra_cons (star_ok rfl) (C.bf 0 (c_abs) rfl (S.free 0 rfl) boot_abs rfl (ra_cons (star_ok rfl) (C.v 0 rfl rfl rfl) ra_nil)) (ra_cons (star_ok rfl) (re_int) ra_nil))) (rss_cons (rs_for C.pass C.calm (fold_ok rfl) (ri_range1 (C.gl 1 _ rfl) (S.free 7 rfl) (star_ok rfl) (ra_cons (star_ok rfl) (C.v 1 rfl rfl rfl) ra_nil)) (C.t 3 rfl rfl rfl) (rss_cons (rs_asg (sws_ok rfl) (swt_ok rfl) rfl (re_op2 op2_mul (C.v 2 rfl rfl rfl) (re_int)) (C.t 2 rfl rfl rfl)) rss_nil)) (rss_cons (rs_ret (re_if (rt_cmp op2_ge (C.v 0 rfl rfl rfl) (re_int) (beh_ok rfl)) (re_tup (ra_cons (star_ok rfl) (C.v 2 rfl rfl rfl) (ra_cons (star_ok rfl) (re_int) ra_nil))) (re_tup (ra_cons (star_ok rfl) (re_int) (ra_cons (star_ok rfl) (C.v 2 rfl rfl rfl) ra_nil))))) rss_nil)))
theorem sc__law_two : FnScope N__law_two ["scale"] (defScope st__law_two) := ⟨rfl, rfl, rfl, by decide +kernel, rfl, by decide +kernel, by decide +kernel⟩
theorem ok__law_two (S : Sx K mg w) : Cal P w K mg base (Gk K) 1 (He.ga K "_law_two") m__law_two [] := by
  obtain ⟨fd, F⟩ := S.d.def_ 29 (d := d__law_two) rfl
  exact ⟨fd, _, [], [], fn_ok F sc__law_two fun X W e1 e2 e3 e4 e5 C => by subst e1 e2 e3 e4 e5; exact wk__law_two (C.cu (by decide +kernel)) S, F.bindsN (fun _ _ _ _ _ _ us hl => match us, hl with | [_], _ => rfl), .nil, fun _ => rfl, F.kp⟩
/-! ### _law_some -/
abbrev N__law_some : List Str := ["bag", "things"]
abbrev kn__law_some : List (Option NameKind) := [some .local, some .local]
abbrev gl__law_some : List Str := ["_law_take", "len"]
def b__law_some : MS := (sSeq (sRet (mIdx (mVar 1) (mCall m__law_take [] (mCons (mVar 0) (mCons (mOp bLen (mCons (mVar 1) mNil)) mNil))))) sNext)
def m__law_some : Fn := fnOf 2 2 b__law_some
theorem wk__law_some (C : CuS X N__law_some kn__law_some gl__law_some 1 W) (S : Sx X.K X.mg X.w) : PSs X (defBody st__law_some) (rdS X.K (Gk X.K) W b__law_some) :=
  have C := C
  (rss_cons (rs_ret (re_idx C.u1 (ix_ok rfl) (C.v 1 rfl rfl rfl) (C.cl (ok__law_take S) rfl 0 rfl (S.glo 3 rfl) rfl (ra_cons (star_ok rfl) (C.v 0 rfl rfl rfl) (ra_cons (star_ok rfl) (C.bf 1 (c_len) rfl (S.free 8 rfl) boot_len rfl (ra_cons (star_ok rfl) (C.v 1 rfl rfl rfl) ra_nil)) ra_nil))))) rss_nil)
theorem sc__law_some : FnScope N__law_some ["bag", "things"] (defScope st__law_some) := ⟨rfl, rfl, rfl, by decide +kernel, rfl, by decide +kernel, by decide +kernel⟩
theorem ok__law_some (S : Sx K mg w) : Cal P w K mg base (Gk K) 2 (He.ga K "_law_some") m__law_some [] := by
  obtain ⟨fd, F⟩ := S.d.def_ 30 (d := d__law_some) rfl
  exact ⟨fd, _, [], [], fn_ok F sc__law_some fun X W e1 e2 e3 e4 e5 C => by subst e1 e2 e3 e4 e5; exact wk__law_some (C.cu (by decide +kernel)) S, F.bindsN (fun _ _ _ _ _ _ us hl => match us, hl with | [_, _], _ => rfl), .nil, fun _ => rfl, F.kp⟩
/-! ### driven -/
abbrev N_driven : List Str := ["word", "some"]
abbrev kn_driven : List (Option NameKind) := [some .local, some .local]
abbrev gl_driven : List Str := ["NOT", "int", "ONE"]
def b_driven : MS := (sSeq (sIf (mB (m2 opEq (mVar 0) (mCst (.d (.str k4_and))))) (sSeq (sRet (m2 opAnd (mIdx (mVar 1) (mCst (.d (.int 0)))) (mIdx (mVar 1) (mCst (.d (.int 1)))))) sNext) sNext) (sSeq (sIf (mB (m2 opEq (mVar 0) (mCst (.d (.str k5_or))))) (sSeq (sRet (m2 opOr (mIdx (mVar 1) (mCst (.d (.int 0)))) (mIdx (mVar 1) (mCst (.d (.int 1)))))) sNext) sNext) (sSeq (sIf (mB (m2 opEq (mVar 0) (mCst (.d (.str k3_xor))))) (sSeq (sRet (m2 opXor (mIdx (mVar 1) (mCst (.d (.int 0)))) (mIdx (mVar 1) (mCst (.d (.int 1)))))) sNext) sNext) (sSeq (sRet (mIf (mB (m2 opEq (mVar 0) (mCst (.d (.str k2_not))))) (m2 opSub (mCst (.d (.int 1))) (mIdx (mVar 1) (mCst (.d (.int 0))))) (mOp bInt (mCons (m2 opEq (mVar 0) (mCst (.d (.str k0_one)))) mNil)))) sNext))))
def m_driven : Fn := fnOf 2 2 b_driven
theorem wk_driven (C : CuS X N_driven kn_driven gl_driven 0 W) (S : Sx X.K X.mg X.w) : PSs X (defBody st_driven) (rdS X.K (Gk X.K) W b_driven) :=
  have C := C
  (rss_cons (rs_if (rt_cmp (op2_eq C.u64) (C.v 0 rfl rfl rfl) (re_sL k4_and_ok) (beh_ok rfl)) (rss_cons (rs_ret (re_op2 op2_and (re_idx C.u1 (ix_ok rfl) (C.v 1 rfl rfl rfl) (re_int)) (re_idx C.u1 (ix_ok rfl) (C.v 1 rfl rfl rfl) (re_int)))) rss_nil) rss_nil) (rss_cons (rs_if (rt_cmp (op2_eq C.u64) (C.v 0 rfl rfl rfl) (re_sL k5_or_ok) (beh_ok rfl)) (rss_cons (rs_ret (re_op2 op2_or (re_idx C.u1 (ix_ok rfl) (C.v 1 rfl rfl rfl) (re_int)) (re_idx C.u1 (ix_ok rfl) (C.v 1 rfl rfl rfl) (re_int)))) rss_nil) rss_nil) (rss_cons (rs_if (rt_cmp (op2_eq C.u64) (C.v 0 rfl rfl rfl) (re_sL k3_xor_ok) (beh_ok rfl)) (rss_cons (rs_ret (re_op2 op2_xor (re_idx C.u1 (ix_ok rfl) (C.v 1 rfl rfl rfl) (re_int)) (re_idx C.u1 (ix_ok rfl) (C.v 1 rfl rfl rfl) (re_int)))) rss_nil) rss_nil) (rss_cons (rs_ret (re_if (rt_cmp (op2_eq C.u64) (C.v 0 rfl rfl rfl) (C.gsL 0 rfl (S.str 17 rfl) k2_not_ok) (beh_ok rfl)) (re_op2 op2_sub (re_int) (re_idx C.u1 (ix_ok rfl) (C.v 1 rfl rfl rfl) (re_int))) (C.bT 1 (c_int) rfl (S.free 2 rfl) boot_int rfl (ra_cons (star_ok rfl) (re_cmp (op2_eq C.u64) (C.v 0 rfl rfl rfl) (C.gsL 2 rfl (S.str 10 rfl) k0_one_ok) (beh_ok rfl)) ra_nil)))) rss_nil))))
theorem sc_driven : FnScope N_driven ["word", "some"] (defScope st_driven) := ⟨rfl, rfl, rfl, by decide +kernel, rfl, by decide +kernel, by decide +kernel⟩
theorem ok_driven (S : Sx K mg w) : Cal P w K mg base (Gk K) 1 (He.ga K "driven") m_driven [] := by
  obtain ⟨fd, F⟩ := S.d.def_ 31 (d := d_driven) rfl
  exact ⟨fd, _, [], [], fn_ok F sc_driven fun X W e1 e2 e3 e4 e5 C => by subst e1 e2 e3 e4 e5; exact wk_driven (C.cu (by decide +kernel)) S, F.bindsN (fun _ _ _ _ _ _ us hl => match us, hl with | [_, _], _ => rfl), .nil, fun _ => rfl, F.kp⟩
/-! ### flow -/
abbrev N_flow : List Str := ["net", "bits", "found", "gate", "wire"]
abbrev kn_flow : List (Option NameKind) := [some .local, some .local, some .cell, some .local, none]
abbrev gl_flow : List Str := ["list", "driven", "tuple"]
abbrev kn_flow_0 : List (Option NameKind) := [none, none, some .free, none, some .local]
abbrev gl_flow_0 : List Str := []
abbrev kn_flow_1 : List (Option NameKind) := [none, none, some .free, none, some .local]
abbrev gl_flow_1 : List Str := []
def b_flow : MS := (sSeq (sAsg (mOp bList (mCons (mVar 1) mNil)) (tgName 2)) (sSeq (sFor wd (iVal (mIdx (mVar 0) (mCst (.d (.int 1))))) (tgName 3) (sSeq (sExpr (mBM 4 lAppend (mVar 2) (mCons (mCall m_driven [] (mCons (mIdx (mVar 3) (mCst (.d (.int 0)))) (mCons (mComp wd (iVal (mSlice (mVar 3) (mPart (some (mCst (.d (.int 1))))) (mPart none))) (.one 4) mYes (mIdx (mVar 2) (mVar 4)) [4]) mNil))) mNil))) sNext)) (sSeq (sRet (mOp bTuple (mCons (mComp wd (iVal (mIdx (mVar 0) (mCst (.d (.int 2))))) (.one 4) mYes (mIdx (mVar 2) (mVar 4)) [4]) mNil))) sNext)))
def m_flow : Fn := fnOf 2 5 b_flow
theorem wk_flow (C : CuS X N_flow kn_flow gl_flow 1 W) (S : Sx X.K X.mg X.w) : PSs X (defBody st_flow) (rdS X.K (Gk X.K) W b_flow) :=
  have C := C
  (rss_cons (rs_asg (sws_ok rfl) (swt_ok rfl) rfl (C.bT 0 (c_list) rfl (S.free 51 rfl) boot_list rfl (ra_cons (star_ok rfl) (C.v 1 rfl rfl rfl) ra_nil)) (C.t 2 rfl rfl rfl)) (rss_cons (rs_for C.pass C.calm (fold_ok rfl) (pi_val (re_idx C.u1 (ix_ok rfl) (C.v 0 rfl rfl rfl) (re_int))) (C.t 3 rfl rfl rfl) (rss_cons (rs_expr (swp_ok rfl) (Cu.bm (t := 4) (.inr (.inl rfl)) plainAttrs_list PySem.F.slot_list_append rfl m_lAppend (base_ok rfl) rfl rfl rfl (C.v 2 rfl rfl rfl) (ra_cons (star_ok rfl) (C.cl (ok_driven S) rfl 1 rfl (S.glo 52 rfl) rfl (ra_cons (star_ok rfl) (re_idx C.u1 (ix_ok rfl) (C.v 3 rfl rfl rfl) (re_int)) (ra_cons (star_ok rfl) (C.lc (kn' := kn_flow_0) (gl' := gl_flow_0) (own := [("wire", 4)]) (w := wd) (t := (.one 4)) (by decide +kernel) rfl rfl (pi_val (re_slice (C.v 3 rfl rfl rfl) (ro_some (re_int)) ro_none)) (fun X' _ C => C.tg 4 rfl rfl rfl) (fun _ _ _ _ _ C => ts_nil) (fun _ _ _ _ _ C => (re_idx C.u1 (ix_ok rfl) (C.v 2 rfl rfl rfl) (C.v 4 rfl rfl rfl)))) ra_nil))) ra_nil))) rss_nil)) (rss_cons (rs_ret (C.bT 2 (c_tuple) rfl (S.free 6 rfl) boot_tuple rfl (ra_cons (star_ok rfl) (C.lc (kn' := kn_flow_1) (gl' := gl_flow_1) (own := [("wire", 4)]) (w := wd) (t := (.one 4)) (by decide +kernel) rfl rfl (pi_val (re_idx C.u1 (ix_ok rfl) (C.v 0 rfl rfl rfl) (re_int))) (fun X' _ C => C.tg 4 rfl rfl rfl) (fun _ _ _ _ _ C => ts_nil) (fun _ _ _ _ _ C => (re_idx C.u1 (ix_ok rfl) (C.v 2 rfl rfl rfl) (C.v 4 rfl rfl rfl)))) ra_nil))) rss_nil)))
theorem sc_flow : FnScope N_flow ["net", "bits"] (defScope st_flow) := ⟨rfl, rfl, rfl, by decide +kernel, rfl, by decide +kernel, by decide +kernel⟩
theorem ok_flow (S : Sx K mg w) : Cal P w K mg base (Gk K) 2 (He.ga K "flow") m_flow [] := by
  obtain ⟨fd, F⟩ := S.d.def_ 32 (d := d_flow) rfl
  exact ⟨fd, _, [], [], fn_ok F sc_flow fun X W e1 e2 e3 e4 e5 C => by subst e1 e2 e3 e4 e5; exact wk_flow (C.cu (by decide +kernel)) S, F.bindsN (fun _ _ _ _ _ _ us hl => match us, hl with | [_, _], _ => rfl), .nil, fun _ => rfl, F.kp⟩
/-! ### _law_bits -/
abbrev N__law_bits : List Str := ["number", "width", "whole", "found", "turn"]
abbrev kn__law_bits : List (Option NameKind) := [some .local, some .local, some .local, some .local, some .local]
abbrev gl__law_bits : List Str := ["_law_two", "range", "int"]
def b__law_bits : MS := (sSeq (sPar [2, 3] (mCons (mIf (mB (m2 opGe (mVar 0) (mCst (.d (.int 0))))) (mVar 0) (m2 opAdd (mVar 0) (mIdx (mCall m__law_two [] (mCons (mVar 1) mNil)) (mCst (.d (.int 0)))))) (mCons (mLst mNil) mNil))) (sSeq (sFor wd (iRange1 (mCons (mVar 1) mNil)) (tgName 4) (sSeq (sExpr (mBM 4 lAppend (mVar 3) (mCons (m2 opMod (mOp bInt (mCons (mVar 2) mNil)) (mCst (.d (.int 2)))) mNil))) (sSeq (sAsg (m2 opFdiv (mOp bInt (mCons (mVar 2) mNil)) (mCst (.d (.int 2)))) (tgName 2)) sNext))) (sSeq (sRet (mVar 3)) sNext)))
def m__law_bits : Fn := fnOf 2 5 b__law_bits
theorem wk__law_bits (C : CuS X N__law_bits kn__law_bits gl__law_bits 1 W) (S : Sx X.K X.mg X.w) : PSs X (defBody st__law_bits) (rdS X.K (Gk X.K) W b__law_bits) :=
  have C := C
  (rss_cons (C.par2 2 3 rfl rfl rfl rfl rfl rfl rfl rfl rfl (ra_cons (star_ok rfl) (re_if (rt_cmp op2_ge (C.v 0 rfl rfl rfl) (re_int) (beh_ok rfl)) (C.v 0 rfl rfl rfl) (re_op2 op2_add (C.v 0 rfl rfl rfl) (re_idx C.u1 (ix_ok rfl) (C.cl (ok__law_two S) rfl 0 rfl (S.glo 49 rfl) rfl (ra_cons (star_ok rfl) (C.v 1 rfl rfl rfl) ra_nil)) (re_int)))) (ra_cons (star_ok rfl) (re_lst ra_nil) ra_nil))) (rss_cons (rs_for C.pass C.calm (fold_ok rfl) (ri_range1 (C.gl 1 _ rfl) (S.free 7 rfl) (star_ok rfl) (ra_cons (star_ok rfl) (C.v 1 rfl rfl rfl) ra_nil)) (C.t 4 rfl rfl rfl) (rss_cons (rs_expr (swp_ok rfl) (Cu.bm (t := 4) (.inr (.inl rfl)) plainAttrs_list PySem.F.slot_list_append rfl m_lAppend (base_ok rfl) rfl rfl rfl (C.v 3 rfl rfl rfl) (ra_cons (star_ok rfl) (re_op2 op2_mod (C.bT 2 (c_int) rfl (S.free 2 rfl) boot_int rfl (ra_cons (star_ok rfl) (C.v 2 rfl rfl rfl) ra_nil)) (re_int)) ra_nil))) (rss_cons (rs_asg (sws_ok rfl) (swt_ok rfl) rfl (re_op2 op2_fdiv (C.bT 2 (c_int) rfl (S.free 2 rfl) boot_int rfl (ra_cons (star_ok rfl) (C.v 2 rfl rfl rfl) ra_nil)) (re_int)) (C.t 2 rfl rfl rfl)) rss_nil))) (rss_cons (rs_ret (C.v 3 rfl rfl rfl)) rss_nil)))
theorem sc__law_bits : FnScope N__law_bits ["number", "width"] (defScope st__law_bits) := ⟨rfl, rfl, rfl, by decide +kernel, rfl, by decide +kernel, by decide +kernel⟩
theorem ok__law_bits (S : Sx K mg w) : Cal P w K mg base (Gk K) 2 (He.ga K "_law_bits") m__law_bits [] := by
  obtain ⟨fd, F⟩ := S.d.def_ 33 (d := d__law_bits) rfl
  exact ⟨fd, _, [], [], fn_ok F sc__law_bits fun X W e1 e2 e3 e4 e5 C => by subst e1 e2 e3 e4 e5; exact wk__law_bits (C.cu (by decide +kernel)) S, F.bindsN (fun _ _ _ _ _ _ us hl => match us, hl with | [_, _], _ => rfl), .nil, fun _ => rfl, F.kp⟩
/-! ### _law_integer -/
abbrev N__law_integer : List Str := ["bits", "found", "power", "bit"]
abbrev kn__law_integer : List (Option NameKind) := [some .local, some .local, some .local, some .local]
abbrev gl__law_integer : List Str := []
def b__law_integer : MS := (sSeq (sAsg (mTup (mCons (mCst (.d (.int 0))) (mCons (mCst (.d (.int 1))) mNil))) (tgTup 2 (tgCons (tgName 1) (tgCons (tgName 2) tgNil)))) (sSeq (sFor wd (iVal (mSlice (mVar 0) (mPart none) (mPart (some (m1 opNeg (mCst (.d (.int 1)))))))) (tgName 3) (sSeq (sPar [1, 2] (mCons (m2 opAdd (mVar 1) (m2 opMul (mVar 3) (mVar 2))) (mCons (m2 opMul (mVar 2) (mCst (.d (.int 2)))) mNil))) sNext)) (sSeq (sRet (m2 opSub (mVar 1) (m2 opMul (mIdx (mVar 0) (m1 opNeg (mCst (.d (.int 1))))) (mVar 2)))) sNext)))
def m__law_integer : Fn := fnOf 1 4 b__law_integer
theorem wk__law_integer (C : CuS X N__law_integer kn__law_integer gl__law_integer 0 W) (S : Sx X.K X.mg X.w) : PSs X (defBody st__law_integer) (rdS X.K (Gk X.K) W b__law_integer) :=
  have C := C
  (rss_cons (rs_asg (swsN_ok rfl) (swf_ok rfl) rfl (re_tup (ra_cons (star_ok rfl) (re_int) (ra_cons (star_ok rfl) (re_int) ra_nil))) (rg_tup C.calm rfl rfl (rgs_cons rfl (C.t 1 rfl rfl rfl) (rgs_cons rfl (C.t 2 rfl rfl rfl) rgs_nil)))) (rss_cons (rs_for C.pass C.calm (fold_ok rfl) (pi_val (re_slice (C.v 0 rfl rfl rfl) ro_none (ro_some (re_op1 op1_neg (re_int))))) (C.t 3 rfl rfl rfl) (rss_cons (C.par2 1 2 rfl rfl rfl rfl rfl rfl rfl rfl rfl (ra_cons (star_ok rfl) (re_op2 op2_add (C.v 1 rfl rfl rfl) (re_op2 op2_mul (C.v 3 rfl rfl rfl) (C.v 2 rfl rfl rfl))) (ra_cons (star_ok rfl) (re_op2 op2_mul (C.v 2 rfl rfl rfl) (re_int)) ra_nil))) rss_nil)) (rss_cons (rs_ret (re_op2 op2_sub (C.v 1 rfl rfl rfl) (re_op2 op2_mul (re_idx C.u1 (ix_ok rfl) (C.v 0 rfl rfl rfl) (re_op1 op1_neg (re_int))) (C.v 2 rfl rfl rfl)))) rss_nil)))
theorem sc__law_integer : FnScope N__law_integer ["bits"] (defScope st__law_integer) := ⟨rfl, rfl, rfl, by decide +kernel, rfl, by decide +kernel, by decide +kernel⟩
theorem ok__law_integer (S : Sx K mg w) : Cal P w K mg base (Gk K) 1 (He.ga K "_law_integer") m__law_integer [] := by
  obtain ⟨fd, F⟩ := S.d.def_ 34 (d := d__law_integer) rfl
  exact ⟨fd, _, [], [], fn_ok F sc__law_integer fun X W e1 e2 e3 e4 e5 C => by subst e1 e2 e3 e4 e5; exact wk__law_integer (C.cu (by decide +kernel)) S, F.bindsN (fun _ _ _ _ _ _ us hl => match us, hl with | [_], _ => rfl), .nil, fun _ => rfl, F.kp⟩
/-! ### law -/
abbrev N_law : List Str := [Str.ofString "script", Str.ofString "bag", Str.ofString "width", Str.ofString "other_width", Str.ofString "board", Str.ofString "a", Str.ofString "b", Str.ofString "c", Str.ofString "one", Str.ofString "other", Str.ofString "added", Str.ofString "less", Str.ofString "product", Str.ofString "below", Str.ofString "number", Str.ofString "longest", Str.ofString "wide_one", Str.ofString "wide_other", Str.ofString "rails", Str.ofString "wires", Str.ofString "ends", Str.ofString "rail", Str.ofString "net", Str.ofString "half", Str.ofString "its_half", Str.ofString "turn", Str.ofString "mine", Str.ofString "its", Str.ofString "told", Str.ofString "found", Str.ofString "place", Str.ofString "due", Str.ofString "top", Str.ofString "truths", Str.ofString "truth"]
abbrev kn_law : List (Option NameKind) := [some .local, some .local, some .local, some .local, some .local, some .local, some .local, some .local, some .local, some .local, some .local, some .local, some .local, some .local, some .local, some .local, some .local, some .local, some .local, some .local, some .local, some .local, some .local, some .local, some .local, some .local, some .local, some .local, some .local, some .local, some .local, some .local, some .local, some .local, none]
abbrev gl_law : List Str := ["_law_bag", "_law_take", "Board", "tuple", "range", "max", "_law_alike", "checked_net", "depth", "len", "_law_two", "_law_some", "flow", "_law_bits", "_law_integer", "int", "min", "list"]
abbrev kn_law_0 : List (Option NameKind) := [none, none, none, none, none, none, none, none, none, none, none, none, none, none, none, none, none, none, none, none, none, none, none, none, none, none, none, none, none, none, none, none, none, none, some .local]
abbrev gl_law_0 : List Str := ["int"]
def b_law : MS := (sSeq (sAsg (mCall m__law_bag [] (mCons (mVar 0) mNil)) (tgName 1)) (sSeq (sPar [2, 3] (mCons (m2 opAdd (mCst (.d (.int 8))) (mCall m__law_take [] (mCons (mVar 1) (mCons (mCst (.d (.int 7))) mNil)))) (mCons (m2 opAdd (mCst (.d (.int 8))) (mCall m__law_take [] (mCons (mVar 1) (mCons (mCst (.d (.int 13))) mNil)))) mNil))) (sSeq (sAsg (mTup (mCons (mMake C_Board m_Board___init__ [] (mCons (m2 opAdd (mVar 2) (mVar 3)) mNil)) (mCons (mCall m__law_take [] (mCons (mVar 1) (mCons (mCst (.d (.int 12))) mNil))) (mCons (mCall m__law_take [] (mCons (mVar 1) (mCons (mCst (.d (.int 12))) mNil))) (mCons (m2 opSub (mCall m__law_take [] (mCons (mVar 1) (mCons (mCst (.d (.int 2000))) mNil))) (mCst (.d (.int 1000)))) mNil))))) (tgTup 4 (tgCons (tgName 4) (tgCons (tgName 5) (tgCons (tgName 6) (tgCons (tgName 7) tgNil)))))) (sSeq (sPar [8, 9] (mCons (mRg newT (mCons (mVar 2) mNil)) (mCons (mRg newT (mCons (mVar 2) (mCons (m2 opAdd (mVar 2) (mVar 3)) mNil))) mNil))) (sSeq (sPar [10, 11, 12] (mCons (mMeth C_Board F_added m_Board_added [] (mVar 4) (mCons (mVar 8) (mCons (mVar 9) mNil))) (mCons (mMeth C_Board F_less m_Board_less [] (mVar 4) (mCons (mVar 8) (mCons (mVar 9) mNil))) (mCons (mMeth C_Board F_product m_Board_product [] (mVar 4) (mCons (mVar 8) (mCons (mVar 9) mNil))) mNil)))) (sSeq (sPar [13, 14] (mCons (mMeth C_Board F_is_below m_Board_is_below [] (mVar 4) (mCons (mVar 8) (mCons (mVar 9) mNil))) (mCons (mMeth C_Board F_number m_Board_number [] (mVar 4) (mCons (mVar 7) (mCons (mCst (.d (.int 12))) mNil))) mNil))) (sSeq (sAsg (mOp bMax (mCons (mVar 2) (mCons (mVar 3) mNil))) (tgName 15)) (sSeq (sPar [16, 17] (mCons (mMeth C_Board F_stretched m_Board_stretched [] (mVar 4) (mCons (mVar 8) (mCons (m2 opAdd (mVar 15) (mCst (.d (.int 2)))) mNil))) (mCons (mMeth C_Board F_stretched m_Board_stretched [] (mVar 4) (mCons (mVar 9) (mCons (m2 opAdd (mVar 15) (mCst (.d (.int 2)))) mNil))) mNil))) (sSeq (sAsg (mLst (mCons (mVar 10) (mCons (mVar 11) (mCons (mVar 12) (mCons (mMeth C_Board F_halved m_Board_halved [] (mVar 4) (mCons (mVar 8) (mCons (mVar 5) mNil))) (mCons (mMeth C_Board F_doubled m_Board_doubled [] (mVar 4) (mCons (mVar 9) (mCons (mVar 6) mNil))) mNil)))))) (tgName 18)) (sSeq (sAsg (m2 opAdd (mVar 18) (mLst (mCons (mMeth C_Board F_chosen m_Board_chosen [] (mVar 4) (mCons (mVar 13) (mCons (mVar 16) (mCons (mVar 17) mNil)))) (mCons (mVar 14) mNil)))) (tgName 18)) (sSeq (sExpr (mBM 4 lAppend (mVar 18) (mCons (mMeth C_Board F_added m_Board_added [] (mVar 4) (mCons (mMeth C_Board F_product m_Board_product [] (mVar 4) (mCons (mVar 8) (mCons (mVar 14) mNil))) (mCons (mMeth C_Board F_halved m_Board_halved [] (mVar 4) (mCons (mVar 10) (mCons (mCst (.d (.int 1))) mNil))) mNil))) mNil))) (sSeq (sAsg (m2 opAdd (mVar 18) (mLst (mCons (mMeth C_Board F_less m_Board_less [] (mVar 4) (mCons (mVar 14) (mCons (mVar 11) mNil))) (mCons (mVar 16) mNil)))) (tgName 18)) (sSeq (sAsg (mLst (mCons (mVar 13) (mCons (mMeth C_Board F_is_wide m_Board_is_wide [] (mVar 4) (mCons (mVar 10) (mCons (mCst (.d (.int 10))) mNil))) (mCons (mMeth C_Board F_is_wide m_Board_is_wide [] (mVar 4) (mCons (mVar 12) (mCons (mVar 15) mNil))) mNil)))) (tgName 19)) (sSeq (sAsg (m2 opAdd (mVar 19) (mLst (mCons (mMeth C_Board F_gate m_Board_gate [.non] (mVar 4) (mCons (mCst (.d (.str k2_not))) (mCons (mVar 13) mNil))) (mCons (mMeth C_Board F_constant m_Board_constant [] (mVar 4) (mCons (mCst (.d (.int 1))) mNil)) mNil)))) (tgName 19)) (sSeq (sAsg (mTup mNil) (tgName 20)) (sSeq (sFor wd (iVal (mVar 18)) (tgName 21) (sSeq (sAsg (m2 opAdd (mVar 20) (mOp bTuple (mCons (mVar 21) mNil))) (tgName 20)) sNext)) (sSeq (sAsg (mMeth C_Board F_net m_Board_net [] (mVar 4) (mCons (m2 opAdd (mVar 20) (mOp bTuple (mCons (mVar 19) mNil))) mNil)) (tgName 22)) (sSeq (sIf ((mOr (mNot (mTruth (mCall m__law_alike [] (mCons (mCall m_checked_net [] (mCons (mVar 22) mNil)) (mCons (mVar 22) mNil))))) (mB (m2 opGt (mCall m_depth [] (mCons (mVar 22) mNil)) (mOp bLen (mCons (mIdx (mVar 22) (mCst (.d (.int 1)))) mNil)))))) (sSeq (sRet (mCst (.d (.bl false)))) sNext) sNext) (sSeq (sPar [23, 24] (mCons (mIdx (mCall m__law_two [] (mCons (m2 opSub (mVar 2) (mCst (.d (.int 1)))) mNil)) (mCst (.d (.int 0)))) (mCons (mIdx (mCall m__law_two [] (mCons (m2 opSub (mVar 3) (mCst (.d (.int 1)))) mNil)) (mCst (.d (.int 0)))) mNil))) (sSeq (sFor wd (iRange1 (mCons (mCst (.d (.int 10))) mNil)) (tgName 25) (sSeq (sAsg (mCall m__law_some [] (mCons (mVar 1) (mCons (mLst (mCons (m2 opSub (mVar 23) (mCst (.d (.int 1)))) (mCons (m1 opNeg (mVar 23)) (mCons (mCst (.d (.int 0))) (mCons (m1 opNeg (mCst (.d (.int 1)))) (mCons (m2 opSub (mCall m__law_take [] (mCons (mVar 1) (mCons (m2 opMul (mCst (.d (.int 2))) (mVar 23)) mNil))) (mVar 23)) mNil)))))) mNil))) (tgName 26)) (sSeq (sAsg (mCall m__law_some [] (mCons (mVar 1) (mCons (mLst (mCons (m2 opSub (mVar 24) (mCst (.d (.int 1)))) (mCons (m1 opNeg (mVar 24)) (mCons (mCst (.d (.int 0))) (mCons (mCst (.d (.int 1))) (mCons (m2 opSub (mCall m__law_take [] (mCons (mVar 1) (mCons (m2 opMul (mCst (.d (.int 2))) (mVar 24)) mNil))) (mVar 24)) (mCons (mVar 26) mNil))))))) mNil))) (tgName 27)) (sSeq (sAsg (mIf (mB (mChain opLe opLt (m1 opNeg (mVar 24)) (mVar 27) (mVar 24))) (mVar 27) (mCst (.d (.int 5)))) (tgName 27)) (sSeq (sAsg (mCall m_flow [] (mCons (mVar 22) (mCons (mOp bTuple (mCons (m2 opAdd (mCall m__law_bits [] (mCons (mVar 26) (mCons (mVar 2) mNil))) (mCall m__law_bits [] (mCons (mVar 27) (mCons (mVar 3) mNil)))) mNil)) mNil))) (tgName 28)) (sSeq (sPar [29, 30] (mCons (mLst mNil) (mCons (mCst (.d (.int 0))) mNil))) (sSeq (sFor wd (iVal (mVar 18)) (tgName 21) (sSeq (sExpr (mBM 4 lAppend (mVar 29) (mCons (mCall m__law_integer [] (mCons (mSlice (mVar 28) (mPart (some (mVar 30))) (mPart (some (m2 opAdd (mVar 30) (mOp bLen (mCons (mVar 21) mNil)))))) mNil)) mNil))) (sSeq (sAug 30 ipAdd (mOp bLen (mCons (mVar 21) mNil))) sNext))) (sSeq (sAsg (mLst (mCons (m2 opAdd (mVar 26) (mVar 27)) (mCons (m2 opSub (mVar 26) (mVar 27)) (mCons (m2 opMul (mVar 26) (mVar 27)) (mCons (m2 opFdiv (mOp bInt (mCons (mVar 26) mNil)) (mIdx (mCall m__law_two [] (mCons (mVar 5) mNil)) (mCst (.d (.int 0))))) (mCons (m2 opMul (mVar 27) (mIdx (mCall m__law_two [] (mCons (mVar 6) mNil)) (mCst (.d (.int 0))))) (mCons (mOp bMin (mCons (mVar 26) (mCons (mVar 27) mNil))) (mCons (mVar 7) mNil)))))))) (tgName 31)) (sSeq (sAsg (m2 opAdd (mVar 31) (mLst (mCons (m2 opAdd (m2 opMul (mVar 26) (mVar 7)) (m2 opFdiv (mOp bInt (mCons (m2 opAdd (mVar 26) (mVar 27)) mNil)) (mCst (.d (.int 2))))) (mCons (m2 opSub (mVar 7) (m2 opSub (mVar 26) (mVar 27))) (mCons (mVar 26) mNil))))) (tgName 31)) (sSeq (sIf (mNot (mTruth (mCall m__law_alike [] (mCons (mVar 29) (mCons (mVar 31) mNil))))) (sSeq (sRet (mCst (.d (.bl false)))) sNext) sNext) (sSeq (sAsg (mIdx (mCall m__law_two [] (mCons (m2 opSub (mVar 15) (mCst (.d (.int 1)))) mNil)) (mCst (.d (.int 0)))) (tgName 32)) (sSeq (sAsg (mLst (mCons (m2 opLt (mVar 26) (mVar 27)) (mCons (mNotV (mChain opLe opLt (m1 opNeg (mCst (.d (.int 512)))) (m2 opAdd (mVar 26) (mVar 27)) (mCst (.d (.int 512))))) (mCons (mNotV (mChain opLe opLt (m1 opNeg (mVar 32)) (m2 opMul (mVar 26) (mVar 27)) (mVar 32))) (mCons (m2 opGe (mVar 26) (mVar 27)) (mCons (mCst (.d (.bl true))) mNil)))))) (tgName 33)) (sSeq (sIf (mB (m2 opNe (mOp bList (mCons (mSlice (mVar 28) (mPart (some (mVar 30))) (mPart none)) mNil)) (mComp wd (iVal (mVar 33)) (.one 34) mYes (mOp bInt (mCons (mVar 34) mNil)) [34]))) (sSeq (sRet (mCst (.d (.bl false)))) sNext) sNext) sNext))))))))))))) (sSeq (sRet (mCst (.d (.bl true)))) sNext)))))))))))))))))))))
def m_law : Fn := fnOf 1 35 b_law
theorem wk_law (C : CuS X N_law kn_law gl_law 9 W) (S : Sx X.K X.mg X.w) (hG : X.A.guards = some []) : PSs X (defBody st_law) (rdS X.K (Gk X.K) W b_law) :=
  have C := C
  (rss_cons (rs_asg (sws_ok rfl) (swt_ok rfl) rfl (C.cl (ok__law_bag S) rfl 0 rfl (S.glo 1 rfl) rfl (ra_cons (star_ok rfl) (C.v 0 rfl rfl rfl) ra_nil)) (C.t 1 rfl rfl rfl)) (rss_cons (C.par2 2 3 rfl rfl rfl rfl rfl rfl rfl rfl rfl (ra_cons (star_ok rfl) (re_op2 op2_add (re_int) (C.cl (ok__law_take S) rfl 1 rfl (S.glo 3 rfl) rfl (ra_cons (star_ok rfl) (C.v 1 rfl rfl rfl) (ra_cons (star_ok rfl) (re_int) ra_nil)))) (ra_cons (star_ok rfl) (re_op2 op2_add (re_int) (C.cl (ok__law_take S) rfl 1 rfl (S.glo 3 rfl) rfl (ra_cons (star_ok rfl) (C.v 1 rfl rfl rfl) (ra_cons (star_ok rfl) (re_int) ra_nil)))) ra_nil))) (rss_cons (rs_asg (swsN_ok rfl) (swl_ok rfl) rfl (re_tup (ra_cons (star_ok rfl) (C.nw (as := as) C_Board rfl (S.mkr 5 rfl) (ok_Board___init__ S) rfl 2 rfl (S.glo 4 rfl) rfl (ra_cons (star_ok rfl) (re_op2 op2_add (C.v 2 rfl rfl rfl) (C.v 3 rfl rfl rfl)) ra_nil)) (ra_cons (star_ok rfl) (C.cl (ok__law_take S) rfl 1 rfl (S.glo 3 rfl) rfl (ra_cons (star_ok rfl) (C.v 1 rfl rfl rfl) (ra_cons (star_ok rfl) (re_int) ra_nil))) (ra_cons (star_ok rfl) (C.cl (ok__law_take S) rfl 1 rfl (S.glo 3 rfl) rfl (ra_cons (star_ok rfl) (C.v 1 rfl rfl rfl) (ra_cons (star_ok rfl) (re_int) ra_nil))) (ra_cons (star_ok rfl) (re_op2 op2_sub (C.cl (ok__law_take S) rfl 1 rfl (S.glo 3 rfl) rfl (ra_cons (star_ok rfl) (C.v 1 rfl rfl rfl) (ra_cons (star_ok rfl) (re_int) ra_nil))) (re_int)) ra_nil))))) (rg_tup C.calm rfl rfl (rgs_cons rfl (C.t 4 rfl rfl rfl) (rgs_cons rfl (C.t 5 rfl rfl rfl) (rgs_cons rfl (C.t 6 rfl rfl rfl) (rgs_cons rfl (C.t 7 rfl rfl rfl) rgs_nil)))))) (rss_cons (C.par2 8 9 rfl rfl rfl rfl rfl rfl rfl rfl rfl (ra_cons (star_ok rfl) (C.tRg 3 4 rfl (S.free 6 rfl) rfl (S.free 7 rfl) rfl (.inl rfl) (ra_cons (star_ok rfl) (C.v 2 rfl rfl rfl) ra_nil)) (ra_cons (star_ok rfl) (C.tRg 3 4 rfl (S.free 6 rfl) rfl (S.free 7 rfl) rfl (.inr rfl) (ra_cons (star_ok rfl) (C.v 2 rfl rfl rfl) (ra_cons (star_ok rfl) (re_op2 op2_add (C.v 2 rfl rfl rfl) (C.v 3 rfl rfl rfl)) ra_nil))) ra_nil))) (rss_cons (C.par3 10 11 12 rfl rfl rfl rfl rfl rfl rfl rfl rfl rfl rfl rfl (ra_cons (star_ok rfl) (C.m (hL S) C_Board rfl F_added rfl (S.meth 30 rfl) (ok_Board_added S) rfl rfl rfl (C.v 4 rfl rfl rfl) (ra_cons (star_ok rfl) (C.v 8 rfl rfl rfl) (ra_cons (star_ok rfl) (C.v 9 rfl rfl rfl) ra_nil))) (ra_cons (star_ok rfl) (C.m (hL S) C_Board rfl F_less rfl (S.meth 29 rfl) (ok_Board_less S) rfl rfl rfl (C.v 4 rfl rfl rfl) (ra_cons (star_ok rfl) (C.v 8 rfl rfl rfl) (ra_cons (star_ok rfl) (C.v 9 rfl rfl rfl) ra_nil))) (ra_cons (star_ok rfl) (C.m (hL S) C_Board rfl F_product rfl (S.meth 28 rfl) (ok_Board_product S) rfl rfl rfl (C.v 4 rfl rfl rfl) (ra_cons (star_ok rfl) (C.v 8 rfl rfl rfl) (ra_cons (star_ok rfl) (C.v 9 rfl rfl rfl) ra_nil))) ra_nil)))) (rss_cons (C.par2 13 14 rfl rfl rfl rfl rfl rfl rfl rfl rfl (ra_cons (star_ok rfl) (C.m (hL S) C_Board rfl F_is_below rfl (S.meth 31 rfl) (ok_Board_is_below S) rfl rfl rfl (C.v 4 rfl rfl rfl) (ra_cons (star_ok rfl) (C.v 8 rfl rfl rfl) (ra_cons (star_ok rfl) (C.v 9 rfl rfl rfl) ra_nil))) (ra_cons (star_ok rfl) (C.m (hL S) C_Board rfl F_number rfl (S.meth 14 rfl) (ok_Board_number S) rfl rfl rfl (C.v 4 rfl rfl rfl) (ra_cons (star_ok rfl) (C.v 7 rfl rfl rfl) (ra_cons (star_ok rfl) (re_int) ra_nil))) ra_nil))) (rss_cons (rs_asg (sws_ok rfl) (swt_ok rfl) rfl (C.bf 5 (c_max C.calm) rfl (S.free 20 rfl) boot_max rfl (ra_cons (star_ok rfl) (C.v 2 rfl rfl rfl) (ra_cons (star_ok rfl) (C.v 3 rfl rfl rfl) ra_nil))) (C.t 15 rfl rfl rfl)) (rss_cons (C.par2 16 17 rfl rfl rfl rfl rfl rfl rfl rfl rfl (ra_cons (star_ok rfl) (C.m (hL S) C_Board rfl F_stretched rfl (S.meth 25 rfl) (ok_Board_stretched S) rfl rfl rfl (C.v 4 rfl rfl rfl) (ra_cons (star_ok rfl) (C.v 8 rfl rfl rfl) (ra_cons (star_ok rfl) (re_op2 op2_add (C.v 15 rfl rfl rfl) (re_int)) ra_nil))) (ra_cons (star_ok rfl) (C.m (hL S) C_Board rfl F_stretched rfl (S.meth 25 rfl) (ok_Board_stretched S) rfl rfl rfl (C.v 4 rfl rfl rfl) (ra_cons (star_ok rfl) (C.v 9 rfl rfl rfl) (ra_cons (star_ok rfl) (re_op2 op2_add (C.v 15 rfl rfl rfl) (re_int)) ra_nil))) ra_nil))) (rss_cons (rs_asg (sws_ok rfl) (swt_ok rfl) rfl (re_lst (ra_cons (star_ok rfl) (C.v 10 rfl rfl rfl) (ra_cons (star_ok rfl) (C.v 11 rfl rfl rfl) (ra_cons (star_ok rfl) (C.v 12 rfl rfl rfl) (ra_cons (star_ok rfl) (C.m (hL S) C_Board rfl F_halved rfl (S.meth 32 rfl) (ok_Board_halved S) rfl rfl rfl (C.v 4 rfl rfl rfl) (ra_cons (star_ok rfl) (C.v 8 rfl rfl rfl) (ra_cons (star_ok rfl) (C.v 5 rfl rfl rfl) ra_nil))) (ra_cons (star_ok rfl) (C.m (hL S) C_Board rfl F_doubled rfl (S.meth 16 rfl) (ok_Board_doubled S) rfl rfl rfl (C.v 4 rfl rfl rfl) (ra_cons (star_ok rfl) (C.v 9 rfl rfl rfl) (ra_cons (star_ok rfl) (C.v 6 rfl rfl rfl) ra_nil))) ra_nil)))))) (C.t 18 rfl rfl rfl)) (rss_cons (rs_asg (sws_ok rfl) (swt_ok rfl) rfl (re_op2 op2_add (C.v 18 rfl rfl rfl) (re_lst (ra_cons (star_ok rfl) (C.m (hL S) C_Board rfl F_chosen rfl (S.meth 33 rfl) (ok_Board_chosen S) rfl rfl rfl (C.v 4 rfl rfl rfl) (ra_cons (star_ok rfl) (C.v 13 rfl rfl rfl) (ra_cons (star_ok rfl) (C.v 16 rfl rfl rfl) (ra_cons (star_ok rfl) (C.v 17 rfl rfl rfl) ra_nil)))) (ra_cons (star_ok rfl) (C.v 14 rfl rfl rfl) ra_nil)))) (C.t 18 rfl rfl rfl)) (rss_cons (rs_expr (swp_ok rfl) (Cu.bm (t := 4) (.inr (.inl rfl)) plainAttrs_list PySem.F.slot_list_append rfl m_lAppend (base_ok rfl) rfl rfl rfl (C.v 18 rfl rfl rfl) (ra_cons (star_ok rfl) (C.m (hL S) C_Board rfl F_added rfl (S.meth 30 rfl) (ok_Board_added S) rfl rfl rfl (C.v 4 rfl rfl rfl) (ra_cons (star_ok rfl) (C.m (hL S) C_Board rfl F_product rfl (S.meth 28 rfl) (ok_Board_product S) rfl rfl rfl (C.v 4 rfl rfl rfl) (ra_cons (star_ok rfl) (C.v 8 rfl rfl rfl) (ra_cons (star_ok rfl) (C.v 14 rfl rfl rfl) ra_nil))) (ra_cons (star_ok rfl) (C.m (hL S) C_Board rfl F_halved rfl (S.meth 32 rfl) (ok_Board_halved S) rfl rfl rfl (C.v 4 rfl rfl rfl) (ra_cons (star_ok rfl) (C.v 10 rfl rfl rfl) (ra_cons (star_ok rfl) (re_int) ra_nil))) ra_nil))) ra_nil))) (rss_cons (rs_asg (sws_ok rfl) (swt_ok rfl) rfl (re_op2 op2_add (C.v 18 rfl rfl rfl) (re_lst (ra_cons (star_ok rfl) (C.m (hL S) C_Board rfl F_less rfl (S.meth 29 rfl) (ok_Board_less S) rfl rfl rfl (C.v 4 rfl rfl rfl) (ra_cons (star_ok rfl) (C.v 14 rfl rfl rfl) (ra_cons (star_ok rfl) (C.v 11 rfl rfl rfl) ra_nil))) (ra_cons (star_ok rfl) (C.v 16 rfl rfl rfl) ra_nil)))) (C.t 18 rfl rfl rfl)) (rss_cons (rs_asg (sws_ok rfl) (swt_ok rfl) rfl (re_lst (ra_cons (star_ok rfl) (C.v 13 rfl rfl rfl) (ra_cons (star_ok rfl) (C.m (hL S) C_Board rfl F_is_wide rfl (S.meth 34 rfl) (ok_Board_is_wide S) rfl rfl rfl (C.v 4 rfl rfl rfl) (ra_cons (star_ok rfl) (C.v 10 rfl rfl rfl) (ra_cons (star_ok rfl) (re_int) ra_nil))) (ra_cons (star_ok rfl) (C.m (hL S) C_Board rfl F_is_wide rfl (S.meth 34 rfl) (ok_Board_is_wide S) rfl rfl rfl (C.v 4 rfl rfl rfl) (ra_cons (star_ok rfl) (C.v 12 rfl rfl rfl) (ra_cons (star_ok rfl) (C.v 15 rfl rfl rfl) ra_nil))) ra_nil)))) (C.t 19 rfl rfl rfl)) (rss_cons (rs_asg (sws_ok rfl) (swt_ok rfl) rfl (re_op2 op2_add (C.v 19 rfl rfl rfl) (re_lst (ra_cons (star_ok rfl) (C.m (hL S) C_Board rfl F_gate rfl (S.meth 23 rfl) (ok_Board_gate_d1 S) rfl rfl rfl (C.v 4 rfl rfl rfl) (ra_cons (star_ok rfl) (re_sL k2_not_ok) (ra_cons (star_ok rfl) (C.v 13 rfl rfl rfl) ra_nil))) (ra_cons (star_ok rfl) (C.m (hL S) C_Board rfl F_constant rfl (S.meth 12 rfl) (ok_Board_constant S) rfl rfl rfl (C.v 4 rfl rfl rfl) (ra_cons (star_ok rfl) (re_int) ra_nil)) ra_nil)))) (C.t 19 rfl rfl rfl)) (rss_cons (rs_asg (sws_ok rfl) (swt_ok rfl) rfl (re_tup ra_nil) (C.t 20 rfl rfl rfl)) (rss_cons (rs_for C.pass C.calm (fold_ok rfl) (pi_val (C.v 18 rfl rfl rfl)) (C.t 21 rfl rfl rfl) (rss_cons (rs_asg (sws_ok rfl) (swt_ok rfl) rfl (re_op2 op2_add (C.v 20 rfl rfl rfl) (C.bT 3 (c_tuple) rfl (S.free 6 rfl) boot_tuple rfl (ra_cons (star_ok rfl) (C.v 21 rfl rfl rfl) ra_nil))) (C.t 20 rfl rfl rfl)) rss_nil)) (rss_cons (rs_asg (sws_ok rfl) (swt_ok rfl) rfl (C.m (hL S) C_Board rfl F_net rfl (S.meth 35 rfl) (ok_Board_net S) rfl rfl rfl (C.v 4 rfl rfl rfl) (ra_cons (star_ok rfl) (re_op2 op2_add (C.v 20 rfl rfl rfl) (C.bT 3 (c_tuple) rfl (S.free 6 rfl) boot_tuple rfl (ra_cons (star_ok rfl) (C.v 19 rfl rfl rfl) ra_nil))) ra_nil)) (C.t 22 rfl rfl rfl)) (rss_cons (rs_if (PW.pt (rw_or (rt_not (rt_truth (test_ok rfl) (C.clG hG (ok__law_alike S) rfl 6 rfl (S.glo 37 rfl) rfl (ra_cons (star_ok rfl) (C.cl (ok_checked_net S) rfl 7 rfl (S.glo 47 rfl) rfl (ra_cons (star_ok rfl) (C.v 22 rfl rfl rfl) ra_nil)) (ra_cons (star_ok rfl) (C.v 22 rfl rfl rfl) ra_nil))))) (rw_or1 (rt_cmp op2_gt (C.cl (ok_depth S) rfl 8 rfl (S.glo 48 rfl) rfl (ra_cons (star_ok rfl) (C.v 22 rfl rfl rfl) ra_nil)) (C.bf 9 (c_len) rfl (S.free 8 rfl) boot_len rfl (ra_cons (star_ok rfl) (re_idx C.u1 (ix_ok rfl) (C.v 22 rfl rfl rfl) (re_int)) ra_nil)) (beh_ok rfl))))) (rss_cons (rs_ret (re_bl)) rss_nil) rss_nil) (rss_cons (C.par2 23 24 rfl rfl rfl rfl rfl rfl rfl rfl rfl (ra_cons (star_ok rfl) (re_idx C.u1 (ix_ok rfl) (C.cl (ok__law_two S) rfl 10 rfl (S.glo 49 rfl) rfl (ra_cons (star_ok rfl) (re_op2 op2_sub (C.v 2 rfl rfl rfl) (re_int)) ra_nil)) (re_int)) (ra_cons (star_ok rfl) (re_idx C.u1 (ix_ok rfl) (C.cl (ok__law_two S) rfl 10 rfl (S.glo 49 rfl) rfl (ra_cons (star_ok rfl) (re_op2 op2_sub (C.v 3 rfl rfl rfl) (re_int)) ra_nil)) (re_int)) ra_nil))) (rss_cons (rs_for C.pass C.calm (fold_ok rfl) (ri_range1 (C.gl 4 _ rfl) (S.free 7 rfl) (star_ok rfl) (ra_cons (star_ok rfl) (re_int) ra_nil)) (C.t 25 rfl rfl rfl) (rss_cons (rs_asg (sws_ok rfl) (swt_ok rfl) rfl (C.cl (ok__law_some S) rfl 11 rfl (S.glo 50 rfl) rfl (ra_cons (star_ok rfl) (C.v 1 rfl rfl rfl) (ra_cons (star_ok rfl) (re_lst (ra_cons (star_ok rfl) (re_op2 op2_sub (C.v 23 rfl rfl rfl) (re_int)) (ra_cons (star_ok rfl) (re_op1 op1_neg (C.v 23 rfl rfl rfl)) (ra_cons (star_ok rfl) (re_int) (ra_cons (star_ok rfl) (re_op1 op1_neg (re_int)) (ra_cons (star_ok rfl) (re_op2 op2_sub (C.cl (ok__law_take S) rfl 1 rfl (S.glo 3 rfl) rfl (ra_cons (star_ok rfl) (C.v 1 rfl rfl rfl) (ra_cons (star_ok rfl) (re_op2 op2_mul (re_int) (C.v 23 rfl rfl rfl)) ra_nil))) (C.v 23 rfl rfl rfl)) ra_nil)))))) ra_nil))) (C.t 26 rfl rfl rfl)) (rss_cons (rs_asg (sws_ok rfl) (swt_ok rfl) rfl (C.cl (ok__law_some S) rfl 11 rfl (S.glo 50 rfl) rfl (ra_cons (star_ok rfl) (C.v 1 rfl rfl rfl) (ra_cons (star_ok rfl) (re_lst (ra_cons (star_ok rfl) (re_op2 op2_sub (C.v 24 rfl rfl rfl) (re_int)) (ra_cons (star_ok rfl) (re_op1 op1_neg (C.v 24 rfl rfl rfl)) (ra_cons (star_ok rfl) (re_int) (ra_cons (star_ok rfl) (re_int) (ra_cons (star_ok rfl) (re_op2 op2_sub (C.cl (ok__law_take S) rfl 1 rfl (S.glo 3 rfl) rfl (ra_cons (star_ok rfl) (C.v 1 rfl rfl rfl) (ra_cons (star_ok rfl) (re_op2 op2_mul (re_int) (C.v 24 rfl rfl rfl)) ra_nil))) (C.v 24 rfl rfl rfl)) (ra_cons (star_ok rfl) (C.v 26 rfl rfl rfl) ra_nil))))))) ra_nil))) (C.t 27 rfl rfl rfl)) (rss_cons (rs_asg (sws_ok rfl) (swt_ok rfl) rfl (re_if (rt_chain op2_le op2_lt (re_op1 op1_neg (C.v 24 rfl rfl rfl)) (C.v 27 rfl rfl rfl) (C.v 24 rfl rfl rfl) (last_ok rfl)) (C.v 27 rfl rfl rfl) (re_int)) (C.t 27 rfl rfl rfl)) (rss_cons (rs_asg (sws_ok rfl) (swt_ok rfl) rfl (C.cl (ok_flow S) rfl 12 rfl (S.glo 53 rfl) rfl (ra_cons (star_ok rfl) (C.v 22 rfl rfl rfl) (ra_cons (star_ok rfl) (C.bT 3 (c_tuple) rfl (S.free 6 rfl) boot_tuple rfl (ra_cons (star_ok rfl) (re_op2 op2_add (C.cl (ok__law_bits S) rfl 13 rfl (S.glo 54 rfl) rfl (ra_cons (star_ok rfl) (C.v 26 rfl rfl rfl) (ra_cons (star_ok rfl) (C.v 2 rfl rfl rfl) ra_nil))) (C.cl (ok__law_bits S) rfl 13 rfl (S.glo 54 rfl) rfl (ra_cons (star_ok rfl) (C.v 27 rfl rfl rfl) (ra_cons (star_ok rfl) (C.v 3 rfl rfl rfl) ra_nil)))) ra_nil)) ra_nil))) (C.t 28 rfl rfl rfl)) (rss_cons (C.par2 29 30 rfl rfl rfl rfl rfl rfl rfl rfl rfl (ra_cons (star_ok rfl) (re_lst ra_nil) (ra_cons (star_ok rfl) (re_int) ra_nil))) (rss_cons (rs_for C.pass C.calm (fold_ok rfl) (pi_val (C.v 18 rfl rfl rfl)) (C.t 21 rfl rfl rfl) (rss_cons (rs_expr (swp_ok rfl) (Cu.bm (t := 4) (.inr (.inl rfl)) plainAttrs_list PySem.F.slot_list_append rfl m_lAppend (base_ok rfl) rfl rfl rfl (C.v 29 rfl rfl rfl) (ra_cons (star_ok rfl) (C.cl (ok__law_integer S) rfl 14 rfl (S.glo 55 rfl) rfl (ra_cons (star_ok rfl) (re_slice (C.v 28 rfl rfl rfl) (ro_some (C.v 30 rfl rfl rfl)) (ro_some (re_op2 op2_add (C.v 30 rfl rfl rfl) (C.bf 9 (c_len) rfl (S.free 8 rfl) boot_len rfl (ra_cons (star_ok rfl) (C.v 21 rfl rfl rfl) ra_nil))))) ra_nil)) ra_nil))) (rss_cons (C.aug 30 rfl rfl rfl op2_iadd (C.bf 9 (c_len) rfl (S.free 8 rfl) boot_len rfl (ra_cons (star_ok rfl) (C.v 21 rfl rfl rfl) ra_nil))) rss_nil))) (rss_cons (rs_asg (sws_ok rfl) (swt_ok rfl) rfl (re_lst (ra_cons (star_ok rfl) (re_op2 op2_add (C.v 26 rfl rfl rfl) (C.v 27 rfl rfl rfl)) (ra_cons (star_ok rfl) (re_op2 op2_sub (C.v 26 rfl rfl rfl) (C.v 27 rfl rfl rfl)) (ra_cons (star_ok rfl) (re_op2 op2_mul (C.v 26 rfl rfl rfl) (C.v 27 rfl rfl rfl)) (ra_cons (star_ok rfl) (re_op2 op2_fdiv (C.bT 15 (c_int) rfl (S.free 2 rfl) boot_int rfl (ra_cons (star_ok rfl) (C.v 26 rfl rfl rfl) ra_nil)) (re_idx C.u1 (ix_ok rfl) (C.cl (ok__law_two S) rfl 10 rfl (S.glo 49 rfl) rfl (ra_cons (star_ok rfl) (C.v 5 rfl rfl rfl) ra_nil)) (re_int))) (ra_cons (star_ok rfl) (re_op2 op2_mul (C.v 27 rfl rfl rfl) (re_idx C.u1 (ix_ok rfl) (C.cl (ok__law_two S) rfl 10 rfl (S.glo 49 rfl) rfl (ra_cons (star_ok rfl) (C.v 6 rfl rfl rfl) ra_nil)) (re_int))) (ra_cons (star_ok rfl) (C.bf 16 (c_min C.calm) rfl (S.free 21 rfl) boot_min rfl (ra_cons (star_ok rfl) (C.v 26 rfl rfl rfl) (ra_cons (star_ok rfl) (C.v 27 rfl rfl rfl) ra_nil))) (ra_cons (star_ok rfl) (C.v 7 rfl rfl rfl) ra_nil)))))))) (C.t 31 rfl rfl rfl)) (rss_cons (rs_asg (sws_ok rfl) (swt_ok rfl) rfl (re_op2 op2_add (C.v 31 rfl rfl rfl) (re_lst (ra_cons (star_ok rfl) (re_op2 op2_add (re_op2 op2_mul (C.v 26 rfl rfl rfl) (C.v 7 rfl rfl rfl)) (re_op2 op2_fdiv (C.bT 15 (c_int) rfl (S.free 2 rfl) boot_int rfl (ra_cons (star_ok rfl) (re_op2 op2_add (C.v 26 rfl rfl rfl) (C.v 27 rfl rfl rfl)) ra_nil)) (re_int))) (ra_cons (star_ok rfl) (re_op2 op2_sub (C.v 7 rfl rfl rfl) (re_op2 op2_sub (C.v 26 rfl rfl rfl) (C.v 27 rfl rfl rfl))) (ra_cons (star_ok rfl) (C.v 26 rfl rfl rfl) ra_nil))))) (C.t 31 rfl rfl rfl)) (rss_cons (rs_if (rt_not (rt_truth (test_ok rfl) (C.clG hG (ok__law_alike S) rfl 6 rfl (S.glo 37 rfl) rfl (ra_cons (star_ok rfl) (C.v 29 rfl rfl rfl) (ra_cons (star_ok rfl) (C.v 31 rfl rfl rfl) ra_nil))))) (rss_cons (rs_ret (re_bl)) rss_nil) rss_nil) (rss_cons (rs_asg (sws_ok rfl) (swt_ok rfl) rfl (re_idx C.u1 (ix_ok rfl) (C.cl (ok__law_two S) rfl 10 rfl (S.glo 49 rfl) rfl (ra_cons (star_ok rfl) (re_op2 op2_sub (C.v 15 rfl rfl rfl) (re_int)) ra_nil)) (re_int)) (C.t 32 rfl rfl rfl)) (rss_cons (rs_asg (sws_ok rfl) (swt_ok rfl) rfl (re_lst (ra_cons (star_ok rfl) (re_cmp op2_lt (C.v 26 rfl rfl rfl) (C.v 27 rfl rfl rfl) (beh_ok rfl)) (ra_cons (star_ok rfl) (re_not (re_chain op2_le op2_lt (re_op1 op1_neg (re_int)) (re_op2 op2_add (C.v 26 rfl rfl rfl) (C.v 27 rfl rfl rfl)) (re_int) (last_ok rfl))) (ra_cons (star_ok rfl) (re_not (re_chain op2_le op2_lt (re_op1 op1_neg (C.v 32 rfl rfl rfl)) (re_op2 op2_mul (C.v 26 rfl rfl rfl) (C.v 27 rfl rfl rfl)) (C.v 32 rfl rfl rfl) (last_ok rfl))) (ra_cons (star_ok rfl) (re_cmp op2_ge (C.v 26 rfl rfl rfl) (C.v 27 rfl rfl rfl) (beh_ok rfl)) (ra_cons (star_ok rfl) (re_bl) ra_nil)))))) (C.t 33 rfl rfl rfl)) (rss_cons (rs_if (rt_cmp (op2_ne C.u64) (C.bT 17 (c_list) rfl (S.free 51 rfl) boot_list rfl (ra_cons (star_ok rfl) (re_slice (C.v 28 rfl rfl rfl) (ro_some (C.v 30 rfl rfl rfl)) ro_none) ra_nil)) (C.lc (kn' := kn_law_0) (gl' := gl_law_0) (own := [("truth", 34)]) (w := wd) (t := (.one 34)) (by decide +kernel) rfl rfl (pi_val (C.v 33 rfl rfl rfl)) (fun X' _ C => C.tg 34 rfl rfl rfl) (fun _ _ _ _ _ C => ts_nil) (fun _ _ _ _ _ C => (C.bT 0 (c_int) rfl (S.free 2 rfl) boot_int rfl (ra_cons (star_ok rfl) (C.v 34 rfl rfl rfl) ra_nil)))) (beh_ok rfl)) (rss_cons (rs_ret (re_bl)) rss_nil) rss_nil) rss_nil))))))))))))) (rss_cons (rs_ret (re_bl)) rss_nil)))))))))))))))))))))
theorem sc_law : FnScope N_law ["script"] (defScope st_law) := ⟨rfl, rfl, rfl, by decide +kernel, rfl, by decide +kernel, by decide +kernel⟩
theorem ok_law (S : Sx K mg w) : CalG P w K mg base (Gk K) 10 (He.ga K "law") m_law [] := by
  obtain ⟨fd, F⟩ := S.d.def_ 35 (d := d_law) rfl
  exact ⟨fd, _, [], [], fnG_ok F sc_law fun X W e1 e2 e3 e4 e5 hg C => by subst e1 e2 e3 e4 e5; exact wk_law (C.cu (by decide +kernel)) S hg, F.bindsN (fun _ _ _ _ _ _ us hl => match us, hl with | [_], _ => rfl), .nil, fun _ => rfl, F.kp⟩
theorem law_fn (S : Sx K mg w) {fd : FuncData} (F : FunD K d_law.name d_law.qual d_law.params d_law.body d_law.scope (d_law.dvs K) (d_law.kws K) (He.fAd K d_law.at_) fd) : FnG P w K mg base (CX P w) 10 (He.ga K "law") fd ["script"] (SpE K (Gk K) m_law) :=
  fnG_ok F sc_law fun X W e1 e2 e3 e4 e5 hg C => by subst e1 e2 e3 e4 e5; exact wk_law (C.cu (by decide +kernel)) S hg
end
end K73

set_option Elab.async false
set_option linter.all false
set_option maxRecDepth 100000
set_option maxHeartbeats 1000000
namespace K73
open Ev
/-! ### plain rules of the pieces -/
@[simp] theorem bind_mk {α β : Type} (a : α) (h : EH) (f : α → EH → R β) : (R.ok a h).bind f = f a h := rfl
@[simp] theorem run_ok {α : Type} (a : α) (h : EH) (env : Env') (f : α → EH → RS) : (R.ok a h).run env f = f a h := rfl
@[simp] theorem rs_nx (env : Env') (h : EH) (f : MS) : (RS.nx env h).bind f = f env h := rfl
@[simp] theorem rs_rt (v : Val) (h : EH) (f : MS) : (RS.rt v h).bind f = .rt v h := rfl
@[simp] theorem tn_nx (env : Env') (h : EH) (f : MS) : (RS.nx env h).turn f = f env h := rfl
@[simp] theorem tn_rt (v : Val) (h : EH) (f : MS) : (RS.rt v h).turn f = .rt v h := rfl
@[simp] theorem noX_ok {α : Type} (a : α) (h : EH) : noX (R.ok a h) = .ok a h := rfl

/-! ### gates -/
inductive G where
  | zero | one | not (a : Nat) | and (a b : Nat) | or (a b : Nat) | xor (a b : Nat)
  deriving DecidableEq
def G.d : G → D
  | .zero => .tup true [.str k1_zero]
  | .one => .tup true [.str k0_one]
  | .not a => .tup true [.str k2_not, .int a]
  | .and a b => .tup true [.str k4_and, .int a, .int b]
  | .or a b => .tup true [.str k5_or, .int a, .int b]
  | .xor a b => .tup true [.str k3_xor, .int a, .int b]
theorem G.d_inj {a b : G} (h : a.d = b.d) : a = b := by
  cases a <;> cases b <;> simp [G.d] at h ⊢ <;> omega
/-- the wires that a gate reads -/
def G.lt (n : Nat) : G → Prop
  | .zero => True
  | .one => True
  | .not a => a < n
  | .and a b => a < n ∧ b < n
  | .or a b => a < n ∧ b < n
  | .xor a b => a < n ∧ b < n
def G.ev (v : Nat → Bool) : G → Bool
  | .zero => false
  | .one => true
  | .not a => !v a
  | .and a b => v a && v b
  | .or a b => v a || v b
  | .xor a b => v a ^^ v b
theorem G.ev_ext {v u : Nat → Bool} {n : Nat} {g : G} (h : g.lt n) (e : ∀ i, i < n → v i = u i) : g.ev v = g.ev u := by
  cases g <;> simp_all [G.ev, G.lt]
theorem G.lt_mono {n m : Nat} {g : G} (h : g.lt n) (e : n ≤ m) : g.lt m := by
  cases g <;> simp_all [G.lt] <;> omega
def at' (xs : List Bool) (i : Nat) : Bool := xs.getD i false
def runG : List Bool → List G → List Bool
  | xs, [] => xs
  | xs, g :: r => runG (xs ++ [g.ev (at' xs)]) r
theorem runG_append (xs : List Bool) (a b : List G) : runG xs (a ++ b) = runG (runG xs a) b := by
  induction a generalizing xs with
  | nil => rfl
  | cons g r ih => exact ih _
theorem runG_len (xs : List Bool) (gs : List G) : (runG xs gs).length = xs.length + gs.length := by
  induction gs generalizing xs with
  | nil => rfl
  | cons g r ih =>
    rw [runG, ih]
    simp
    omega
theorem runG_pre (xs : List Bool) (gs : List G) {i : Nat} (h : i < xs.length) : at' (runG xs gs) i = at' xs i := by
  induction gs generalizing xs with
  | nil => rfl
  | cons g r ih =>
    rw [runG, ih _ (by simp; omega)]
    simp [at', List.getD_eq_getElem?_getD, List.getElem?_append_left h]
def V (xs : List Bool) (gs : List G) (i : Nat) : Bool := at' (runG xs gs) i
theorem V_ext {xs : List Bool} {gs gs' : List G} (p : gs <+: gs') {i : Nat} (h : i < xs.length + gs.length) : V xs gs' i = V xs gs i := by
  obtain ⟨r, rfl⟩ := p
  unfold V
  rw [runG_append]
  exact runG_pre _ _ (by rw [runG_len]; exact h)
/-- every gate reads older wires -/
def WF (w : Nat) (gs : List G) : Prop := ∀ (i : Nat) g, gs[i]? = some g → g.lt (w + i)
theorem V_gate {w : Nat} {xs : List Bool} {gs : List G} (wf : WF w gs) (hx : xs.length = w) {i : Nat} {g : G} (e : gs[i]? = some g) : V xs gs (w + i) = g.ev (V xs gs) := by
  obtain ⟨hi, hg⟩ := List.getElem?_eq_some_iff.mp e
  have hs : gs = gs.take i ++ (g :: gs.drop (i + 1)) := by
    rw [← hg, ← List.drop_eq_getElem_cons hi, List.take_append_drop]
  have lt : (gs.take i).length = i := by simp; omega
  have e1 : V xs gs (w + i) = g.ev (at' (runG xs (gs.take i))) := by
    unfold V
    conv => lhs; rw [hs]
    rw [runG_append, runG, runG_pre _ _ (by simp [runG_len]; omega)]
    have hl : (runG xs (gs.take i)).length = w + i := by rw [runG_len, lt, hx]
    unfold at'
    rw [List.getD_eq_getElem?_getD, List.getElem?_append_right (by omega), hl]
    simp
  rw [e1]
  refine G.ev_ext (wf i g e) fun j hj => ?_
  have q := V_ext (xs := xs) (List.take_prefix i gs) (i := j) (by rw [hx, lt]; exact hj)
  exact q.symm
/-- the wire r tells b -/
def Wi (w : Nat) (gs : List G) (r : Nat) (b : List Bool → Bool) : Prop := r < w + gs.length ∧ ∀ xs, xs.length = w → V xs gs r = b xs
theorem Wi.ext {w : Nat} {gs gs' : List G} (p : gs <+: gs') {r : Nat} {b : List Bool → Bool} (h : Wi w gs r b) : Wi w gs' r b :=
  ⟨Nat.lt_of_lt_of_le h.1 (Nat.add_le_add_left p.length_le _), fun xs hx => by rw [V_ext p (by rw [hx]; exact h.1)]; exact h.2 xs hx⟩
theorem WF.snoc {w : Nat} {gs : List G} (wf : WF w gs) {g : G} (h : g.lt (w + gs.length)) : WF w (gs ++ [g]) := fun i g' e => by
  by_cases hi : i < gs.length
  · rw [List.getElem?_append_left hi] at e
    exact wf i g' e
  · rw [List.getElem?_append_right (by omega)] at e
    have hz : i - gs.length = 0 := by
      have q := (List.getElem?_eq_some_iff.mp e).1
      simp at q
      omega
    rw [hz] at e
    simp at e
    subst e
    have : i = gs.length := by omega
    rw [this]
    exact h

/-! ### the board in the heap -/
def kn : Nat → List G → List (D × Val)
  | _, [] => []
  | k, g :: r => (g.d, .d (.int (k : Int))) :: kn (k + 1) r
def gl (gs : List G) : List Val := gs.map fun g => .d g.d
def flds (w : Nat) : List (Nat × Val) := [(F_its_wires, .d (.int (w : Int))), (F_its_gates, .r 4), (F_its_known, .r 5)]
structure Bd (w : Nat) (gs : List G) (h : EH) : Prop where
  b : h[3]? = some (.ins 0 (flds w))
  g : h[4]? = some (.lst (gl gs))
  k : h[5]? = some (.dt (kn w gs))
  c : allLt h.length h = true
def upB (h : EH) (w : Nat) (gs : List G) : EH := (h.set 4 (.lst (gl gs))).set 5 (.dt (kn w gs))
theorem upB_len (h : EH) (w : Nat) (gs : List G) : (upB h w gs).length = h.length := by simp [upB]
theorem upB_upB (h : EH) (w : Nat) (a b : List G) : upB (upB h w a) w b = upB h w b := by
  apply List.ext_getElem?
  intro i
  simp only [upB, List.getElem?_set, List.length_set]
  by_cases h5 : 5 = i <;> by_cases h4 : 4 = i <;> simp_all
theorem Bd.same {w : Nat} {gs : List G} {h : EH} (B : Bd w gs h) : upB h w gs = h := by
  apply List.ext_getElem?
  intro i
  have l5 := (List.getElem?_eq_some_iff.mp B.k).1
  simp only [upB, List.getElem?_set, List.length_set]
  by_cases h5 : 5 = i
  · subst h5
    rw [if_pos rfl, if_pos l5, B.k]
  · by_cases h4 : 4 = i
    · subst h4
      have l4 := (List.getElem?_eq_some_iff.mp B.g).1
      rw [if_neg h5, if_pos rfl, if_pos l4, B.g]
    · simp [h5, h4]
theorem lts_gl (n : Nat) : ∀ gs : List G, Val.lts n (gl gs) = true
  | [] => rfl
  | g :: r => by
    show (Val.lt n (.d g.d) && Val.lts n (gl r)) = true
    rw [lts_gl n r]
    rfl
theorem kvs_kn (n : Nat) : ∀ (k : Nat) (gs : List G), kvLt n (kn k gs) = true
  | _, [] => rfl
  | k, g :: r => by
    show (Val.lt n (.d (.int (k : Int))) && kvLt n (kn (k + 1) r)) = true
    rw [kvs_kn n (k + 1) r]
    rfl
theorem allLt_set {n : Nat} : ∀ {l : List Ob} {i : Nat} {o : Ob}, allLt n l = true → Ob.lt n o = true → allLt n (l.set i o) = true
  | [], _, _, h, _ => h
  | p :: l, 0, o, h, ho => by
    obtain ⟨h1, h2⟩ := Bool.and_eq_true_iff.mp h
    show (Ob.lt n o && allLt n l) = true
    rw [ho, h2]
    rfl
  | p :: l, i + 1, o, h, ho => by
    obtain ⟨h1, h2⟩ := Bool.and_eq_true_iff.mp h
    show (Ob.lt n p && allLt n (l.set i o)) = true
    rw [h1, allLt_set h2 ho]
    rfl
theorem Bd.up {w : Nat} {gs gs' : List G} {h : EH} (B : Bd w gs h) : Bd w gs' (upB h w gs') := by
  have l5 := (List.getElem?_eq_some_iff.mp B.k).1
  refine ⟨?_, ?_, ?_, ?_⟩
  · simp [upB, B.b]
  · unfold upB
    rw [List.getElem?_set_ne (by decide), List.getElem?_set_self (by omega)]
  · unfold upB
    rw [List.getElem?_set_self (by simpa using l5)]
  · rw [upB_len]
    exact allLt_set (allLt_set B.c (lts_gl _ _)) (kvs_kn _ _ _)
mutual
theorem lt_mono {n m : Nat} (h : n ≤ m) : ∀ {x : Val}, Val.lt n x = true → Val.lt m x = true
  | .d _, _ => rfl
  | .r k, e => Nat.ble_eq_true_of_le (Nat.le_trans (Nat.le_of_ble_eq_true e) h)
  | .t xs, e => lts_mono h (show Val.lts n xs = true from e)
  | .z _, _ => rfl
theorem lts_mono {n m : Nat} (h : n ≤ m) : ∀ {xs : List Val}, Val.lts n xs = true → Val.lts m xs = true
  | [], _ => rfl
  | x :: xs, e => by
    obtain ⟨h1, h2⟩ := Bool.and_eq_true_iff.mp (show (Val.lt n x && Val.lts n xs) = true from e)
    show (Val.lt m x && Val.lts m xs) = true
    rw [lt_mono h h1, lts_mono h h2]
    rfl
end
theorem kv_mono {n m : Nat} (h : n ≤ m) : ∀ {xs : List (D × Val)}, kvLt n xs = true → kvLt m xs = true
  | [], _ => rfl
  | (d, x) :: xs, e => by
    obtain ⟨h1, h2⟩ := Bool.and_eq_true_iff.mp (show (Val.lt n x && kvLt n xs) = true from e)
    show (Val.lt m x && kvLt m xs) = true
    rw [lt_mono h h1, kv_mono h h2]
    rfl
theorem fs_mono {n m : Nat} (h : n ≤ m) : ∀ {xs : List (Nat × Val)}, fsLt n xs = true → fsLt m xs = true
  | [], _ => rfl
  | (d, x) :: xs, e => by
    obtain ⟨h1, h2⟩ := Bool.and_eq_true_iff.mp (show (Val.lt n x && fsLt n xs) = true from e)
    show (Val.lt m x && fsLt m xs) = true
    rw [lt_mono h h1, fs_mono h h2]
    rfl
theorem ob_mono {n m : Nat} (h : n ≤ m) : ∀ {o : Ob}, Ob.lt n o = true → Ob.lt m o = true
  | .lst _, e => lts_mono h e
  | .dk _, e => kv_mono h e
  | .dt _, e => kv_mono h e
  | .ins _ _, e => fs_mono h e
theorem all_mono {n m : Nat} (h : n ≤ m) : ∀ {l : List Ob}, allLt n l = true → allLt m l = true
  | [], _ => rfl
  | o :: l, e => by
    obtain ⟨h1, h2⟩ := Bool.and_eq_true_iff.mp (show (Ob.lt n o && allLt n l) = true from e)
    show (Ob.lt m o && allLt m l) = true
    rw [ob_mono h h1, all_mono h h2]
    rfl
theorem all_app {n : Nat} : ∀ {a b : List Ob}, allLt n a = true → allLt n b = true → allLt n (a ++ b) = true
  | [], _, _, h => h
  | o :: l, b, e, h => by
    obtain ⟨h1, h2⟩ := Bool.and_eq_true_iff.mp (show (Ob.lt n o && allLt n l) = true from e)
    show (Ob.lt n o && allLt n (l ++ b)) = true
    rw [h1, all_app h2 h]
    rfl
/-- objects behind -/
theorem Bd.junk {w : Nat} {gs : List G} {h : EH} (B : Bd w gs h) (j : EH) (hj : allLt (h.length + j.length) j = true) : Bd w gs (h ++ j) := by
  have l5 := (List.getElem?_eq_some_iff.mp B.k).1
  refine ⟨by rw [List.getElem?_append_left (by omega)]; exact B.b, by rw [List.getElem?_append_left (by omega)]; exact B.g, by rw [List.getElem?_append_left l5]; exact B.k, ?_⟩
  rw [List.length_append]
  exact all_app (all_mono (Nat.le_add_right _ _) B.c) hj
theorem upB_junk {h j : EH} {w : Nat} {gs : List G} (l : 5 < h.length) : upB (h ++ j) w gs = upB h w gs ++ j := by
  unfold upB
  rw [List.set_append_left _ _ (by omega), List.set_append_left _ _ (by simpa using l)]
/-- a call's end: what is left behind is forgotten -/
theorem call_end {f : Fn} {xs : List Val} {h h1 j : EH} {v : Val} (e : f xs h = .ok v (h1 ++ j)) (l : h1.length = h.length) (hv : Val.lt h.length v = true) (hc : allLt h.length h1 = true) : callSh f xs h = .ok v h1 := by
  unfold callSh
  rw [e]
  show gc h.length v (h1 ++ j) = _
  have t : (h1 ++ j).take h.length = h1 := by rw [← l]; simp
  unfold gc
  rw [t, hv, hc]
  rfl
theorem callB {f : Fn} {xs : List Val} {h j : EH} {v : Val} {w : Nat} {gs gs' : List G} (B : Bd w gs h) (e : f (.r 3 :: xs) h = .ok v (upB h w gs' ++ j)) (hv : Val.lt h.length v = true) : callFn f (.r 3 :: xs) h = .ok v (upB h w gs') := by
  show callSh f (.r 3 :: xs) h = _
  have B' := B.up (gs' := gs')
  have c := B'.c
  rw [upB_len] at c
  exact call_end e (upB_len _ _ _) hv c

/-! ### the board's dict -/
theorem findD_kn {g : G} : ∀ (k : Nat) (gs : List G), findD g.d (kn k gs) = (gs.idxOf? g).map fun (i : Nat) => .d (.int ((k + i : Nat) : Int))
  | _, [] => rfl
  | k, a :: r => by
    show (if D.beq a.d g.d = true then some (Val.d (.int (k : Int))) else findD g.d (kn (k + 1) r)) = _
    rw [List.idxOf?_cons]
    by_cases h : a = g
    · subst h
      rw [if_pos ((D.beq_eq _ _).mpr rfl)]
      simp
    · rw [if_neg (fun z => h (G.d_inj ((D.beq_eq _ _).mp z))), findD_kn (k + 1) r]
      have hb : (a == g) = false := by simpa using h
      rw [hb]
      cases r.idxOf? g with
      | none => rfl
      | some i =>
        simp
        omega
end K73

set_option Elab.async false
set_option linter.all false
set_option maxRecDepth 100000
set_option maxHeartbeats 1000000
namespace K73
open Ev
variable {w : Nat} {gs : List G} {h : EH}
theorem ins_at (B : Bd w gs h) : insAt (.r 3) h = some (3, 0, flds w) := by
  simp [insAt, B.b]
theorem fld_w (B : Bd w gs h) (env : Env') (e : env[0]? = some (some (.r 3))) : mFld (mVar 0) F_its_wires env h = .ok (.d (.int (w : Int))) h := by
  simp [mFld, mVar, e, ins_at B, flds, getF]
theorem fld_g (B : Bd w gs h) (env : Env') (e : env[0]? = some (some (.r 3))) : mFld (mVar 0) F_its_gates env h = .ok (.r 4) h := by
  simp [mFld, mVar, e, ins_at B, flds, getF]
theorem fld_k (B : Bd w gs h) (env : Env') (e : env[0]? = some (some (.r 3))) : mFld (mVar 0) F_its_known env h = .ok (.r 5) h := by
  simp [mFld, mVar, e, ins_at B, flds, getF]
theorem keyT_d (g : G) : (keyT g.d).isSome = true := by cases g <;> rfl
theorem dGet_B (B : Bd w gs h) (g : G) : dGet (.r 5) g.d h = some ((gs.idxOf? g).map fun (i : Nat) => .d (.int ((w + i : Nat) : Int))) := by
  have e : dictAt (.r 5) h = some (true, kn w gs) := by
    simp [dictAt, B.k]
  unfold dGet
  rw [e]
  show (if keyFits true g.d = true then some (findD g.d (kn w gs)) else none) = _
  rw [if_pos (show keyFits true g.d = true from keyT_d g), findD_kn]
theorem getS_5 (B : Bd w gs h) : getS (.r 5) h = none := by
  simp [getS, asT, getL, getZ, B.k]
theorem len_g (B : Bd w gs h) : bLen [.r 4] h = okI (gs.length : Int) h := by
  simp [bLen, getS, asT, getL, B.g, gl]
theorem isIn_B (B : Bd w gs h) (g : G) : isIn (.d g.d) (.r 5) h = some (gs.idxOf? g).isSome := by
  have e := getS_5 B
  have d := dGet_B B g
  cases g <;> simp only [G.d] at d ⊢ <;> simp [isIn, e, d]
theorem idx_B (B : Bd w gs h) (g : G) : opIdx (.r 5) (.d g.d) h = match gs.idxOf? g with
    | some i => .ok (.d (.int ((w + i : Nat) : Int))) h
    | none => .bad := by
  have e := getS_5 B
  have d := dGet_B B g
  cases q : gs.idxOf? g with
  | none =>
    rw [q] at d
    cases g <;> simp only [G.d] at d ⊢ <;> simp [opIdx, e, d]
  | some i =>
    rw [q] at d
    cases g <;> simp only [G.d] at d ⊢ <;> simp [opIdx, e, d]
theorem kn_app (k : Nat) (a b : List G) : kn k (a ++ b) = kn k a ++ kn (k + a.length) b := by
  induction a generalizing k with
  | nil => simp [kn]
  | cons g r ih =>
    simp only [List.cons_append, kn, ih, List.length_cons]
    rw [show k + 1 + r.length = k + (r.length + 1) by omega]
theorem kn_len (k : Nat) (a : List G) : (kn k a).length = a.length := by
  induction a generalizing k with
  | nil => rfl
  | cons g r ih => simp [kn, ih]
/-- what a step of the board makes: the gates after it, a wire -/
def Rs (w : Nat) (h : EH) (gs : List G) (c : Nat) (r : R Val) (P : List G → Nat → Prop) : Prop :=
  ∃ gs' n, r = .ok (.d (.int ((n : Nat) : Int))) (upB h w gs') ∧ gs <+: gs' ∧ WF w gs' ∧ gs'.length ≤ gs.length + c ∧ P gs' n
theorem Rs.imp {c c' : Nat} {r : R Val} {P Q : List G → Nat → Prop} (x : Rs w h gs c r P) (hc : c ≤ c') (k : ∀ gs' n, gs <+: gs' → P gs' n → Q gs' n) : Rs w h gs c' r Q := by
  obtain ⟨gs', n, e, p, wf, l, q⟩ := x
  exact ⟨gs', n, e, p, wf, Nat.le_trans l (Nat.add_le_add_left hc _), k gs' n p q⟩
theorem Rs.self {r : R Val} {P : List G → Nat → Prop} {n : Nat} (B : Bd w gs h) (wf : WF w gs) (e : r = .ok (.d (.int (n : Int))) h) (q : P gs n) {c : Nat} : Rs w h gs c r P :=
  ⟨gs, n, by rw [B.same]; exact e, List.prefix_refl _, wf, Nat.le_add_right _ _, q⟩
theorem idx_last {g : G} : ∀ {gs : List G}, gs.idxOf? g = none → (gs ++ [g]).idxOf? g = some gs.length
  | [], _ => by simp [List.idxOf?_cons]
  | a :: r, q => by
    rw [List.cons_append, List.idxOf?_cons]
    rw [List.idxOf?_cons] at q
    cases e : a == g with
    | true => rw [e] at q; simp at q
    | false =>
      rw [e] at q
      have q2 : r.idxOf? g = none := by
        cases z : r.idxOf? g with
        | none => rfl
        | some i => rw [z] at q; simp at q
      rw [idx_last q2]
      simp
theorem put_fn (B : Bd w gs h) (g : G) (hl : gs.length + 1 ≤ 16000000) : m_Board_put [.r 3, .d g.d] h = match gs.idxOf? g with
    | some i => .ok (.d (.int ((w + i : Nat) : Int))) h
    | none => .ok (.d (.int ((w + gs.length : Nat) : Int))) (upB h w (gs ++ [g])) := by
  have e0 : ([some (Val.r 3), some (.d g.d)] : Env')[0]? = some (some (.r 3)) := rfl
  have l5 := (List.getElem?_eq_some_iff.mp B.k).1
  cases q : gs.idxOf? g with
  | some i =>
    simp [m_Board_put, fnOf, b_Board_put, sSeq, sIf, mB, m2, startE, mVar, fld_k B _ e0, opNotIn, isIn_B B, q, okB, asB, sRet, mIdx, idx_B B, RS.fn, sNext]
  | none =>
    have hf : fitsL (kn w gs).length = true := by
      rw [kn_len]
      exact Nat.ble_eq_true_of_le (by omega)
    have hh : hasD g.d (kn w gs) = false := by
      unfold hasD
      rw [findD_kn, q]
      rfl
    have e1 : opSet (.r 5) (.d g.d) (.d (.int ((w : Int) + (gs.length : Int)))) h = .ok () (h.set 5 (.dt (kn w (gs ++ [g])))) := by
      have e : putD (kn w gs) g.d (.d (.int ((w : Int) + (gs.length : Int)))) = kn w (gs ++ [g]) := by
        unfold putD
        rw [hh, kn_app]
        rfl
      simp only [opSet, B.k, keyT_d, hf, e]
      rfl
    have B1 : Bd w gs h := B
    have g4 : (h.set 5 (Ob.dt (kn w (gs ++ [g]))))[4]? = some (.lst (gl gs)) := by
      rw [List.getElem?_set_ne (by decide)]
      exact B.g
    have i3 : insAt (.r 3) (h.set 5 (Ob.dt (kn w (gs ++ [g])))) = some (3, 0, flds w) := by
      have z : (h.set 5 (Ob.dt (kn w (gs ++ [g]))))[3]? = some (.ins 0 (flds w)) := by
        rw [List.getElem?_set_ne (by decide), B.b]
      simp only [insAt, z]
    have ap : lAppend (.r 4) [.d g.d] (h.set 5 (Ob.dt (kn w (gs ++ [g])))) = .ok (.d .non) (upB h w (gs ++ [g])) := by
      have e : getL (.r 4) (h.set 5 (Ob.dt (kn w (gs ++ [g])))) = some (gl gs) := by
        simp only [getL, g4]
      unfold lAppend
      rw [e]
      show (if fits (gl gs ++ [Val.d g.d]).length = true then R.ok (Val.d .non) (((h.set 5 (Ob.dt (kn w (gs ++ [g]))))).set 4 (.lst (gl gs ++ [Val.d g.d]))) else .bad) = _
      have ft : fits (gl gs ++ [Val.d g.d]).length = true := Nat.ble_eq_true_of_le (by simp [gl]; omega)
      rw [if_pos ft]
      have e2 : gl gs ++ [Val.d g.d] = gl (gs ++ [g]) := by simp [gl]
      rw [e2]
      unfold upB
      rw [List.set_comm _ _ (by decide)]
    have B2 : Bd w (gs ++ [g]) (upB h w (gs ++ [g])) := B.up
    have q2 : (gs ++ [g]).idxOf? g = some gs.length := by
      exact idx_last q
    have ix := idx_B B2 g
    rw [q2] at ix
    have f5 := fld_k B2 _ e0
    have t4 : tyNo (.r 4) (h.set 5 (Ob.dt (kn w (gs ++ [g])))) = some 4 := by
      simp only [tyNo, g4]
    simp [m_Board_put, fnOf, b_Board_put, sSeq, sIf, mB, m2, startE, mVar, fld_k B _ e0, fld_w B _ e0, fld_g B _ e0, opNotIn, isIn_B B, q, okB, asB, sRet, mIdx, RS.fn, sNext, sAsg, mSub, sExpr, mBM, mCons, mNil, mOp, len_g B, okI, opAdd, e1, mFld, ins_at B, i3, ins_at B2, flds, getF, t4, ap, ix]
theorem idx_get {g : G} : ∀ {gs : List G} {i : Nat}, gs.idxOf? g = some i → gs[i]? = some g
  | [], i, e => by simp at e
  | a :: r, i, e => by
    rw [List.idxOf?_cons] at e
    cases q : a == g with
    | true =>
      rw [q] at e
      have z : (0 : Nat) = i := Option.some.inj e
      subst z
      have : a = g := by simpa using q
      rw [this]
      rfl
    | false =>
      rw [q] at e
      cases z : r.idxOf? g with
      | none => rw [z] at e; simp at e
      | some j =>
        rw [z] at e
        have z2 : j + 1 = i := by simpa using e
        subst z2
        rw [List.getElem?_cons_succ]
        exact idx_get z
/-- a call on the board -/
theorem meth_B (B : Bd w gs h) {f : Fn} {ma : M (List Val)} {env : Env'} {q : Nat} (hq : getF q (flds w) = none) {xs : List Val} (e0 : env[0]? = some (some (.r 3))) (ea : ma env h = .ok xs h) : mMeth C_Board q f [] (mVar 0) ma env h = callFn f (.r 3 :: xs) h := by
  have b : Nat.beq 0 C_Board = true := rfl
  simp [mMeth, mVar, e0, ins_at B, b, hq, ea]
theorem put_ok (B : Bd w gs h) (wf : WF w gs) (g : G) (hg : g.lt (w + gs.length)) (hl : gs.length + 1 ≤ 16000000) {b : List Bool → Bool} (hb : ∀ xs, xs.length = w → g.ev (V xs gs) = b xs) :
    Rs w h gs 1 (callFn m_Board_put [.r 3, .d g.d] h) (fun gs' n => Wi w gs' n b) := by
  have e := put_fn B g hl
  cases q : gs.idxOf? g with
  | some i =>
    rw [q] at e
    have gi := idx_get q
    refine Rs.self (n := w + i) B wf ?_ ⟨?_, fun xs hx => ?_⟩
    · have e1 : m_Board_put (.r 3 :: [.d g.d]) h = .ok (.d (.int ((w + i : Nat) : Int))) (upB h w gs ++ []) := by
        rw [B.same, List.append_nil]
        exact e
      rw [callB B e1 rfl, B.same]
    · have := (List.getElem?_eq_some_iff.mp gi).1
      omega
    · rw [V_gate wf hx gi]
      exact hb xs hx
  | none =>
    rw [q] at e
    have wf' := wf.snoc hg
    refine ⟨gs ++ [g], w + gs.length, ?_, List.prefix_append _ _, wf', by simp, ⟨by simp, fun xs hx => ?_⟩⟩
    · have e1 : m_Board_put (.r 3 :: [.d g.d]) h = .ok (.d (.int ((w + gs.length : Nat) : Int))) (upB h w (gs ++ [g]) ++ []) := by
        rw [List.append_nil]
        exact e
      exact callB B e1 rfl
    · have gi : (gs ++ [g])[gs.length]? = some g := by simp
      rw [V_gate wf' hx gi, ← hb xs hx]
      exact G.ev_ext hg fun i hi => V_ext (List.prefix_append _ _) (by rw [hx]; exact hi)
end K73

set_option Elab.async false
set_option linter.all false
set_option maxRecDepth 100000
set_option maxHeartbeats 1000000
namespace K73
open Ev
variable {w : Nat} {gs : List G} {h : EH}
@[simp] theorem fn_rt (v : Val) (h : EH) : (RS.rt v h).fn = .ok v h := rfl
@[simp] theorem fn_nx (e : Env') (h : EH) : (RS.nx e h).fn = .ok (.d .non) h := rfl
@[simp] theorem ret_fn (r : R Val) (env : Env') (f : MS) : ((r.run env fun x h1 => RS.rt x h1).bind f).fn = r := by cases r <;> rfl
@[simp] theorem ret_bind (r : R Val) (env : Env') (f : MS) : (r.run env fun x h1 => RS.rt x h1).bind f = r.run env fun x h1 => RS.rt x h1 := by cases r <;> rfl
@[simp] theorem ret_fn0 (r : R Val) (env : Env') : (r.run env fun x h1 => RS.rt x h1).fn = r := by cases r <;> rfl
@[simp] theorem bind_id (r : R Val) : (r.bind fun v h => .ok v h) = r := by cases r <;> rfl
@[simp] theorem nxt (env : Env') (h : EH) : sNext env h = .nx env h := rfl
/-- a def whose body is a call -/
theorem fwd {f : Fn} {xs : List Val} {gs' : List G} {v : Val} {r : R Val} (B : Bd w gs h) (e : f (.r 3 :: xs) h = r) (er : r = .ok v (upB h w gs')) (hv : Val.lt h.length v = true) : callFn f (.r 3 :: xs) h = .ok v (upB h w gs') :=
  callB (j := []) B (by rw [e, er, List.append_nil]) hv
theorem Rs.fwd {f : Fn} {xs : List Val} {c : Nat} {r : R Val} {P : List G → Nat → Prop} (B : Bd w gs h) (e : f (.r 3 :: xs) h = r) (x : Rs w h gs c r P) : Rs w h gs c (callFn f (.r 3 :: xs) h) P := by
  obtain ⟨gs', n, er, q⟩ := x
  exact ⟨gs', n, K73.fwd B e er rfl, q⟩
theorem constant_ok (B : Bd w gs h) (wf : WF w gs) (b : Bool) (hl : gs.length + 1 ≤ 16000000) :
    Rs w h gs 1 (callFn m_Board_constant [.r 3, .d (.int (if b then 1 else 0))] h) (fun gs' n => Wi w gs' n fun _ => b) := by
  have fp : getF F_put (flds w) = none := rfl
  cases b
  · refine Rs.fwd B ?_ (put_ok B wf .zero trivial hl (b := fun _ => false) fun _ _ => rfl)
    simp [fnOf, sSeq, sRet, sIf, sAsg, sExpr, sPar, startE, mVar, mCst, m1, m2, mB, mTruth, mNot, mAnd, mOr, mIf, mCons, mNil, mTup, mLst, mIdx, mOp, mVal, asB, okB, okI, newT, newL, mkT, pures, fits, opEq, opNe, opLt, opLe, opGt, opGe, opAdd, opSub, tgName, setAll, getM, asT, getS, getL, getZ, bInt, bMin, bMax, bLen, bList, bTuple, intsV, maxI, minI, m_Board_constant, b_Board_constant, meth_B B fp, G.d]
  · refine Rs.fwd B ?_ (put_ok B wf .one trivial hl (b := fun _ => true) fun _ _ => rfl)
    simp [fnOf, sSeq, sRet, sIf, sAsg, sExpr, sPar, startE, mVar, mCst, m1, m2, mB, mTruth, mNot, mAnd, mOr, mIf, mCons, mNil, mTup, mLst, mIdx, mOp, mVal, asB, okB, okI, newT, newL, mkT, pures, fits, opEq, opNe, opLt, opLe, opGt, opGe, opAdd, opSub, tgName, setAll, getM, asT, getS, getL, getZ, bInt, bMin, bMax, bLen, bList, bTuple, intsV, maxI, minI, m_Board_constant, b_Board_constant, meth_B B fp, G.d]
def G.word : G → List Nat
  | .zero => k1_zero
  | .one => k0_one
  | .not _ => k2_not
  | .and _ _ => k4_and
  | .or _ _ => k5_or
  | .xor _ _ => k3_xor
/-- the gate of a wire -/
def gw (w : Nat) (gs : List G) (r : Nat) : Option G := if w ≤ r then gs[r - w]? else none
def wordV (o : Option G) : Val := match o with
  | some g => .d (.str g.word)
  | none => .d .non
theorem atV_gl (gs : List G) {i : Nat} {g : G} (e : gs[i]? = some g) : atV (gl gs) (i : Int) = some (.d g.d) := by
  have hl := (List.getElem?_eq_some_iff.mp e).1
  have q : L2.ixN (gl gs).length (i : Int) = some i := by
    unfold L2.ixN
    simp [fnOf, sSeq, sRet, sIf, sAsg, sExpr, sPar, startE, mVar, mCst, m1, m2, mB, mTruth, mNot, mAnd, mOr, mIf, mCons, mNil, mTup, mLst, mIdx, mOp, mVal, asB, okB, okI, newT, newL, mkT, pures, fits, opEq, opNe, opLt, opLe, opGt, opGe, opAdd, opSub, tgName, setAll, getM, asT, getS, getL, getZ, bInt, bMin, bMax, bLen, bList, bTuple, intsV, maxI, minI, gl]
    omega
  unfold atV
  rw [q]
  simp [fnOf, sSeq, sRet, sIf, sAsg, sExpr, sPar, startE, mVar, mCst, m1, m2, mB, mTruth, mNot, mAnd, mOr, mIf, mCons, mNil, mTup, mLst, mIdx, mOp, mVal, asB, okB, okI, newT, newL, mkT, pures, fits, opEq, opNe, opLt, opLe, opGt, opGe, opAdd, opSub, tgName, setAll, getM, asT, getS, getL, getZ, bInt, bMin, bMax, bLen, bList, bTuple, intsV, maxI, minI, gl, e]
theorem word_of_ok (B : Bd w gs h) {r : Nat} (hr : r < w + gs.length) : callFn m_Board_word_of [.r 3, .d (.int (r : Int))] h = .ok (wordV (gw w gs r)) h := by
  have e0 : ([some (Val.r 3), some (.d (.int (r : Int)))] : Env')[0]? = some (some (.r 3)) := rfl
  have key : m_Board_word_of (.r 3 :: [.d (.int (r : Int))]) h = .ok (wordV (gw w gs r)) h := by
    unfold gw
    by_cases c : w ≤ r
    · rw [if_pos c]
      have hg : ∃ g, gs[r - w]? = some g := ⟨gs[r - w], List.getElem?_eq_getElem (by omega)⟩
      obtain ⟨g, hg⟩ := hg
      have a := atV_gl gs hg
      have e1 : ((r - w : Nat) : Int) = (r : Int) - (w : Int) := by omega
      rw [e1] at a
      have f1 := fld_w B _ e0
      have f2 := fld_g B _ e0
      have g4 := B.g
      have i1 : opIdx (.r 4) (.d (.int ((r : Int) - (w : Int)))) h = .ok (.d g.d) h := by
        simp [fnOf, sSeq, sRet, sIf, sAsg, sExpr, sPar, startE, mVar, mCst, m1, m2, mB, mTruth, mNot, mAnd, mOr, mIf, mCons, mNil, mTup, mLst, mIdx, mOp, mVal, asB, okB, okI, newT, newL, mkT, pures, fits, opEq, opNe, opLt, opLe, opGt, opGe, opAdd, opSub, tgName, setAll, getM, asT, getS, getL, getZ, bInt, bMin, bMax, bLen, bList, bTuple, intsV, maxI, minI, opIdx, g4, a]
      have i2 : opIdx (.d g.d) (.d (.int 0)) h = .ok (.d (.str g.word)) h := by
        cases g <;> simp [fnOf, sSeq, sRet, sIf, sAsg, sExpr, sPar, startE, mVar, mCst, m1, m2, mB, mTruth, mNot, mAnd, mOr, mIf, mCons, mNil, mTup, mLst, mIdx, mOp, mVal, asB, okB, okI, newT, newL, mkT, pures, fits, opEq, opNe, opLt, opLe, opGt, opGe, opAdd, opSub, tgName, setAll, getM, asT, getS, getL, getZ, bInt, bMin, bMax, bLen, bList, bTuple, intsV, maxI, minI, opIdx, G.d, atV, L2.ixN, G.word] <;> rfl
      have c2 : (w : Int) ≤ (r : Int) := by omega
      rw [hg]
      simp [fnOf, sSeq, sRet, sIf, sAsg, sExpr, sPar, startE, mVar, mCst, m1, m2, mB, mTruth, mNot, mAnd, mOr, mIf, mCons, mNil, mTup, mLst, mIdx, mOp, mVal, asB, okB, okI, newT, newL, mkT, pures, fits, opEq, opNe, opLt, opLe, opGt, opGe, opAdd, opSub, tgName, setAll, getM, asT, getS, getL, getZ, bInt, bMin, bMax, bLen, bList, bTuple, intsV, maxI, minI, m_Board_word_of, b_Board_word_of, f1, f2, i1, i2, c2, wordV]
    · rw [if_neg c]
      have f1 := fld_w B _ e0
      have c2 : ¬ (w : Int) ≤ (r : Int) := by omega
      simp [fnOf, sSeq, sRet, sIf, sAsg, sExpr, sPar, startE, mVar, mCst, m1, m2, mB, mTruth, mNot, mAnd, mOr, mIf, mCons, mNil, mTup, mLst, mIdx, mOp, mVal, asB, okB, okI, newT, newL, mkT, pures, fits, opEq, opNe, opLt, opLe, opGt, opGe, opAdd, opSub, tgName, setAll, getM, asT, getS, getL, getZ, bInt, bMin, bMax, bLen, bList, bTuple, intsV, maxI, minI, m_Board_word_of, b_Board_word_of, f1, c2, wordV]
  have q := callB (j := []) (v := wordV (gw w gs r)) (xs := [.d (.int (r : Int))]) (gs' := gs) B (by rw [B.same, List.append_nil]; exact key) (by unfold wordV; split <;> rfl)
  rw [B.same] at q
  exact q
end K73

set_option Elab.async false
set_option linter.all false
set_option maxRecDepth 100000
set_option maxHeartbeats 2000000
namespace K73
open Ev
variable {w : Nat} {gs : List G} {h : EH}
theorem in_oz (v : Val) (o : Option G) (hv : v = wordV o) (h : EH) : opIn v (.d (.tup true [.str k0_one, .str k1_zero])) h = okB (match o with
    | some .one => true
    | some .zero => true
    | _ => false) h := by
  subst hv
  cases o with
  | none => simp [fnOf, sSeq, sRet, sIf, sAsg, sExpr, sPar, startE, mVar, mCst, m1, m2, mB, mTruth, mNot, mAnd, mOr, mIf, mCons, mNil, mTup, mLst, mIdx, mOp, mVal, asB, okB, okI, newT, newL, mkT, pures, fits, opEq, opNe, opLt, opLe, opGt, opGe, opAdd, opSub, tgName, setAll, getM, asT, getS, getL, getZ, bInt, bMin, bMax, bLen, bList, bTuple, intsV, maxI, minI, wordV, opIn, isIn, inD, flatD, eqD]
  | some g => cases g <;> simp [fnOf, sSeq, sRet, sIf, sAsg, sExpr, sPar, startE, mVar, mCst, m1, m2, mB, mTruth, mNot, mAnd, mOr, mIf, mCons, mNil, mTup, mLst, mIdx, mOp, mVal, asB, okB, okI, newT, newL, mkT, pures, fits, opEq, opNe, opLt, opLe, opGt, opGe, opAdd, opSub, tgName, setAll, getM, asT, getS, getL, getZ, bInt, bMin, bMax, bLen, bList, bTuple, intsV, maxI, minI, wordV, G.word, opIn, isIn, inD, flatD, eqD]
theorem eq_non (s : List Nat) (hs : PySem.SeqAt.shaped (.str ⟨s.toArray⟩) = true) (h : EH) : opEq (.d .non) (.d (.str s)) h = okB false h := by
  have e : eqAny (.d .non) (.d (.str s)) h = some false := by
    have z : PySem.SeqAt.shaped PySem.PyData.none = true := rfl
    simp [fnOf, sSeq, sRet, sIf, sAsg, sExpr, sPar, startE, mVar, mCst, m1, m2, mB, mTruth, mNot, mAnd, mOr, mIf, mCons, mNil, mTup, mLst, mIdx, mOp, mVal, asB, okB, okI, newT, newL, mkT, pures, fits, opEq, opNe, opLt, opLe, opGt, opGe, opAdd, opSub, tgName, setAll, getM, asT, getS, getL, getZ, bInt, bMin, bMax, bLen, bList, bTuple, intsV, maxI, minI, eqAny, vpy, D.py, hs, z, PySem.PyData.eqv]
  simp [fnOf, sSeq, sRet, sIf, sAsg, sExpr, sPar, startE, mVar, mCst, m1, m2, mB, mTruth, mNot, mAnd, mOr, mIf, mCons, mNil, mTup, mLst, mIdx, mOp, mVal, asB, okB, okI, newT, newL, mkT, pures, fits, opEq, opNe, opLt, opLe, opGt, opGe, opAdd, opSub, tgName, setAll, getM, asT, getS, getL, getZ, bInt, bMin, bMax, bLen, bList, bTuple, intsV, maxI, minI, opEq, e]
theorem gw_some {r : Nat} {g : G} (e : gw w gs r = some g) : w ≤ r ∧ gs[r - w]? = some g := by
  unfold gw at e
  by_cases c : w ≤ r
  · rw [if_pos c] at e
    exact ⟨c, e⟩
  · rw [if_neg c] at e
    cases e
theorem gw_V (wf : WF w gs) {r : Nat} {g : G} (e : gw w gs r = some g) {xs : List Bool} (hx : xs.length = w) : V xs gs r = g.ev (V xs gs) := by
  obtain ⟨h1, h2⟩ := gw_some e
  have q := V_gate wf hx h2
  rw [show w + (r - w) = r by omega] at q
  exact q
theorem turned_ok (B : Bd w gs h) (wf : WF w gs) {r : Nat} {b : List Bool → Bool} (hr : Wi w gs r b) (hl : gs.length + 1 ≤ 16000000) :
    Rs w h gs 1 (callFn m_Board_turned [.r 3, .d (.int (r : Int))] h) (fun gs' n => Wi w gs' n fun xs => !b xs) := by
  have f1 : getF F_word_of (flds w) = none := rfl
  have f2 : getF F_constant (flds w) = none := rfl
  have f3 : getF F_put (flds w) = none := rfl
  have wo := word_of_ok B hr.1
  have oz := in_oz _ (gw w gs r) rfl h
  have e0 : ([some (Val.r 3), some (.d (.int (r : Int))), none] : Env')[0]? = some (some (.r 3)) := rfl
  have general : (∀ g, gw w gs r = some g → g ≠ .one ∧ g ≠ .zero ∧ ∀ a, g ≠ .not a) → Rs w h gs 1 (callFn m_Board_turned [.r 3, .d (.int (r : Int))] h) (fun gs' n => Wi w gs' n fun xs => !b xs) := fun ng => by
    refine Rs.fwd B ?_ (put_ok B wf (.not r) hr.1 hl (b := fun xs => !b xs) fun xs hx => by simp [fnOf, sSeq, sRet, sIf, sAsg, sExpr, sPar, startE, mVar, mCst, m1, m2, mB, mTruth, mNot, mAnd, mOr, mIf, mCons, mNil, mTup, mLst, mIdx, mOp, mVal, asB, okB, okI, newT, newL, mkT, pures, fits, opEq, opNe, opLt, opLe, opGt, opGe, opAdd, opSub, tgName, setAll, getM, asT, getS, getL, getZ, bInt, bMin, bMax, bLen, bList, bTuple, intsV, maxI, minI, G.ev, hr.2 xs hx])
    cases e : gw w gs r with
    | none =>
      rw [e] at wo oz
      simp only [wordV] at wo oz
      have en := eq_non k2_not (by decide +kernel) h
      simp [fnOf, sSeq, sRet, sIf, sAsg, sExpr, sPar, startE, mVar, mCst, m1, m2, mB, mTruth, mNot, mAnd, mOr, mIf, mCons, mNil, mTup, mLst, mIdx, mOp, mVal, asB, okB, okI, newT, newL, mkT, pures, fits, opNe, opLt, opLe, opGt, opGe, opAdd, opSub, tgName, setAll, getM, asT, getS, getL, getZ, bInt, bMin, bMax, bLen, bList, bTuple, intsV, maxI, minI, m_Board_turned, b_Board_turned, meth_B B f1, meth_B B f3, wo, oz, wordV, G.d, en]
    | some g =>
      rw [e] at wo oz
      obtain ⟨n1, n2, n3⟩ := ng g e
      cases g with
      | one => exact absurd rfl n1
      | zero => exact absurd rfl n2
      | not a => exact absurd rfl (n3 a)
      | and a c => simp only [wordV, G.word] at wo oz; simp [fnOf, sSeq, sRet, sIf, sAsg, sExpr, sPar, startE, mVar, mCst, m1, m2, mB, mTruth, mNot, mAnd, mOr, mIf, mCons, mNil, mTup, mLst, mIdx, mOp, mVal, asB, okB, okI, newT, newL, mkT, pures, fits, opEq, opNe, opLt, opLe, opGt, opGe, opAdd, opSub, tgName, setAll, getM, asT, getS, getL, getZ, bInt, bMin, bMax, bLen, bList, bTuple, intsV, maxI, minI, m_Board_turned, b_Board_turned, meth_B B f1, meth_B B f3, wo, oz, wordV, G.word, G.d]
      | or a c => simp only [wordV, G.word] at wo oz; simp [fnOf, sSeq, sRet, sIf, sAsg, sExpr, sPar, startE, mVar, mCst, m1, m2, mB, mTruth, mNot, mAnd, mOr, mIf, mCons, mNil, mTup, mLst, mIdx, mOp, mVal, asB, okB, okI, newT, newL, mkT, pures, fits, opEq, opNe, opLt, opLe, opGt, opGe, opAdd, opSub, tgName, setAll, getM, asT, getS, getL, getZ, bInt, bMin, bMax, bLen, bList, bTuple, intsV, maxI, minI, m_Board_turned, b_Board_turned, meth_B B f1, meth_B B f3, wo, oz, wordV, G.word, G.d]
      | xor a c => simp only [wordV, G.word] at wo oz; simp [fnOf, sSeq, sRet, sIf, sAsg, sExpr, sPar, startE, mVar, mCst, m1, m2, mB, mTruth, mNot, mAnd, mOr, mIf, mCons, mNil, mTup, mLst, mIdx, mOp, mVal, asB, okB, okI, newT, newL, mkT, pures, fits, opEq, opNe, opLt, opLe, opGt, opGe, opAdd, opSub, tgName, setAll, getM, asT, getS, getL, getZ, bInt, bMin, bMax, bLen, bList, bTuple, intsV, maxI, minI, m_Board_turned, b_Board_turned, meth_B B f1, meth_B B f3, wo, oz, wordV, G.word, G.d]
  cases e : gw w gs r with
  | none => exact general fun g eg => by rw [e] at eg; cases eg
  | some g =>
    cases g with
    | and a c => exact general fun g eg => by rw [e] at eg; cases eg; simp [fnOf, sSeq, sRet, sIf, sAsg, sExpr, sPar, startE, mVar, mCst, m1, m2, mB, mTruth, mNot, mAnd, mOr, mIf, mCons, mNil, mTup, mLst, mIdx, mOp, mVal, asB, okB, okI, newT, newL, mkT, pures, fits, opEq, opNe, opLt, opLe, opGt, opGe, opAdd, opSub, tgName, setAll, getM, asT, getS, getL, getZ, bInt, bMin, bMax, bLen, bList, bTuple, intsV, maxI, minI]
    | or a c => exact general fun g eg => by rw [e] at eg; cases eg; simp [fnOf, sSeq, sRet, sIf, sAsg, sExpr, sPar, startE, mVar, mCst, m1, m2, mB, mTruth, mNot, mAnd, mOr, mIf, mCons, mNil, mTup, mLst, mIdx, mOp, mVal, asB, okB, okI, newT, newL, mkT, pures, fits, opEq, opNe, opLt, opLe, opGt, opGe, opAdd, opSub, tgName, setAll, getM, asT, getS, getL, getZ, bInt, bMin, bMax, bLen, bList, bTuple, intsV, maxI, minI]
    | xor a c => exact general fun g eg => by rw [e] at eg; cases eg; simp [fnOf, sSeq, sRet, sIf, sAsg, sExpr, sPar, startE, mVar, mCst, m1, m2, mB, mTruth, mNot, mAnd, mOr, mIf, mCons, mNil, mTup, mLst, mIdx, mOp, mVal, asB, okB, okI, newT, newL, mkT, pures, fits, opEq, opNe, opLt, opLe, opGt, opGe, opAdd, opSub, tgName, setAll, getM, asT, getS, getL, getZ, bInt, bMin, bMax, bLen, bList, bTuple, intsV, maxI, minI]
    | one =>
      rw [e] at wo oz
      simp only [wordV, G.word] at wo oz
      refine Rs.imp (Rs.fwd B ?_ (constant_ok B wf false hl)) (Nat.le_refl _) fun gs' n p q => ⟨q.1, fun xs hx => ?_⟩
      · simp [fnOf, sSeq, sRet, sIf, sAsg, sExpr, sPar, startE, mVar, mCst, m1, m2, mB, mTruth, mNot, mAnd, mOr, mIf, mCons, mNil, mTup, mLst, mIdx, mOp, mVal, asB, okB, okI, newT, newL, mkT, pures, fits, opEq, opNe, opLt, opLe, opGt, opGe, opAdd, opSub, tgName, setAll, getM, asT, getS, getL, getZ, bInt, bMin, bMax, bLen, bList, bTuple, intsV, maxI, minI, m_Board_turned, b_Board_turned, meth_B B f1, meth_B B f2, wo, oz, wordV, G.word]
      · have z := hr.2 xs hx
        rw [gw_V wf e hx] at z
        simp [fnOf, sSeq, sRet, sIf, sAsg, sExpr, sPar, startE, mVar, mCst, m1, m2, mB, mTruth, mNot, mAnd, mOr, mIf, mCons, mNil, mTup, mLst, mIdx, mOp, mVal, asB, okB, okI, newT, newL, mkT, pures, fits, opEq, opNe, opLt, opLe, opGt, opGe, opAdd, opSub, tgName, setAll, getM, asT, getS, getL, getZ, bInt, bMin, bMax, bLen, bList, bTuple, intsV, maxI, minI, q.2 xs hx, ← z, G.ev]
    | zero =>
      rw [e] at wo oz
      simp only [wordV, G.word] at wo oz
      refine Rs.imp (Rs.fwd B ?_ (constant_ok B wf true hl)) (Nat.le_refl _) fun gs' n p q => ⟨q.1, fun xs hx => ?_⟩
      · simp [fnOf, sSeq, sRet, sIf, sAsg, sExpr, sPar, startE, mVar, mCst, m1, m2, mB, mTruth, mNot, mAnd, mOr, mIf, mCons, mNil, mTup, mLst, mIdx, mOp, mVal, asB, okB, okI, newT, newL, mkT, pures, fits, opEq, opNe, opLt, opLe, opGt, opGe, opAdd, opSub, tgName, setAll, getM, asT, getS, getL, getZ, bInt, bMin, bMax, bLen, bList, bTuple, intsV, maxI, minI, m_Board_turned, b_Board_turned, meth_B B f1, meth_B B f2, wo, oz, wordV, G.word]
      · have z := hr.2 xs hx
        rw [gw_V wf e hx] at z
        simp [fnOf, sSeq, sRet, sIf, sAsg, sExpr, sPar, startE, mVar, mCst, m1, m2, mB, mTruth, mNot, mAnd, mOr, mIf, mCons, mNil, mTup, mLst, mIdx, mOp, mVal, asB, okB, okI, newT, newL, mkT, pures, fits, opEq, opNe, opLt, opLe, opGt, opGe, opAdd, opSub, tgName, setAll, getM, asT, getS, getL, getZ, bInt, bMin, bMax, bLen, bList, bTuple, intsV, maxI, minI, q.2 xs hx, ← z, G.ev]
    | not a =>
      obtain ⟨c1, c2⟩ := gw_some e
      rw [e] at wo oz
      simp only [wordV, G.word] at wo oz
      have lt : a < w + (r - w) := wf _ _ c2
      have f4 := fld_g B ([some (Val.r 3), some (.d (.int (r : Int))), some (.d (.str k2_not))] : Env') rfl
      have f5 := fld_w B ([some (Val.r 3), some (.d (.int (r : Int))), some (.d (.str k2_not))] : Env') rfl
      have av := atV_gl gs c2
      rw [show ((r - w : Nat) : Int) = (r : Int) - (w : Int) by omega] at av
      have g4 := B.g
      have i1 : opIdx (.r 4) (.d (.int ((r : Int) - (w : Int)))) h = .ok (.d (G.not a).d) h := by
        simp [fnOf, sSeq, sRet, sIf, sAsg, sExpr, sPar, startE, mVar, mCst, m1, m2, mB, mTruth, mNot, mAnd, mOr, mIf, mCons, mNil, mTup, mLst, mIdx, mOp, mVal, asB, okB, okI, newT, newL, mkT, pures, fits, opEq, opNe, opLt, opLe, opGt, opGe, opAdd, opSub, tgName, setAll, getM, asT, getS, getL, getZ, bInt, bMin, bMax, bLen, bList, bTuple, intsV, maxI, minI, opIdx, g4, av]
      have i2 : opIdx (.d (G.not a).d) (.d (.int 1)) h = .ok (.d (.int (a : Int))) h := by
        simp [fnOf, sSeq, sRet, sIf, sAsg, sExpr, sPar, startE, mVar, mCst, m1, m2, mB, mTruth, mNot, mAnd, mOr, mIf, mCons, mNil, mTup, mLst, mIdx, mOp, mVal, asB, okB, okI, newT, newL, mkT, pures, fits, opEq, opNe, opLt, opLe, opGt, opGe, opAdd, opSub, tgName, setAll, getM, asT, getS, getL, getZ, bInt, bMin, bMax, bLen, bList, bTuple, intsV, maxI, minI, opIdx, G.d, atV, L2.ixN]
      have key : m_Board_turned (.r 3 :: [.d (.int (r : Int))]) h = .ok (.d (.int (a : Int))) h := by
        simp [fnOf, sSeq, sRet, sIf, sAsg, sExpr, sPar, startE, mVar, mCst, m1, m2, mB, mTruth, mNot, mAnd, mOr, mIf, mCons, mNil, mTup, mLst, mIdx, mOp, mVal, asB, okB, okI, newT, newL, mkT, pures, fits, opEq, opNe, opLt, opLe, opGt, opGe, opAdd, opSub, tgName, setAll, getM, asT, getS, getL, getZ, bInt, bMin, bMax, bLen, bList, bTuple, intsV, maxI, minI, m_Board_turned, b_Board_turned, meth_B B f1, wo, oz, wordV, G.word, f4, f5, i1, i2]
      have q := callB (j := []) (gs' := gs) B (by rw [B.same, List.append_nil]; exact key) rfl
      rw [B.same] at q
      refine Rs.self (n := a) B wf q ⟨by have := hr.1; omega, fun xs hx => ?_⟩
      have z := hr.2 xs hx
      rw [gw_V wf e hx] at z
      simp [fnOf, sSeq, sRet, sIf, sAsg, sExpr, sPar, startE, mVar, mCst, m1, m2, mB, mTruth, mNot, mAnd, mOr, mIf, mCons, mNil, mTup, mLst, mIdx, mOp, mVal, asB, okB, okI, newT, newL, mkT, pures, fits, opEq, opNe, opLt, opLe, opGt, opGe, opAdd, opSub, tgName, setAll, getM, asT, getS, getL, getZ, bInt, bMin, bMax, bLen, bList, bTuple, intsV, maxI, minI, ← z, G.ev]
end K73

set_option Elab.async false
set_option linter.all false
set_option maxRecDepth 100000
set_option maxHeartbeats 2000000
namespace K73
open Ev
variable {w : Nat} {gs : List G} {h : EH}
@[simp] theorem turn_nx (env : Env') (h : EH) (k : MS) : (RS.nx env h).turn k = k env h := rfl
@[simp] theorem turn_rt (v : Val) (h : EH) (k : MS) : (RS.rt v h).turn k = .rt v h := rfl
@[simp] theorem turn_ret (r : R Val) (env : Env') (k : MS) : (r.run env fun x h1 => RS.rt x h1).turn k = r.run env fun x h1 => RS.rt x h1 := by cases r <;> rfl
inductive Op where
  | and | or | xor
def Op.word : Op → List Nat
  | .and => k4_and
  | .or => k5_or
  | .xor => k3_xor
def Op.f : Op → Bool → Bool → Bool
  | .and, a, b => a && b
  | .or, a, b => a || b
  | .xor, a, b => a ^^ b
def Op.g : Op → Nat → Nat → G
  | .and => .and
  | .or => .or
  | .xor => .xor
theorem Op.comm (o : Op) (a b : Bool) : o.f a b = o.f b a := by cases o <;> cases a <;> cases b <;> rfl
theorem with_constant_ok (B : Bd w gs h) (wf : WF w gs) (o : Op) (β : Bool) {r : Nat} {b : List Bool → Bool} (hr : Wi w gs r b) (hl : gs.length + 1 ≤ 16000000) :
    Rs w h gs 1 (callFn m_Board_with_constant [.r 3, .d (.str o.word), .d (.int (if β then 1 else 0)), .d (.int (r : Int))] h) (fun gs' n => Wi w gs' n fun xs => o.f β (b xs)) := by
  have f1 : getF F_turned (flds w) = none := rfl
  have f2 : getF F_constant (flds w) = none := rfl
  have same : m_Board_with_constant (.r 3 :: [.d (.str o.word), .d (.int (if β then 1 else 0)), .d (.int (r : Int))]) h = .ok (.d (.int (r : Int))) h → (∀ xs, b xs = o.f β (b xs)) → Rs w h gs 1 (callFn m_Board_with_constant [.r 3, .d (.str o.word), .d (.int (if β then 1 else 0)), .d (.int (r : Int))] h) (fun gs' n => Wi w gs' n fun xs => o.f β (b xs)) := fun key eq => by
    have q := callB (j := []) (gs' := gs) B (by rw [B.same, List.append_nil]; exact key) rfl
    rw [B.same] at q
    exact Rs.self (n := r) B wf q ⟨hr.1, fun xs hx => by rw [hr.2 xs hx]; exact eq xs⟩
  cases o <;> cases β
  · refine Rs.imp (Rs.fwd B ?_ (constant_ok B wf false hl)) (Nat.le_refl _) fun gs' n p q => ⟨q.1, fun xs hx => by rw [q.2 xs hx]; rfl⟩
    simp [fnOf, sSeq, sRet, sIf, sAsg, sExpr, sPar, startE, mVar, mCst, m1, m2, mB, mTruth, mNot, mAnd, mOr, mIf, mCons, mNil, mTup, mLst, mIdx, mOp, mVal, asB, okB, okI, newT, newL, mkT, pures, fits, opEq, opNe, opLt, opLe, opGt, opGe, opAdd, opSub, tgName, setAll, getM, asT, getS, getL, getZ, bInt, bLen, bList, bTuple, intsV, maxI, minI, m_Board_with_constant, b_Board_with_constant, Op.word, meth_B B f2]
  · refine same ?_ fun xs => by simp [fnOf, sSeq, sRet, sIf, sAsg, sExpr, sPar, startE, mVar, mCst, m1, m2, mB, mTruth, mNot, mAnd, mOr, mIf, mCons, mNil, mTup, mLst, mIdx, mOp, mVal, asB, okB, okI, newT, newL, mkT, pures, fits, opEq, opNe, opLt, opLe, opGt, opGe, opAdd, opSub, tgName, setAll, getM, asT, getS, getL, getZ, bInt, bLen, bList, bTuple, intsV, maxI, minI, Op.f]
    simp [fnOf, sSeq, sRet, sIf, sAsg, sExpr, sPar, startE, mVar, mCst, m1, m2, mB, mTruth, mNot, mAnd, mOr, mIf, mCons, mNil, mTup, mLst, mIdx, mOp, mVal, asB, okB, okI, newT, newL, mkT, pures, fits, opEq, opNe, opLt, opLe, opGt, opGe, opAdd, opSub, tgName, setAll, getM, asT, getS, getL, getZ, bInt, bLen, bList, bTuple, intsV, maxI, minI, m_Board_with_constant, b_Board_with_constant, Op.word]
  · refine same ?_ fun xs => by simp [fnOf, sSeq, sRet, sIf, sAsg, sExpr, sPar, startE, mVar, mCst, m1, m2, mB, mTruth, mNot, mAnd, mOr, mIf, mCons, mNil, mTup, mLst, mIdx, mOp, mVal, asB, okB, okI, newT, newL, mkT, pures, fits, opEq, opNe, opLt, opLe, opGt, opGe, opAdd, opSub, tgName, setAll, getM, asT, getS, getL, getZ, bInt, bLen, bList, bTuple, intsV, maxI, minI, Op.f]
    simp [fnOf, sSeq, sRet, sIf, sAsg, sExpr, sPar, startE, mVar, mCst, m1, m2, mB, mTruth, mNot, mAnd, mOr, mIf, mCons, mNil, mTup, mLst, mIdx, mOp, mVal, asB, okB, okI, newT, newL, mkT, pures, fits, opEq, opNe, opLt, opLe, opGt, opGe, opAdd, opSub, tgName, setAll, getM, asT, getS, getL, getZ, bInt, bLen, bList, bTuple, intsV, maxI, minI, m_Board_with_constant, b_Board_with_constant, Op.word]
  · refine Rs.imp (Rs.fwd B ?_ (constant_ok B wf true hl)) (Nat.le_refl _) fun gs' n p q => ⟨q.1, fun xs hx => by rw [q.2 xs hx]; rfl⟩
    simp [fnOf, sSeq, sRet, sIf, sAsg, sExpr, sPar, startE, mVar, mCst, m1, m2, mB, mTruth, mNot, mAnd, mOr, mIf, mCons, mNil, mTup, mLst, mIdx, mOp, mVal, asB, okB, okI, newT, newL, mkT, pures, fits, opEq, opNe, opLt, opLe, opGt, opGe, opAdd, opSub, tgName, setAll, getM, asT, getS, getL, getZ, bInt, bLen, bList, bTuple, intsV, maxI, minI, m_Board_with_constant, b_Board_with_constant, Op.word, meth_B B f2]
  · refine same ?_ fun xs => by simp [fnOf, sSeq, sRet, sIf, sAsg, sExpr, sPar, startE, mVar, mCst, m1, m2, mB, mTruth, mNot, mAnd, mOr, mIf, mCons, mNil, mTup, mLst, mIdx, mOp, mVal, asB, okB, okI, newT, newL, mkT, pures, fits, opEq, opNe, opLt, opLe, opGt, opGe, opAdd, opSub, tgName, setAll, getM, asT, getS, getL, getZ, bInt, bLen, bList, bTuple, intsV, maxI, minI, Op.f]
    simp [fnOf, sSeq, sRet, sIf, sAsg, sExpr, sPar, startE, mVar, mCst, m1, m2, mB, mTruth, mNot, mAnd, mOr, mIf, mCons, mNil, mTup, mLst, mIdx, mOp, mVal, asB, okB, okI, newT, newL, mkT, pures, fits, opEq, opNe, opLt, opLe, opGt, opGe, opAdd, opSub, tgName, setAll, getM, asT, getS, getL, getZ, bInt, bLen, bList, bTuple, intsV, maxI, minI, m_Board_with_constant, b_Board_with_constant, Op.word]
  · refine Rs.imp (Rs.fwd B ?_ (turned_ok B wf hr hl)) (Nat.le_refl _) fun gs' n p q => ⟨q.1, fun xs hx => by rw [q.2 xs hx]; simp [fnOf, sSeq, sRet, sIf, sAsg, sExpr, sPar, startE, mVar, mCst, m1, m2, mB, mTruth, mNot, mAnd, mOr, mIf, mCons, mNil, mTup, mLst, mIdx, mOp, mVal, asB, okB, okI, newT, newL, mkT, pures, fits, opEq, opNe, opLt, opLe, opGt, opGe, opAdd, opSub, tgName, setAll, getM, asT, getS, getL, getZ, bInt, bLen, bList, bTuple, intsV, maxI, minI, Op.f]⟩
    simp [fnOf, sSeq, sRet, sIf, sAsg, sExpr, sPar, startE, mVar, mCst, m1, m2, mB, mTruth, mNot, mAnd, mOr, mIf, mCons, mNil, mTup, mLst, mIdx, mOp, mVal, asB, okB, okI, newT, newL, mkT, pures, fits, opEq, opNe, opLt, opLe, opGt, opGe, opAdd, opSub, tgName, setAll, getM, asT, getS, getL, getZ, bInt, bLen, bList, bTuple, intsV, maxI, minI, m_Board_with_constant, b_Board_with_constant, Op.word, meth_B B f1]
theorem eq_word (o : Option G) (s : List Nat) (hs : PySem.SeqAt.shaped (.str ⟨s.toArray⟩) = true) (h : EH) : opEq (wordV o) (.d (.str s)) h = okB (match o with
    | some g => decide (g.word = s)
    | none => false) h := by
  cases o with
  | none => exact eq_non s hs h
  | some g => simp [fnOf, sSeq, sRet, sIf, sAsg, sExpr, sPar, startE, mVar, mCst, m1, m2, mB, mTruth, mNot, mAnd, mOr, mIf, mCons, mNil, mTup, mLst, mIdx, mOp, mVal, asB, okB, okI, newT, newL, mkT, pures, fits, opEq, opNe, opLt, opLe, opGt, opGe, opAdd, opSub, tgName, setAll, getM, asT, getS, getL, getZ, bInt, bLen, bList, bTuple, intsV, maxI, minI, wordV]
theorem bMin_2 (a b : Nat) (h : EH) : bMin [.d (.int (a : Int)), .d (.int (b : Int))] h = okI (min a b : Nat) h := by
  show okI (if (b : Int) < (a : Int) then (b : Int) else (a : Int)) h = _
  by_cases c : (b : Int) < (a : Int)
  · rw [if_pos c, Nat.min_eq_right (by omega)]
  · rw [if_neg c, Nat.min_eq_left (by omega)]
theorem bMax_2 (a b : Nat) (h : EH) : bMax [.d (.int (a : Int)), .d (.int (b : Int))] h = okI (max a b : Nat) h := by
  show okI (if (b : Int) > (a : Int) then (b : Int) else (a : Int)) h = _
  by_cases c : (b : Int) > (a : Int)
  · rw [if_pos c, Nat.max_eq_right (by omega)]
  · rw [if_neg c, Nat.max_eq_left (by omega)]
def oz : Option G → Option Bool
  | some .one => some true
  | some .zero => some false
  | _ => none
theorem in_oz' (o : Option G) (h : EH) : opIn (wordV o) (.d (.tup true [.str k0_one, .str k1_zero])) h = okB (oz o).isSome h := by
  rw [in_oz _ o rfl h]
  cases o with
  | none => rfl
  | some g => cases g <;> rfl
theorem eq_oz {o : Option G} {β : Bool} (e : oz o = some β) (h : EH) : opEq (wordV o) (.d (.str k0_one)) h = okB β h := by
  rw [eq_word o k0_one (by decide +kernel) h]
  cases o with
  | none => cases e
  | some g => cases g <;> cases e <;> rfl
theorem oz_V (wf : WF w gs) {r : Nat} {β : Bool} (e : oz (gw w gs r) = some β) {xs : List Bool} (hx : xs.length = w) : V xs gs r = β := by
  cases c : gw w gs r with
  | none => rw [c] at e; cases e
  | some g =>
    rw [gw_V wf c hx]
    rw [c] at e
    cases g <;> cases e <;> rfl
theorem gate_ok (B : Bd w gs h) (wf : WF w gs) (o : Op) {a b : Nat} {fa fb : List Bool → Bool} (ha : Wi w gs a fa) (hb : Wi w gs b fb) (hl : gs.length + 1 ≤ 16000000) :
    Rs w h gs 1 (callFn m_Board_gate [.r 3, .d (.str o.word), .d (.int (a : Int)), .d (.int (b : Int))] h) (fun gs' n => Wi w gs' n fun xs => o.f (fa xs) (fb xs)) := by
  have f1 : getF F_word_of (flds w) = none := rfl
  have f2 : getF F_constant (flds w) = none := rfl
  have f3 : getF F_put (flds w) = none := rfl
  have f4 : getF F_with_constant (flds w) = none := rfl
  obtain ⟨lo, hi, fl, fh, wl, wh, e1, e2, le, ef⟩ : ∃ (lo hi : Nat) (fl fh : List Bool → Bool), Wi w gs lo fl ∧ Wi w gs hi fh ∧ (∀ h, bMin [.d (.int (a : Int)), .d (.int (b : Int))] h = okI (lo : Int) h) ∧ (∀ h, bMax [.d (.int (a : Int)), .d (.int (b : Int))] h = okI (hi : Int) h) ∧ lo ≤ hi ∧ ∀ xs, o.f (fa xs) (fb xs) = o.f (fl xs) (fh xs) := by
    by_cases c : b < a
    · exact ⟨b, a, fb, fa, hb, ha, fun h => by rw [bMin_2, Nat.min_eq_right (by omega)], fun h => by rw [bMax_2, Nat.max_eq_left (by omega)], by omega, fun xs => o.comm _ _⟩
    · exact ⟨a, b, fa, fb, ha, hb, fun h => by rw [bMin_2, Nat.min_eq_left (by omega)], fun h => by rw [bMax_2, Nat.max_eq_right (by omega)], by omega, fun xs => rfl⟩
  have goal : Rs w h gs 1 (callFn m_Board_gate [.r 3, .d (.str o.word), .d (.int (a : Int)), .d (.int (b : Int))] h) (fun gs' n => Wi w gs' n fun xs => o.f (fl xs) (fh xs)) := by
    by_cases eq : lo = hi
    · -- the same wire twice
      subst eq
      have same : ∀ xs, xs.length = w → fl xs = fh xs := fun xs hx => (wl.2 xs hx).symm.trans (wh.2 xs hx)
      cases o with
      | xor =>
        refine Rs.imp (Rs.fwd B ?_ (constant_ok B wf false hl)) (Nat.le_refl _) fun gs' n p q => ⟨q.1, fun xs hx => by rw [q.2 xs hx]; simp [fnOf, sSeq, sRet, sIf, sAsg, sExpr, sPar, startE, mVar, mCst, m1, m2, mB, mTruth, mNot, mAnd, mOr, mIf, mCons, mNil, mTup, mLst, mIdx, mOp, mVal, asB, okB, okI, newT, newL, mkT, pures, fits, opEq, opNe, opLt, opLe, opGt, opGe, opAdd, opSub, tgName, setAll, getM, asT, getS, getL, getZ, bInt, bLen, bList, bTuple, intsV, maxI, minI, Op.f, same xs hx]⟩
        simp [fnOf, sSeq, sRet, sIf, sAsg, sExpr, sPar, startE, mVar, mCst, m1, m2, mB, mTruth, mNot, mAnd, mOr, mIf, mCons, mNil, mTup, mLst, mIdx, mOp, mVal, asB, okB, okI, newT, newL, mkT, pures, fits, opEq, opNe, opLt, opLe, opGt, opGe, opAdd, opSub, tgName, setAll, getM, asT, getS, getL, getZ, bInt, bLen, bList, bTuple, intsV, maxI, minI, m_Board_gate, b_Board_gate, Op.word, e1, e2, meth_B B f2]
      | and =>
        have key : m_Board_gate (.r 3 :: [.d (.str Op.and.word), .d (.int (a : Int)), .d (.int (b : Int))]) h = .ok (.d (.int (lo : Int))) h := by
          simp [fnOf, sSeq, sRet, sIf, sAsg, sExpr, sPar, startE, mVar, mCst, m1, m2, mB, mTruth, mNot, mAnd, mOr, mIf, mCons, mNil, mTup, mLst, mIdx, mOp, mVal, asB, okB, okI, newT, newL, mkT, pures, fits, opEq, opNe, opLt, opLe, opGt, opGe, opAdd, opSub, tgName, setAll, getM, asT, getS, getL, getZ, bInt, bLen, bList, bTuple, intsV, maxI, minI, m_Board_gate, b_Board_gate, Op.word, e1, e2]
        have q := callB (j := []) (gs' := gs) B (by rw [B.same, List.append_nil]; exact key) rfl
        rw [B.same] at q
        exact Rs.self (n := lo) B wf q ⟨wl.1, fun xs hx => by rw [wl.2 xs hx]; simp [fnOf, sSeq, sRet, sIf, sAsg, sExpr, sPar, startE, mVar, mCst, m1, m2, mB, mTruth, mNot, mAnd, mOr, mIf, mCons, mNil, mTup, mLst, mIdx, mOp, mVal, asB, okB, okI, newT, newL, mkT, pures, fits, opEq, opNe, opLt, opLe, opGt, opGe, opAdd, opSub, tgName, setAll, getM, asT, getS, getL, getZ, bInt, bLen, bList, bTuple, intsV, maxI, minI, Op.f, same xs hx]⟩
      | or =>
        have key : m_Board_gate (.r 3 :: [.d (.str Op.or.word), .d (.int (a : Int)), .d (.int (b : Int))]) h = .ok (.d (.int (lo : Int))) h := by
          simp [fnOf, sSeq, sRet, sIf, sAsg, sExpr, sPar, startE, mVar, mCst, m1, m2, mB, mTruth, mNot, mAnd, mOr, mIf, mCons, mNil, mTup, mLst, mIdx, mOp, mVal, asB, okB, okI, newT, newL, mkT, pures, fits, opEq, opNe, opLt, opLe, opGt, opGe, opAdd, opSub, tgName, setAll, getM, asT, getS, getL, getZ, bInt, bLen, bList, bTuple, intsV, maxI, minI, m_Board_gate, b_Board_gate, Op.word, e1, e2]
        have q := callB (j := []) (gs' := gs) B (by rw [B.same, List.append_nil]; exact key) rfl
        rw [B.same] at q
        exact Rs.self (n := lo) B wf q ⟨wl.1, fun xs hx => by rw [wl.2 xs hx]; simp [fnOf, sSeq, sRet, sIf, sAsg, sExpr, sPar, startE, mVar, mCst, m1, m2, mB, mTruth, mNot, mAnd, mOr, mIf, mCons, mNil, mTup, mLst, mIdx, mOp, mVal, asB, okB, okI, newT, newL, mkT, pures, fits, opEq, opNe, opLt, opLe, opGt, opGe, opAdd, opSub, tgName, setAll, getM, asT, getS, getL, getZ, bInt, bLen, bList, bTuple, intsV, maxI, minI, Op.f, same xs hx]⟩
    · have ne : ¬ ((lo : Int) = (hi : Int)) := by omega
      have w1 := word_of_ok B wl.1
      have w2 := word_of_ok B wh.1
      have o1 := in_oz' (gw w gs lo) h
      have o2 := in_oz' (gw w gs hi) h
      have nw : opEq (.d (.str o.word)) (.d (.str k2_not)) = okB false := by cases o <;> rfl
      have ei : opEq (.d (.int (lo : Int))) (.d (.int (hi : Int))) = okB false := funext fun h => by simp [fnOf, sSeq, sRet, sIf, sAsg, sExpr, sPar, startE, mVar, mCst, m1, m2, mB, mTruth, mNot, mAnd, mOr, mIf, mCons, mNil, mTup, mLst, mIdx, mOp, mVal, asB, okB, okI, newT, newL, mkT, pures, fits, opEq, opNe, opLt, opLe, opGt, opGe, opAdd, opSub, tgName, setAll, getM, asT, getS, getL, getZ, bInt, bLen, bList, bTuple, intsV, maxI, minI, ne]
      cases c1 : oz (gw w gs lo) with
      | some β =>
        have q1 := eq_oz c1 h
        rw [c1] at o1
        refine Rs.imp (Rs.fwd B ?_ (with_constant_ok B wf o β wh hl)) (Nat.le_refl _) fun gs' n p q => ⟨q.1, fun xs hx => ?_⟩
        · simp [fnOf, sSeq, sRet, sIf, sAsg, sExpr, sPar, startE, mVar, mCst, m1, m2, mB, mTruth, mNot, mAnd, mOr, mIf, mCons, mNil, mTup, mLst, mIdx, mOp, mVal, asB, okB, okI, newT, newL, mkT, pures, fits, opNe, opLt, opLe, opGt, opGe, opAdd, opSub, tgName, setAll, getM, asT, getS, getL, getZ, bInt, bLen, bList, bTuple, intsV, maxI, minI, m_Board_gate, b_Board_gate, e1, e2, nw, ei, meth_B B f1, meth_B B f4, w1, o1, q1, sFor, iVal, tgTup, tgCons, noX, mLoop, loopL, tgNil]
        · have z := wl.2 xs hx
          rw [oz_V wf c1 hx] at z
          rw [q.2 xs hx, z]
      | none =>
        rw [c1] at o1
        cases c2 : oz (gw w gs hi) with
        | some β =>
          have q2 := eq_oz c2 h
          rw [c2] at o2
          refine Rs.imp (Rs.fwd B ?_ (with_constant_ok B wf o β wl hl)) (Nat.le_refl _) fun gs' n p q => ⟨q.1, fun xs hx => ?_⟩
          · simp [fnOf, sSeq, sRet, sIf, sAsg, sExpr, sPar, startE, mVar, mCst, m1, m2, mB, mTruth, mNot, mAnd, mOr, mIf, mCons, mNil, mTup, mLst, mIdx, mOp, mVal, asB, okB, okI, newT, newL, mkT, pures, fits, opNe, opLt, opLe, opGt, opGe, opAdd, opSub, tgName, setAll, getM, asT, getS, getL, getZ, bInt, bLen, bList, bTuple, intsV, maxI, minI, m_Board_gate, b_Board_gate, e1, e2, nw, ei, meth_B B f1, meth_B B f4, w1, o1, w2, o2, q2, sFor, iVal, tgTup, tgCons, noX, mLoop, loopL, tgNil]
            exact meth_B B f4 rfl (by simp [fnOf, sSeq, sRet, sIf, sAsg, sExpr, sPar, startE, mVar, mCst, m1, m2, mB, mTruth, mNot, mAnd, mOr, mIf, mCons, mNil, mTup, mLst, mIdx, mOp, mVal, asB, okB, okI, newT, newL, mkT, pures, fits, opNe, opLt, opLe, opGt, opGe, opAdd, opSub, tgName, setAll, getM, asT, getS, getL, getZ, bInt, bLen, bList, bTuple, intsV, maxI, minI, meth_B B f1, w2, q2])
          · have z := wh.2 xs hx
            rw [oz_V wf c2 hx] at z
            rw [q.2 xs hx]
            show o.f β (fl xs) = o.f (fl xs) (fh xs)
            rw [← z, o.comm]
        | none =>
          rw [c2] at o2
          have gd : (o.g lo hi).d = .tup true [.str o.word, .int (lo : Int), .int (hi : Int)] := by cases o <;> rfl
          have gev : ∀ xs, (o.g lo hi).ev (V xs gs) = o.f (V xs gs lo) (V xs gs hi) := fun xs => by cases o <;> rfl
          refine Rs.fwd B ?_ (put_ok B wf (o.g lo hi) (by have := wl.1; have := wh.1; cases o <;> exact ⟨wl.1, wh.1⟩) hl (b := fun xs => o.f (fl xs) (fh xs)) fun xs hx => by rw [gev, wl.2 xs hx, wh.2 xs hx])
          simp [fnOf, sSeq, sRet, sIf, sAsg, sExpr, sPar, startE, mVar, mCst, m1, m2, mB, mTruth, mNot, mAnd, mOr, mIf, mCons, mNil, mTup, mLst, mIdx, mOp, mVal, asB, okB, okI, newT, newL, mkT, pures, fits, opNe, opLt, opLe, opGt, opGe, opAdd, opSub, tgName, setAll, getM, asT, getS, getL, getZ, bInt, bLen, bList, bTuple, intsV, maxI, minI, m_Board_gate, b_Board_gate, e1, e2, nw, ei, meth_B B f1, meth_B B f3, w1, o1, w2, o2, sFor, iVal, tgTup, tgCons, noX, mLoop, loopL, tgNil, gd]
  obtain ⟨gs', n, e, p, wf', l, q⟩ := goal
  exact ⟨gs', n, e, p, wf', l, q.1, fun xs hx => (q.2 xs hx).trans (ef xs).symm⟩
end K73

set_option Elab.async false
set_option linter.all false
set_option maxRecDepth 100000
set_option maxHeartbeats 2000000
namespace K73
open Ev
variable {w : Nat} {gs : List G} {h : EH}
/-! ### rails -/
def rl (ns : List Nat) : D := .tup true (ns.map fun (n : Nat) => .int (n : Int))
def ri (ns : List Nat) : List Val := ns.map fun (n : Nat) => .d (.int (n : Int))
theorem mkT_ri (ns : List Nat) : mkT (ri ns) = .d (rl ns) := by
  have e : ri ns = (ns.map fun (n : Nat) => D.int (n : Int)).map .d := by simp [ri]
  rw [e, mkT_pure]
  rfl
theorem asT_rl (ns : List Nat) : asT (.d (rl ns)) = some (ri ns) := by simp [asT, rl, ri]
theorem getS_rl (ns : List Nat) (h : EH) : getS (.d (rl ns)) h = some (ri ns) := by simp [getS, asT_rl]
@[simp] theorem ri_len (ns : List Nat) : (ri ns).length = ns.length := by simp [ri]
theorem len_rl (ns : List Nat) (h : EH) : bLen [.d (rl ns)] h = okI (ns.length : Int) h := by
  simp [bLen, getS_rl, rl]
  simp [getS, asT]
def bv (xs : List Bool) (gs : List G) (ns : List Nat) : List Bool := ns.map (V xs gs)
/-- a rail: its wires are there, it tells f -/
structure Ri (w : Nat) (gs : List G) (ns : List Nat) (f : List Bool → List Bool) : Prop where
  i : ∀ n, n ∈ ns → n < w + gs.length
  v : ∀ xs, xs.length = w → bv xs gs ns = f xs
theorem Ri.ext {gs' : List G} {ns : List Nat} {f : List Bool → List Bool} (p : gs <+: gs') (r : Ri w gs ns f) : Ri w gs' ns f := by
  refine ⟨fun n m => Nat.lt_of_lt_of_le (r.i n m) (Nat.add_le_add_left p.length_le _), fun xs hx => ?_⟩
  rw [← r.v xs hx]
  unfold bv
  exact List.map_congr_left fun n m => V_ext p (by rw [hx]; exact r.i n m)
theorem Ri.len {ns : List Nat} {f : List Bool → List Bool} (r : Ri w gs ns f) {xs : List Bool} (hx : xs.length = w) : (f xs).length = ns.length := by
  rw [← r.v xs hx]
  simp [bv]
theorem Ri.wire {ns : List Nat} {f : List Bool → List Bool} (r : Ri w gs ns f) {i : Nat} (hi : i < ns.length) : Wi w gs ns[i] fun xs => (f xs).getD i false :=
  ⟨r.i _ (List.getElem_mem hi), fun xs hx => by show _ = (f xs).getD i false; rw [← r.v xs hx]; simp [bv, List.getD_eq_getElem?_getD, hi]⟩
theorem Ri.nil : Ri w gs [] fun _ => [] := ⟨fun _ m => (by cases m), fun _ _ => rfl⟩
theorem Ri.snoc {ns : List Nat} {n : Nat} {f : List Bool → List Bool} {b : List Bool → Bool} (r : Ri w gs ns f) (q : Wi w gs n b) : Ri w gs (ns ++ [n]) fun xs => f xs ++ [b xs] := by
  refine ⟨fun m hm => ?_, fun xs hx => ?_⟩
  · rcases List.mem_append.mp hm with z | z
    · exact r.i m z
    · simp at z
      rw [z]
      exact q.1
  · simp [bv, ← r.v xs hx, ← q.2 xs hx]
theorem Ri.app {ns ms : List Nat} {f g : List Bool → List Bool} (r : Ri w gs ns f) (q : Ri w gs ms g) : Ri w gs (ns ++ ms) fun xs => f xs ++ g xs := by
  refine ⟨fun m hm => ?_, fun xs hx => ?_⟩
  · rcases List.mem_append.mp hm with z | z
    · exact r.i m z
    · exact q.i m z
  · simp [← r.v xs hx, ← q.v xs hx, bv]
theorem Ri.imp {ns : List Nat} {f g : List Bool → List Bool} (r : Ri w gs ns f) (e : ∀ xs, xs.length = w → f xs = g xs) : Ri w gs ns g := ⟨r.i, fun xs hx => (r.v xs hx).trans (e xs hx)⟩
/-- what a step of the board makes: the gates after it, a rail -/
def Rt (w : Nat) (h : EH) (gs : List G) (c : Nat) (r : R Val) (f : List Bool → List Bool) : Prop :=
  ∃ gs' ns, r = .ok (.d (rl ns)) (upB h w gs') ∧ gs <+: gs' ∧ WF w gs' ∧ gs'.length ≤ gs.length + c ∧ Ri w gs' ns f
/-- a call whose body ends so -/
theorem Rt.call {f : Fn} {xs : List Val} {c : Nat} {φ : List Bool → List Bool} (B : Bd w gs h) {gs' : List G} {ns : List Nat} {j : EH} (e : f (.r 3 :: xs) h = .ok (.d (rl ns)) (upB h w gs' ++ j)) (p : gs <+: gs') (wf : WF w gs') (l : gs'.length ≤ gs.length + c) (r : Ri w gs' ns φ) : Rt w h gs c (callFn f (.r 3 :: xs) h) φ :=
  ⟨gs', ns, callB B e rfl, p, wf, l, r⟩
/-- a comprehension whose items are wires -/
theorem comp_B {k : Nat} {e : M Val} {env : Env'} {xs : List Val} (B : Bd w gs h) (wf : WF w gs) (c : Nat) (f : Nat → List Bool → Bool)
    (step : ∀ (i : Nat) (gs' : List G) (hi : i < xs.length), gs <+: gs' → WF w gs' → gs'.length ≤ gs.length + i * c → Rs w (upB h w gs') gs' c (e (env.set k (some xs[i])) (upB h w gs')) fun gs'' n => Wi w gs'' n (f i)) :
    ∃ gs' ns, compL (.one k) mYes e env xs h = .ok (ri ns) (upB h w gs') ∧ gs <+: gs' ∧ WF w gs' ∧ gs'.length ≤ gs.length + xs.length * c ∧ ns.length = xs.length ∧ Ri w gs' ns fun ys => (List.range xs.length).map fun i => f i ys := by
  have q := compL_inv (k := k) (e := e) (env := env) (xs := xs) (I := fun i ys h' => ∃ gs' ns, ys = ri ns ∧ h' = upB h w gs' ∧ gs <+: gs' ∧ WF w gs' ∧ gs'.length ≤ gs.length + i * c ∧ ns.length = i ∧ Ri w gs' ns fun ys => (List.range i).map fun i => f i ys)
    (fun i ys h' hi ⟨gs', ns, e1, e2, p, wf', l, nl, r⟩ => by
      subst e1 e2
      obtain ⟨gs'', n, e3, p2, wf2, l2, q⟩ := step i gs' hi p wf' l
      rw [upB_upB] at e3
      refine ⟨_, _, e3, gs'', ns ++ [n], by simp [ri], rfl, p.trans p2, wf2, by rw [Nat.succ_mul]; omega, by simp [nl], ?_⟩
      refine ((r.ext p2).snoc q).imp fun xs hx => ?_
      rw [List.range_succ, List.map_append]
      rfl)
    (h := h) ⟨gs, [], rfl, B.same.symm, List.prefix_refl _, wf, by simp, rfl, Ri.nil⟩
  obtain ⟨ys, h', e1, gs', ns, rfl, rfl, a⟩ := q
  exact ⟨gs', ns, e1, a⟩
end K73

set_option Elab.async false
set_option linter.all false
set_option maxRecDepth 100000
set_option maxHeartbeats 2000000
namespace K73
open Ev
variable {w : Nat} {gs : List G} {h : EH}
def lastB (bs : List Bool) : Bool := bs.getD (bs.length - 1) false
def lastN (ns : List Nat) : Nat := ns.getD (ns.length - 1) 0
def stretchB (bs : List Bool) (many : Nat) : List Bool := bs ++ List.replicate (many - bs.length) (lastB bs)
def stretchN (ns : List Nat) (many : Nat) : List Nat := ns ++ List.replicate (many - ns.length) (lastN ns)
theorem idx_last_rl {ns : List Nat} (hn : ns ≠ []) (h : EH) : opIdx (.d (rl ns)) (.d (.int (-1))) h = .ok (.d (.int ((lastN ns : Nat) : Int))) h := by
  have hl : 0 < ns.length := List.length_pos_iff.mpr hn
  have e : atV (ri ns) (-1) = some (.d (.int ((lastN ns : Nat) : Int))) := by
    have q : L2.ixN (ri ns).length (-1) = some (ns.length - 1) := by
      unfold L2.ixN
      simp [fnOf, sSeq, sRet, sIf, sAsg, sExpr, sPar, startE, mVar, mCst, m1, m2, mB, mTruth, mNot, mAnd, mOr, mIf, mCons, mNil, mTup, mLst, mIdx_ap, mOp, mVal, asB, okB, okI, mkT, pures, fits, opEq, opNe, opLt, opLe, opGt, opGe, opAdd, opSub, tgName, setAll, getM, bInt, intsV, maxI, minI]
      omega
    unfold atV
    rw [q]
    show (ri ns)[ns.length - 1]? = _
    simp [fnOf, sSeq, sRet, sIf, sAsg, sExpr, sPar, startE, mVar, mCst, m1, m2, mB, mTruth, mNot, mAnd, mOr, mIf, mCons, mNil, mTup, mLst, mIdx_ap, mOp, mVal, asB, okB, okI, mkT, pures, fits, opEq, opNe, opLt, opLe, opGt, opGe, opAdd, opSub, tgName, setAll, getM, bInt, intsV, maxI, minI, ri, lastN, List.getD_eq_getElem?_getD, List.getElem?_eq_getElem (show ns.length - 1 < ns.length by omega)]
  show opIdx (.d (.tup true (ns.map fun (n : Nat) => .int (n : Int)))) (.d (.int (-1))) h = _
  rw [opIdx_tup, show (ns.map fun (n : Nat) => D.int (n : Int)).map Val.d = ri ns by simp [fnOf, sSeq, sRet, sIf, sAsg, sExpr, sPar, startE, mVar, mCst, m1, m2, mB, mTruth, mNot, mAnd, mOr, mIf, mCons, mNil, mTup, mLst, mIdx_ap, mOp, mVal, asB, okB, okI, mkT, pures, fits, opEq, opNe, opLt, opLe, opGt, opGe, opAdd, opSub, tgName, setAll, getM, bInt, intsV, maxI, minI, ri], e]
theorem stretched_ok (B : Bd w gs h) {ns : List Nat} (hn : ns ≠ []) {many : Nat} (hm : many ≤ 1000000) (hs : ns.length ≤ 1000000) :
    callFn m_Board_stretched [.r 3, .d (rl ns), .d (.int (many : Int))] h = .ok (.d (rl (stretchN ns many))) h := by
  have key : m_Board_stretched (.r 3 :: [.d (rl ns), .d (.int (many : Int))]) h = .ok (.d (rl (stretchN ns many))) (h ++ [.lst (ri (List.replicate (many - ns.length) (lastN ns)))]) := by
    have es : iRange1 (mCons (m2 opSub (mVar 2) (mOp bLen (mCons (mVar 1) mNil))) mNil) (startE 4 [.r 3, .d (rl ns), .d (.int (many : Int))]) h = .ok (.seq (rng 0 (many - ns.length))) h := by
      have z2 : ((many : Int) - (ns.length : Int)).toNat = many - ns.length := by omega
      rw [iRange1_ok (h1 := h) (j := (many : Int) - (ns.length : Int)) (by simp [fnOf, sSeq, sRet, sIf, sAsg, sExpr, sPar, startE, mVar, mCst, m1, m2, mB, mTruth, mNot, mAnd, mOr, mIf, mCons, mNil, mTup, mLst, mIdx_ap, mOp, mVal, asB, okB, okI, mkT, pures, fits, opEq, opNe, opLt, opLe, opGt, opGe, opAdd, opSub, tgName, setAll, getM, bInt, intsV, maxI, minI, len_rl]) (by omega) (by omega), z2]
    have ec := compL_pure (k := 3) (e := mIdx (mVar 1) (m1 opNeg (mCst (.d (.int 1))))) (env := wipeE (startE 4 [.r 3, .d (rl ns), .d (.int (many : Int))]) [3]) (h := h) (fun _ => .d (.int ((lastN ns : Nat) : Int))) (xs := rng 0 (many - ns.length)) (fun x _ => by
      simp [fnOf, sSeq, sRet, sIf, sAsg, sExpr, sPar, startE, mVar, mCst, m1, m2, mB, mTruth, mNot, mAnd, mOr, mIf, mCons, mNil, mTup, mLst, mIdx_ap, mOp, mVal, asB, okB, okI, mkT, pures, fits, opEq, opNe, opLt, opLe, opGt, opGe, opAdd, opSub, tgName, setAll, getM, bInt, intsV, maxI, minI, wipeE, opNeg, idx_last_rl hn])
    have eq : (rng 0 (many - ns.length)).map (fun _ => Val.d (.int ((lastN ns : Nat) : Int))) = ri (List.replicate (many - ns.length) (lastN ns)) := by
      rw [map_const_rng]
      simp [fnOf, sSeq, sRet, sIf, sAsg, sExpr, sPar, startE, mVar, mCst, m1, m2, mB, mTruth, mNot, mAnd, mOr, mIf, mCons, mNil, mTup, mLst, mIdx_ap, mOp, mVal, asB, okB, okI, mkT, pures, fits, opEq, opNe, opLt, opLe, opGt, opGe, opAdd, opSub, tgName, setAll, getM, bInt, intsV, maxI, minI, ri]
    rw [eq] at ec
    have em := mComp_seq (w := wd) es ec (by simp [fnOf, sSeq, sRet, sIf, sAsg, sExpr, sPar, startE, mVar, mCst, m1, m2, mB, mTruth, mNot, mAnd, mOr, mIf, mCons, mNil, mTup, mLst, mIdx_ap, mOp, mVal, asB, okB, okI, mkT, pures, fits, opEq, opNe, opLt, opLe, opGt, opGe, opAdd, opSub, tgName, setAll, getM, bInt, intsV, maxI, minI]; omega)
    have eg := getS_rl ns h
    have el : ri ns ++ ri (List.replicate (many - ns.length) (lastN ns)) = ri (stretchN ns many) := by simp [fnOf, sSeq, sRet, sIf, sAsg, sExpr, sPar, startE, mVar, mCst, m1, m2, mB, mTruth, mNot, mAnd, mOr, mIf, mCons, mNil, mTup, mLst, mIdx_ap, mOp, mVal, asB, okB, okI, mkT, pures, fits, opEq, opNe, opLt, opLe, opGt, opGe, opAdd, opSub, tgName, setAll, getM, bInt, intsV, maxI, minI, ri, stretchN]
    have nt := newT_ok (xs := ri (stretchN ns many)) (h := h ++ [.lst (ri (List.replicate (many - ns.length) (lastN ns)))]) (by simp [fnOf, sSeq, sRet, sIf, sAsg, sExpr, sPar, startE, mVar, mCst, m1, m2, mB, mTruth, mNot, mAnd, mOr, mIf, mCons, mNil, mTup, mLst, mIdx_ap, mOp, mVal, asB, okB, okI, mkT, pures, fits, opEq, opNe, opLt, opLe, opGt, opGe, opAdd, opSub, tgName, setAll, getM, bInt, intsV, maxI, minI, stretchN]; omega)
    rw [mkT_ri] at nt
    have e0 : (startE 4 [.r 3, .d (rl ns), .d (.int (many : Int))])[1]? = some (some (.d (rl ns))) := rfl
    show (b_Board_stretched (startE 4 [.r 3, .d (rl ns), .d (.int (many : Int))]) h).fn = _
    simp [fnOf, sSeq, sRet, sIf, sAsg, sExpr, sPar, mVar, mCst, m1, m2, mB, mTruth, mNot, mAnd, mOr, mIf, mCons, mNil, mTup, mLst, mIdx_ap, mOp, mVal, asB, okB, okI, mkT, pures, fits, opEq, opNe, opLt, opLe, opGt, opGe, opAdd, opSub, tgName, setAll, getM, bInt, intsV, maxI, minI, b_Board_stretched, mStar, e0, eg, em, el, nt]
  have q := callB (gs' := gs) B (by rw [B.same]; exact key) rfl
  rw [B.same] at q
  exact q
theorem stretch_bv (xs : List Bool) (gs : List G) {ns : List Nat} (hn : ns ≠ []) (many : Nat) : bv xs gs (stretchN ns many) = stretchB (bv xs gs ns) many := by
  have hl : 0 < ns.length := List.length_pos_iff.mpr hn
  have e : lastB (bv xs gs ns) = V xs gs (lastN ns) := by
    simp [fnOf, sSeq, sRet, sIf, sAsg, sExpr, sPar, startE, mVar, mCst, m1, m2, mB, mTruth, mNot, mAnd, mOr, mIf, mCons, mNil, mTup, mLst, mIdx_ap, mOp, mVal, asB, okB, okI, mkT, pures, fits, opEq, opNe, opLt, opLe, opGt, opGe, opAdd, opSub, tgName, setAll, getM, bInt, intsV, maxI, minI, bv, lastB, lastN, List.getD_eq_getElem?_getD, show ns.length - 1 < ns.length by omega]
  unfold stretchN stretchB
  rw [e]
  simp [fnOf, sSeq, sRet, sIf, sAsg, sExpr, sPar, startE, mVar, mCst, m1, m2, mB, mTruth, mNot, mAnd, mOr, mIf, mCons, mNil, mTup, mLst, mIdx_ap, mOp, mVal, asB, okB, okI, mkT, pures, fits, opEq, opNe, opLt, opLe, opGt, opGe, opAdd, opSub, tgName, setAll, getM, bInt, intsV, maxI, minI, bv]
theorem Ri.stretch {ns : List Nat} {f : List Bool → List Bool} (r : Ri w gs ns f) (hn : ns ≠ []) (many : Nat) : Ri w gs (stretchN ns many) fun xs => stretchB (f xs) many := by
  have hl : 0 < ns.length := List.length_pos_iff.mpr hn
  refine ⟨fun n m => ?_, fun xs hx => by rw [stretch_bv xs gs hn, r.v xs hx]⟩
  rcases List.mem_append.mp m with z | z
  · exact r.i n z
  · rw [(List.mem_replicate.mp z).2]
    refine r.i _ ?_
    unfold lastN
    rw [List.getD_eq_getElem?_getD, List.getElem?_eq_getElem (by omega)]
    exact List.getElem_mem _
theorem stretchN_len (ns : List Nat) (many : Nat) : (stretchN ns many).length = max ns.length many := by
  simp [fnOf, sSeq, sRet, sIf, sAsg, sExpr, sPar, startE, mVar, mCst, m1, m2, mB, mTruth, mNot, mAnd, mOr, mIf, mCons, mNil, mTup, mLst, mIdx_ap, mOp, mVal, asB, okB, okI, mkT, pures, fits, opEq, opNe, opLt, opLe, opGt, opGe, opAdd, opSub, tgName, setAll, getM, bInt, intsV, maxI, minI, stretchN]
  omega
/-! ### numbers -/
def bitC (c : Int) (i : Nat) : Bool := decide (c / 2 ^ i % 2 = 1)
theorem bit_at_ok (c : Int) (i : Nat) (h : EH) : callFn m_bit_at [.d (.int c), .d (.int (i : Int))] h = .ok (.d (.int (if bitC c i then 1 else 0))) h := by
  have key : m_bit_at [.d (.int c), .d (.int (i : Int))] [] = .ok (.d (.int (if bitC c i then 1 else 0))) [] := by
    have e : (if bitC c i = true then (1 : Int) else 0) = c / 2 ^ i % 2 := by
      unfold bitC
      rcases Int.emod_two_eq (c / 2 ^ i) with z | z <;> rw [z] <;> rfl
    rw [e]
    simp [fnOf, sSeq, sRet, sIf, sAsg, sExpr, sPar, startE, mVar, mCst, m1, m2, mB, mTruth, mNot, mAnd, mOr, mIf, mCons, mNil, mTup, mLst, mIdx_ap, mOp, mVal, asB, okB, okI, mkT, pures, fits, opEq, opNe, opLt, opLe, opGt, opGe, opAdd, opSub, tgName, setAll, getM, bInt, intsV, maxI, minI, m_bit_at, b_bit_at, opShr, opAnd, PyProof.Rows.bitAnd_m1]
  exact callFn_d rfl key
def bitsC (c : Int) (many : Nat) : List Bool := (List.range many).map (bitC c)
theorem bTuple_new (h : EH) (ns : List Nat) (hf : ns.length ≤ 16777216) : bTuple [.r h.length] (h ++ [.lst (ri ns)]) = .ok (.d (rl ns)) (h ++ [.lst (ri ns)]) := by
  have e : asT (.r h.length) = none := rfl
  simp [fnOf, sSeq, sRet, sIf, sAsg, sExpr, sPar, startE, mVar, mCst, m1, m2, mB, mTruth, mNot, mAnd, mOr, mIf, mCons, mNil, mTup, mLst, mIdx_ap, mOp, mVal, asB, okB, okI, mkT, pures, fits, opEq, opNe, opLt, opLe, opGt, opGe, opAdd, opSub, tgName, setAll, getM, bInt, intsV, maxI, minI, bTuple, e, newT_ok (xs := ri ns) (by simpa using hf), mkT_ri]
  rw [← mkT_ri]
  rfl
end K73

set_option Elab.async false
set_option linter.all false
set_option maxRecDepth 100000
set_option maxHeartbeats 2000000
namespace K73
open Ev
variable {w : Nat} {gs : List G} {h : EH}
theorem number_ok (B : Bd w gs h) (wf : WF w gs) (c : Int) {many : Nat} (hm : many ≤ 1000000) (hl : gs.length + many ≤ 16000000) :
    Rt w h gs many (callFn m_Board_number [.r 3, .d (.int c), .d (.int (many : Int))] h) fun _ => bitsC c many := by
  have f2 : getF F_constant (flds w) = none := rfl
  have es : iRange1 (mCons (mVar 2) mNil) (startE 4 [.r 3, .d (.int c), .d (.int (many : Int))]) h = .ok (.seq (rng 0 many)) h := by
    exact iRange1_ok (h1 := h) (j := (many : Int)) (by simp [fnOf, sSeq, sRet, sIf, sAsg, sExpr, sPar, startE, mVar, mCst, m1, m2, mB, mTruth, mNot, mAnd, mOr, mIf, mCons, mNil, mTup, mLst, mIdx_ap, mOp, mVal, asB, okB, okI, mkT, pures, fits, opEq, opNe, opLt, opLe, opGt, opGe, opAdd, opSub, tgName, setAll, getM, bInt, intsV, maxI, minI]) (by omega) (by omega)
  obtain ⟨gs', ns, ec, p, wf', l, nl, r⟩ := comp_B (k := 3) (e := mMeth C_Board F_constant m_Board_constant [] (mVar 0) (mCons (mCall m_bit_at [] (mCons (mVar 1) (mCons (mVar 3) mNil))) mNil)) (env := wipeE (startE 4 [.r 3, .d (.int c), .d (.int (many : Int))]) [3]) (xs := rng 0 many) B wf 1 (fun i _ => bitC c i) (fun i gs1 hi p1 wf1 l1 => by
    rw [rng_len] at hi
    have B1 := B.up (gs' := gs1)
    have q := constant_ok B1 wf1 (bitC c i) (by omega)
    rw [rng_get, meth_B B1 f2 rfl (xs := [.d (.int (if bitC c i then 1 else 0))])]
    · exact q
    · have z := bit_at_ok c i (upB h w gs1)
      simp [fnOf, sSeq, sRet, sIf, sAsg, sExpr, sPar, startE, mVar, mCst, m1, m2, mB, mTruth, mNot, mAnd, mOr, mIf, mCons, mNil, mTup, mLst, mIdx_ap, mOp, mVal, asB, okB, okI, mkT, pures, fits, opEq, opNe, opLt, opLe, opGt, opGe, opAdd, opSub, tgName, setAll, getM, bInt, intsV, maxI, minI, wipeE, mCall, z])
  rw [rng_len] at l nl r
  have em := mComp_seq (w := wd) es ec (by simp [fnOf, sSeq, sRet, sIf, sAsg, sExpr, sPar, startE, mVar, mCst, m1, m2, mB, mTruth, mNot, mAnd, mOr, mIf, mCons, mNil, mTup, mLst, mIdx_ap, mOp, mVal, asB, okB, okI, mkT, pures, fits, opEq, opNe, opLt, opLe, opGt, opGe, opAdd, opSub, tgName, setAll, getM, bInt, intsV, maxI, minI]; omega)
  refine Rt.call B (ns := ns) (gs' := gs') (j := [.lst (ri ns)]) ?_ p wf' (by omega) r
  show (b_Board_number (startE 4 [.r 3, .d (.int c), .d (.int (many : Int))]) h).fn = _
  have bt := bTuple_new (upB h w gs') ns (by omega)
  simp [fnOf, sSeq, sRet, sIf, sAsg, sExpr, sPar, mVar, mCst, m1, m2, mB, mTruth, mNot, mAnd, mOr, mIf, mCons, mNil, mTup, mLst, mIdx_ap, mOp, mVal, asB, okB, okI, mkT, pures, fits, opEq, opNe, opLt, opLe, opGt, opGe, opAdd, opSub, tgName, setAll, getM, bInt, intsV, maxI, minI, b_Board_number, em, bt]
end K73

set_option Elab.async false
set_option linter.all false
set_option maxRecDepth 100000
set_option maxHeartbeats 2000000
namespace K73
open Ev
variable {w : Nat} {gs : List G} {h : EH}
/-! ### the adder -/
def addB : List Bool → List Bool → Bool → List Bool
  | a :: r, b :: s, c => ((a ^^ b) ^^ c) :: addB r s ((a && b) || ((a ^^ b) && c))
  | _, _, _ => []
def carB : List Bool → List Bool → Bool → Bool
  | a :: r, b :: s, c => carB r s ((a && b) || ((a ^^ b) && c))
  | _, _, c => c
theorem addB_snoc : ∀ {as bs : List Bool} {a b c : Bool}, as.length = bs.length → addB (as ++ [a]) (bs ++ [b]) c = addB as bs c ++ [(a ^^ b) ^^ carB as bs c]
  | [], [], _, _, _, _ => rfl
  | x :: r, y :: s, a, b, c, l => by
    simp only [List.cons_append, addB, carB]
    rw [addB_snoc (by simpa using l)]
theorem carB_snoc : ∀ {as bs : List Bool} {a b c : Bool}, as.length = bs.length → carB (as ++ [a]) (bs ++ [b]) c = ((a && b) || ((a ^^ b) && carB as bs c))
  | [], [], _, _, _, _ => rfl
  | x :: r, y :: s, a, b, c, l => by
    simp only [List.cons_append, carB]
    rw [carB_snoc (by simpa using l)]
theorem take_snoc {as : List Bool} {i : Nat} (h : i < as.length) : as.take (i + 1) = as.take i ++ [as.getD i false] := by
  rw [List.take_add_one, List.getElem?_eq_getElem h]
  simp [fnOf, sSeq, sRet, sIf, sAsg, sExpr, sPar, startE, mVar, mCst, m1, m2, mB, mTruth, mNot, mAnd, mOr, mIf, mCons, mNil, mTup, mLst, mIdx_ap, mOp, mVal, asB, okB, okI, mkT, pures, fits, opEq, opNe, opLt, opLe, opGt, opGe, opAdd, opSub, tgName, setAll, getM, bInt, intsV, maxI, minI, List.getD_eq_getElem?_getD, h]
theorem ri_lt (n : Nat) (ns : List Nat) : Ob.lt n (.lst (ri ns)) = true := by
  show Val.lts n (ri ns) = true
  unfold ri
  induction ns with
  | nil => rfl
  | cons a r ih =>
    show (Val.lt n (.d (.int (a : Int))) && Val.lts n (r.map fun (n : Nat) => .d (.int (n : Int)))) = true
    rw [ih]
    rfl
theorem ri_all (n : Nat) (ns : List Nat) : allLt n [.lst (ri ns)] = true := by
  show (Ob.lt n (.lst (ri ns)) && true) = true
  rw [ri_lt]
  rfl
theorem Bd.l5 (B : Bd w gs h) : 5 < h.length := (List.getElem?_eq_some_iff.mp B.k).1
/-- a board with objects behind it -/
theorem Bd.upj (B : Bd w gs h) {gs' : List G} {j : EH} (hj : ∀ n, allLt n j = true) : Bd w gs' (upB h w gs' ++ j) := B.up.junk j (hj _)
theorem Rs.jk {gs0 gs' : List G} {j : EH} {c : Nat} {r : R Val} {P : List G → Nat → Prop} (B : Bd w gs0 h) (x : Rs w (upB h w gs' ++ j) gs' c r P) : ∃ gs'' n, r = .ok (.d (.int ((n : Nat) : Int))) (upB h w gs'' ++ j) ∧ gs' <+: gs'' ∧ WF w gs'' ∧ gs''.length ≤ gs'.length + c ∧ P gs'' n := by
  obtain ⟨gs'', n, e, p, wf, l, q⟩ := x
  rw [upB_junk (by rw [upB_len]; exact B.l5), upB_upB] at e
  exact ⟨gs'', n, e, p, wf, l, q⟩
theorem meth_ok (B : Bd w gs h) {f : Fn} {ma : M (List Val)} {env : Env'} {q : Nat} {r : R Val} {xs : List Val} (hq : getF q (flds w) = none) (e0 : env[0]? = some (some (.r 3))) (er : callFn f (.r 3 :: xs) h = r) (ea : ma env h = .ok xs h) : mMeth C_Board q f [] (mVar 0) ma env h = r := (meth_B B hq e0 ea).trans er
theorem meth_ch {gs' : List G} {h' : EH} (B : Bd w gs h) (B' : Bd w gs' h') {f : Fn} {ma : M (List Val)} {env : Env'} {q : Nat} {r : R Val} {xs : List Val} (hq : getF q (flds w) = none) (e0 : env[0]? = some (some (.r 3))) (er : callFn f (.r 3 :: xs) h' = r) (ea : ma env h = .ok xs h') : mMeth C_Board q f [] (mVar 0) ma env h = r := by
  have b : Nat.beq 0 C_Board = true := rfl
  simp [fnOf, sSeq, sRet, sIf, sAsg, sExpr, sPar, startE, mVar, mCst, m1, m2, mB, mTruth, mNot, mAnd, mOr, mIf, mCons, mNil, mTup, mLst, mIdx_ap, mOp, mVal, asB, okB, okI, mkT, pures, fits, opEq, opNe, opLt, opLe, opGt, opGe, opAdd, opSub, tgName, setAll, getM, bInt, intsV, maxI, minI, mMeth, mVar, e0, ins_at B, b, hq, ea, er]
theorem tyNo_at (h : EH) (xs : List Val) : tyNo (.r h.length) (h ++ [.lst xs]) = some 4 := by simp [fnOf, sSeq, sRet, sIf, sAsg, sExpr, sPar, startE, mVar, mCst, m1, m2, mB, mTruth, mNot, mAnd, mOr, mIf, mCons, mNil, mTup, mLst, mIdx_ap, mOp, mVal, asB, okB, okI, mkT, pures, fits, opEq, opNe, opLt, opLe, opGt, opGe, opAdd, opSub, tgName, setAll, getM, bInt, intsV, maxI, minI, tyNo]
theorem ri_get {ns : List Nat} {i : Nat} (h : i < (ri ns).length) : (ri ns)[i] = .d (.int ((ns[i]'(by simpa using h) : Nat) : Int)) := by simp [fnOf, sSeq, sRet, sIf, sAsg, sExpr, sPar, startE, mVar, mCst, m1, m2, mB, mTruth, mNot, mAnd, mOr, mIf, mCons, mNil, mTup, mLst, mIdx_ap, mOp, mVal, asB, okB, okI, mkT, pures, fits, opEq, opNe, opLt, opLe, opGt, opGe, opAdd, opSub, tgName, setAll, getM, bInt, intsV, maxI, minI, ri]
theorem summed_ok (B : Bd w gs h) (wf : WF w gs) {as bs : List Nat} {c many : Nat} {fa fb : List Bool → List Bool} {fc : List Bool → Bool} (ra : Ri w gs as fa) (rb : Ri w gs bs fb) (rc : Wi w gs c fc) (ha : as ≠ []) (hb : bs ≠ []) (la : as.length ≤ many) (lb : bs.length ≤ many) (hm : many ≤ 1000000) (hl : gs.length + 5 * many ≤ 16000000) :
    Rt w h gs (5 * many) (callFn m_Board_summed [.r 3, .d (rl as), .d (rl bs), .d (.int (many : Int)), .d (.int (c : Int))] h) fun xs => addB (stretchB (fa xs) many) (stretchB (fb xs) many) (fc xs) := by
  have f1 : getF F_stretched (flds w) = none := rfl
  have f2 : getF F_gate (flds w) = none := rfl
  have sa := ra.stretch ha many
  have sb := rb.stretch hb many
  have nla : (stretchN as many).length = many := by rw [stretchN_len]; omega
  have nlb : (stretchN bs many).length = many := by rw [stretchN_len]; omega
  generalize ea : stretchN as many = as' at sa nla
  generalize eb : stretchN bs many = bs' at sb nlb
  have j0 : ∀ n, allLt n [.lst (ri [])] = true := fun n => ri_all n []
  have B1 := B.upj (gs' := gs) j0
  rw [B.same] at B1
  have es : iZip (mCons (mMeth C_Board F_stretched m_Board_stretched [] (mVar 0) (mCons (mVar 1) (mCons (mVar 3) mNil))) (mCons (mMeth C_Board F_stretched m_Board_stretched [] (mVar 0) (mCons (mVar 2) (mCons (mVar 3) mNil))) mNil)) [some (.r 3), some (.d (rl as)), some (.d (rl bs)), some (.d (.int (many : Int))), some (.d (.int (c : Int))), some (.r h.length), none, none, none] (h ++ [.lst (ri [])]) = .ok (.seq ((as'.zip bs').map fun p => .d (.tup true [.int (p.1 : Int), .int (p.2 : Int)]))) (h ++ [.lst (ri [])]) := by
    have s1 := stretched_ok B1 ha hm (by omega : as.length ≤ 1000000)
    have s2 := stretched_ok B1 hb hm (by omega : bs.length ≤ 1000000)
    rw [ea] at s1
    rw [eb] at s2
    have m1 := meth_ok B1 (ma := mCons (mVar 1) (mCons (mVar 3) mNil)) (env := [some (.r 3), some (.d (rl as)), some (.d (rl bs)), some (.d (.int (many : Int))), some (.d (.int (c : Int))), some (.r h.length), none, none, none]) f1 rfl s1 rfl
    have m2 := meth_ok B1 (ma := mCons (mVar 2) (mCons (mVar 3) mNil)) (env := [some (.r 3), some (.d (rl as)), some (.d (rl bs)), some (.d (.int (many : Int))), some (.d (.int (c : Int))), some (.r h.length), none, none, none]) f1 rfl s2 rfl
    have z : ∀ (p q : List Nat), ((ri p).zip (ri q)).map (fun p => mkT [p.1, p.2]) = (p.zip q).map fun p => .d (.tup true [.int (p.1 : Int), .int (p.2 : Int)]) := by
      intro p
      induction p with
      | nil => intro q; rfl
      | cons a r ih =>
        intro q
        cases q with
        | nil => rfl
        | cons b s =>
          show mkT [.d (.int (a : Int)), .d (.int (b : Int))] :: _ = _ :: _
          exact List.cons_eq_cons.mpr ⟨rfl, ih s⟩
    unfold iZip
    simp only [mCons, m1, m2, bind_mk, mNil, asT_rl, z]
  have loop := loopL_inv (t := tgTup 2 (tgCons (tgName 6) (tgCons (tgName 7) tgNil))) (b := sSeq (sAsg (mMeth C_Board F_gate m_Board_gate [] (mVar 0) (mCons (mCst (.d (.str k3_xor))) (mCons (mVar 6) (mCons (mVar 7) mNil)))) (tgName 8)) (sSeq (sExpr (mBM 4 lAppend (mVar 5) (mCons (mMeth C_Board F_gate m_Board_gate [] (mVar 0) (mCons (mCst (.d (.str k3_xor))) (mCons (mVar 8) (mCons (mVar 4) mNil)))) mNil))) (sSeq (sAsg (mMeth C_Board F_gate m_Board_gate [] (mVar 0) (mCons (mCst (.d (.str k5_or))) (mCons (mMeth C_Board F_gate m_Board_gate [] (mVar 0) (mCons (mCst (.d (.str k4_and))) (mCons (mVar 6) (mCons (mVar 7) mNil)))) (mCons (mMeth C_Board F_gate m_Board_gate [] (mVar 0) (mCons (mCst (.d (.str k4_and))) (mCons (mVar 8) (mCons (mVar 4) mNil)))) mNil)))) (tgName 4)) sNext)))
    (xs := (as'.zip bs').map fun p => .d (.tup true [.int (p.1 : Int), .int (p.2 : Int)]))
    (fun i env h' => ∃ gs' ns c' x6 x7 x8, env = [some (.r 3), some (.d (rl as)), some (.d (rl bs)), some (.d (.int (many : Int))), some (.d (.int ((c' : Nat) : Int))), some (.r h.length), x6, x7, x8] ∧ h' = upB h w gs' ++ [.lst (ri ns)] ∧ gs <+: gs' ∧ WF w gs' ∧ gs'.length ≤ gs.length + i * 5 ∧ ns.length = i ∧
      Ri w gs' ns (fun xs => addB ((stretchB (fa xs) many).take i) ((stretchB (fb xs) many).take i) (fc xs)) ∧ Wi w gs' c' (fun xs => carB ((stretchB (fa xs) many).take i) ((stretchB (fb xs) many).take i) (fc xs)))
    (fun i env h' hi ⟨gs1, ns, c1, x6, x7, x8, e1, e2, p1, wf1, l1, nl, rn, wc⟩ => by
      subst e1 e2
      have hi2 : i < as'.length ∧ i < bs'.length := by simp [fnOf, sSeq, sRet, sIf, sAsg, sExpr, sPar, startE, mVar, mCst, m1, m2, mB, mTruth, mNot, mAnd, mOr, mIf, mCons, mNil, mTup, mLst, mIdx_ap, mOp, mVal, asB, okB, okI, mkT, pures, fits, opEq, opNe, opLt, opLe, opGt, opGe, opAdd, opSub, tgName, setAll, getM, bInt, intsV, maxI, minI] at hi; omega
      have wa := (sa.wire hi2.1).ext p1
      have wb := (sb.wire hi2.2).ext p1
      have jj : ∀ n, allLt n [.lst (ri ns)] = true := fun n => ri_all n ns
      obtain ⟨gs2, n2, g2, p2, wf2, l2, w2⟩ := Rs.jk B (gate_ok (B.upj (gs' := gs1) jj) wf1 .xor wa wb (by omega))
      have wc2 := wc.ext p2
      obtain ⟨gs3, n3, g3, p3, wf3, l3, w3⟩ := Rs.jk B (gate_ok (B.upj (gs' := gs2) jj) wf2 .xor w2 wc2 (by omega))
      have jk : ∀ n, allLt n [.lst (ri (ns ++ [n3]))] = true := fun n => ri_all n _
      obtain ⟨gs4, n4, g4, p4, wf4, l4, w4⟩ := Rs.jk B (gate_ok (B.upj (gs' := gs3) jk) wf3 .and ((wa.ext p2).ext p3) ((wb.ext p2).ext p3) (by omega))
      obtain ⟨gs5, n5, g5, p5, wf5, l5, w5⟩ := Rs.jk B (gate_ok (B.upj (gs' := gs4) jk) wf4 .and ((w2.ext p3).ext p4) ((wc2.ext p3).ext p4) (by omega))
      obtain ⟨gs6, n6, g6, p6, wf6, l6, w6⟩ := Rs.jk B (gate_ok (B.upj (gs' := gs5) jk) wf5 .or (w4.ext p5) w5 (by omega))
      rw [List.getElem_map, List.getElem_zip]
      have b6 := tyNo_at (upB h w gs2) (ri ns)
      have m2 := meth_ok (B.upj (gs' := gs1) jj) (ma := mCons (mCst (.d (.str k3_xor))) (mCons (mVar 6) (mCons (mVar 7) mNil))) (env := [some (.r 3), some (.d (rl as)), some (.d (rl bs)), some (.d (.int (many : Int))), some (.d (.int ((c1 : Nat) : Int))), some (.r h.length), some (.d (.int (as'[i] : Int))), some (.d (.int (bs'[i] : Int))), x8]) f2 rfl g2 rfl
      have m3 := meth_ok (B.upj (gs' := gs2) jj) (ma := mCons (mCst (.d (.str k3_xor))) (mCons (mVar 8) (mCons (mVar 4) mNil))) (env := [some (.r 3), some (.d (rl as)), some (.d (rl bs)), some (.d (.int (many : Int))), some (.d (.int ((c1 : Nat) : Int))), some (.r h.length), some (.d (.int (as'[i] : Int))), some (.d (.int (bs'[i] : Int))), some (.d (.int (n2 : Int)))]) f2 rfl g3 rfl
      have m4 := meth_ok (B.upj (gs' := gs3) jk) (ma := mCons (mCst (.d (.str k4_and))) (mCons (mVar 6) (mCons (mVar 7) mNil))) (env := [some (.r 3), some (.d (rl as)), some (.d (rl bs)), some (.d (.int (many : Int))), some (.d (.int ((c1 : Nat) : Int))), some (.r h.length), some (.d (.int (as'[i] : Int))), some (.d (.int (bs'[i] : Int))), some (.d (.int (n2 : Int)))]) f2 rfl g4 rfl
      have m5 := meth_ok (B.upj (gs' := gs4) jk) (ma := mCons (mCst (.d (.str k4_and))) (mCons (mVar 8) (mCons (mVar 4) mNil))) (env := [some (.r 3), some (.d (rl as)), some (.d (rl bs)), some (.d (.int (many : Int))), some (.d (.int ((c1 : Nat) : Int))), some (.r h.length), some (.d (.int (as'[i] : Int))), some (.d (.int (bs'[i] : Int))), some (.d (.int (n2 : Int)))]) f2 rfl g5 rfl
      have e6 : (mCons (mCst (.d (.str k5_or))) (mCons (mMeth C_Board F_gate m_Board_gate [] (mVar 0) (mCons (mCst (.d (.str k4_and))) (mCons (mVar 6) (mCons (mVar 7) mNil)))) (mCons (mMeth C_Board F_gate m_Board_gate [] (mVar 0) (mCons (mCst (.d (.str k4_and))) (mCons (mVar 8) (mCons (mVar 4) mNil)))) mNil))) [some (.r 3), some (.d (rl as)), some (.d (rl bs)), some (.d (.int (many : Int))), some (.d (.int ((c1 : Nat) : Int))), some (.r h.length), some (.d (.int (as'[i] : Int))), some (.d (.int (bs'[i] : Int))), some (.d (.int (n2 : Int)))] (upB h w gs3 ++ [.lst (ri (ns ++ [n3]))]) = .ok [.d (.str Op.or.word), .d (.int (n4 : Int)), .d (.int (n5 : Int))] (upB h w gs5 ++ [.lst (ri (ns ++ [n3]))]) := by
        simp [fnOf, sSeq, sRet, sIf, sAsg, sExpr, sPar, startE, mVar, mCst, m1, m2, mB, mTruth, mNot, mAnd, mOr, mIf, mCons, mNil, mTup, mLst, mIdx_ap, mOp, mVal, asB, okB, okI, mkT, pures, fits, opEq, opNe, opLt, opLe, opGt, opGe, opAdd, opSub, tgName, setAll, getM, bInt, intsV, maxI, minI, m4, m5]
        rfl
      have m6 := meth_ch (B.upj (gs' := gs3) jk) (B.upj (gs' := gs5) jk) (env := [some (.r 3), some (.d (rl as)), some (.d (rl bs)), some (.d (.int (many : Int))), some (.d (.int ((c1 : Nat) : Int))), some (.r h.length), some (.d (.int (as'[i] : Int))), some (.d (.int (bs'[i] : Int))), some (.d (.int (n2 : Int)))]) f2 rfl g6 e6
      have ap : mBM 4 lAppend (mVar 5) (mCons (mMeth C_Board F_gate m_Board_gate [] (mVar 0) (mCons (mCst (.d (.str k3_xor))) (mCons (mVar 8) (mCons (mVar 4) mNil)))) mNil) [some (.r 3), some (.d (rl as)), some (.d (rl bs)), some (.d (.int (many : Int))), some (.d (.int ((c1 : Nat) : Int))), some (.r h.length), some (.d (.int (as'[i] : Int))), some (.d (.int (bs'[i] : Int))), some (.d (.int (n2 : Int)))] (upB h w gs2 ++ [.lst (ri ns)]) = .ok (.d .non) (upB h w gs3 ++ [.lst (ri (ns ++ [n3]))]) := by
        have q := mBM_ap (mo := mVar 5) (ma := mCons (mMeth C_Board F_gate m_Board_gate [] (mVar 0) (mCons (mCst (.d (.str k3_xor))) (mCons (mVar 8) (mCons (mVar 4) mNil)))) mNil) (env := [some (.r 3), some (.d (rl as)), some (.d (rl bs)), some (.d (.int (many : Int))), some (.d (.int ((c1 : Nat) : Int))), some (.r h.length), some (.d (.int (as'[i] : Int))), some (.d (.int (bs'[i] : Int))), some (.d (.int (n2 : Int)))]) (h1 := upB h w gs2 ++ [.lst (ri ns)]) (h := upB h w gs3) (h0 := []) (xs := ri ns) (y := .d (.int (n3 : Int))) (by rw [upB_len]; rfl) (by rw [upB_len]; rw [upB_len] at b6; exact b6) (by simp [fnOf, sSeq, sRet, sIf, sAsg, sExpr, sPar, startE, mVar, mCst, m1, m2, mB, mTruth, mNot, mAnd, mOr, mIf, mCons, mNil, mTup, mLst, mIdx_ap, mOp, mVal, asB, okB, okI, mkT, pures, fits, opEq, opNe, opLt, opLe, opGt, opGe, opAdd, opSub, tgName, setAll, getM, bInt, intsV, maxI, minI, m3]) (by simp [fnOf, sSeq, sRet, sIf, sAsg, sExpr, sPar, startE, mVar, mCst, m1, m2, mB, mTruth, mNot, mAnd, mOr, mIf, mCons, mNil, mTup, mLst, mIdx_ap, mOp, mVal, asB, okB, okI, mkT, pures, fits, opEq, opNe, opLt, opLe, opGt, opGe, opAdd, opSub, tgName, setAll, getM, bInt, intsV, maxI, minI]; omega)
        rw [q]
        simp [fnOf, sSeq, sRet, sIf, sAsg, sExpr, sPar, startE, mVar, mCst, m1, m2, mB, mTruth, mNot, mAnd, mOr, mIf, mCons, mNil, mTup, mLst, mIdx_ap, mOp, mVal, asB, okB, okI, mkT, pures, fits, opEq, opNe, opLt, opLe, opGt, opGe, opAdd, opSub, tgName, setAll, getM, bInt, intsV, maxI, minI, ri]
      refine ⟨[some (.r 3), some (.d (rl as)), some (.d (rl bs)), some (.d (.int (many : Int))), some (.d (.int (n6 : Int))), some (.r h.length), some (.d (.int (as'[i] : Int))), some (.d (.int (bs'[i] : Int))), some (.d (.int (n2 : Int)))], upB h w gs6 ++ [.lst (ri (ns ++ [n3]))], ?_, gs6, ns ++ [n3], n6, _, _, _, rfl, rfl, ((((p1.trans p2).trans p3).trans p4).trans p5).trans p6, wf6, by omega, by simp [fnOf, sSeq, sRet, sIf, sAsg, sExpr, sPar, startE, mVar, mCst, m1, m2, mB, mTruth, mNot, mAnd, mOr, mIf, mCons, mNil, mTup, mLst, mIdx_ap, mOp, mVal, asB, okB, okI, mkT, pures, fits, opEq, opNe, opLt, opLe, opGt, opGe, opAdd, opSub, tgName, setAll, getM, bInt, intsV, maxI, minI, nl], ?_, ?_⟩
      · simp [fnOf, sSeq, sRet, sIf, sAsg, sExpr, sPar, startE, mVar, mCst, m1, m2, mB, mTruth, mNot, mAnd, mOr, mIf, mCons, mNil, mTup, mLst, mIdx_ap, mOp, mVal, asB, okB, okI, mkT, pures, fits, opEq, opNe, opLt, opLe, opGt, opGe, opAdd, opSub, tgName, setAll, getM, bInt, intsV, maxI, minI, tgTup, asT, tgCons, tgNil, m2, ap, m6]
      · refine ((rn.ext ((((p2.trans p3).trans p4).trans p5).trans p6)).snoc (w3.ext ((p4.trans p5).trans p6))).imp fun xs hx => ?_
        have la' := sa.len hx
        have lb' := sb.len hx
        rw [take_snoc (by omega), take_snoc (by omega), addB_snoc (by simp [fnOf, sSeq, sRet, sIf, sAsg, sExpr, sPar, startE, mVar, mCst, m1, m2, mB, mTruth, mNot, mAnd, mOr, mIf, mCons, mNil, mTup, mLst, mIdx_ap, mOp, mVal, asB, okB, okI, mkT, pures, fits, opEq, opNe, opLt, opLe, opGt, opGe, opAdd, opSub, tgName, setAll, getM, bInt, intsV, maxI, minI]; omega)]
        rfl
      · refine ⟨w6.1, fun xs hx => ?_⟩
        have la' := sa.len hx
        have lb' := sb.len hx
        show _ = carB ((stretchB (fa xs) many).take (i + 1)) ((stretchB (fb xs) many).take (i + 1)) (fc xs)
        rw [take_snoc (by omega), take_snoc (by omega), carB_snoc (by simp [fnOf, sSeq, sRet, sIf, sAsg, sExpr, sPar, startE, mVar, mCst, m1, m2, mB, mTruth, mNot, mAnd, mOr, mIf, mCons, mNil, mTup, mLst, mIdx_ap, mOp, mVal, asB, okB, okI, mkT, pures, fits, opEq, opNe, opLt, opLe, opGt, opGe, opAdd, opSub, tgName, setAll, getM, bInt, intsV, maxI, minI]; omega), w6.2 xs hx]
        rfl)
    (env := [some (.r 3), some (.d (rl as)), some (.d (rl bs)), some (.d (.int (many : Int))), some (.d (.int (c : Int))), some (.r h.length), none, none, none]) (h := h ++ [.lst (ri [])])
    ⟨gs, [], c, none, none, none, rfl, by rw [B.same], List.prefix_refl _, wf, by simp [fnOf, sSeq, sRet, sIf, sAsg, sExpr, sPar, startE, mVar, mCst, m1, m2, mB, mTruth, mNot, mAnd, mOr, mIf, mCons, mNil, mTup, mLst, mIdx_ap, mOp, mVal, asB, okB, okI, mkT, pures, fits, opEq, opNe, opLt, opLe, opGt, opGe, opAdd, opSub, tgName, setAll, getM, bInt, intsV, maxI, minI], rfl, Ri.nil, rc.1, fun xs hx => by rw [rc.2 xs hx]; rfl⟩
  obtain ⟨env', h', el, gs', ns, c', x6, x7, x8, e1, e2, p, wf', l, nl, rn, wc⟩ := loop
  subst e1 e2
  have nz : ((as'.zip bs').map fun (p : Nat × Nat) => Val.d (.tup true [.int (p.1 : Int), .int (p.2 : Int)])).length = many := by simp [fnOf, sSeq, sRet, sIf, sAsg, sExpr, sPar, startE, mVar, mCst, m1, m2, mB, mTruth, mNot, mAnd, mOr, mIf, mCons, mNil, mTup, mLst, mIdx_ap, mOp, mVal, asB, okB, okI, mkT, pures, fits, opEq, opNe, opLt, opLe, opGt, opGe, opAdd, opSub, tgName, setAll, getM, bInt, intsV, maxI, minI]; omega
  rw [nz] at l nl rn
  have rn := rn.imp (g := fun xs => addB (stretchB (fa xs) many) (stretchB (fb xs) many) (fc xs)) fun xs hx => by
    rw [List.take_of_length_le (by rw [sa.len hx]; omega), List.take_of_length_le (by rw [sb.len hx]; omega)]
  refine Rt.call B (ns := ns) (gs' := gs') (j := [.lst (ri ns)]) ?_ p wf' (by omega) rn
  show (b_Board_summed (startE 9 [.r 3, .d (rl as), .d (rl bs), .d (.int (many : Int)), .d (.int (c : Int))]) h).fn = _
  have bt := bTuple_new (upB h w gs') ns (by omega)
  rw [upB_len] at bt
  have sf := sFor_seq (w := wd) (t := tgTup 2 (tgCons (tgName 6) (tgCons (tgName 7) tgNil))) (b := sSeq (sAsg (mMeth C_Board F_gate m_Board_gate [] (mVar 0) (mCons (mCst (.d (.str k3_xor))) (mCons (mVar 6) (mCons (mVar 7) mNil)))) (tgName 8)) (sSeq (sExpr (mBM 4 lAppend (mVar 5) (mCons (mMeth C_Board F_gate m_Board_gate [] (mVar 0) (mCons (mCst (.d (.str k3_xor))) (mCons (mVar 8) (mCons (mVar 4) mNil)))) mNil))) (sSeq (sAsg (mMeth C_Board F_gate m_Board_gate [] (mVar 0) (mCons (mCst (.d (.str k5_or))) (mCons (mMeth C_Board F_gate m_Board_gate [] (mVar 0) (mCons (mCst (.d (.str k4_and))) (mCons (mVar 6) (mCons (mVar 7) mNil)))) (mCons (mMeth C_Board F_gate m_Board_gate [] (mVar 0) (mCons (mCst (.d (.str k4_and))) (mCons (mVar 8) (mCons (mVar 4) mNil)))) mNil)))) (tgName 4)) sNext))) es
  rw [el] at sf
  have n0 : newL [] h = .ok (.r h.length) (h ++ [.lst (ri [])]) := newL_ok (by simp [fnOf, sSeq, sRet, sIf, sAsg, sExpr, sPar, startE, mVar, mCst, m1, m2, mB, mTruth, mNot, mAnd, mOr, mIf, mCons, mNil, mTup, mLst, mIdx_ap, mOp, mVal, asB, okB, okI, mkT, pures, fits, opEq, opNe, opLt, opLe, opGt, opGe, opAdd, opSub, tgName, setAll, getM, bInt, intsV, maxI, minI])
  simp [fnOf, sSeq, sRet, sIf, sAsg, sExpr, sPar, startE, mVar, mCst, m1, m2, mB, mTruth, mNot, mAnd, mOr, mIf, mCons, mNil, mTup, mLst, mIdx_ap, mOp, mVal, asB, okB, okI, mkT, pures, fits, opEq, opNe, opLt, opLe, opGt, opGe, opAdd, opSub, tgName, setAll, getM, bInt, intsV, maxI, minI, b_Board_summed, n0, sf, bt]
end K73

set_option Elab.async false
set_option linter.all false
set_option maxRecDepth 100000
set_option maxHeartbeats 2000000
namespace K73
open Ev
variable {w : Nat} {gs : List G} {h : EH}
theorem Rt.jk {gs0 gs' : List G} {j : EH} {c : Nat} {r : R Val} {f : List Bool → List Bool} (B : Bd w gs0 h) (x : Rt w (upB h w gs' ++ j) gs' c r f) : ∃ gs'' ns, r = .ok (.d (rl ns)) (upB h w gs'' ++ j) ∧ gs' <+: gs'' ∧ WF w gs'' ∧ gs''.length ≤ gs'.length + c ∧ Ri w gs'' ns f := by
  obtain ⟨gs'', ns, e, p, wf, l, q⟩ := x
  rw [upB_junk (by rw [upB_len]; exact B.l5), upB_upB] at e
  exact ⟨gs'', ns, e, p, wf, l, q⟩
theorem tupComp {src : M Src} {e : M Val} {own : List Nat} {k : Nat} {env : Env'} {h1 h2 : EH} {xs : List Val} {ns : List Nat} (es : src env h = .ok (.seq xs) h1) (ec : compL (.one k) mYes e (wipeE env own) xs h1 = .ok (ri ns) h2) (hf : ns.length ≤ 16777216) : mOp bTuple (mCons (mComp wd src (.one k) mYes e own) mNil) env h = .ok (.d (rl ns)) (h2 ++ [.lst (ri ns)]) := by
  have em := mComp_seq (w := wd) es ec (by simpa using hf)
  simp [fnOf, sSeq, sRet, sIf, sAsg, sExpr, sPar, startE, mVar, mCst, m1, m2, mB, mTruth, mNot, mAnd, mOr, mIf, mCons, mNil, mTup, mLst, mIdx_ap, mOp, mVal, asB, okB, okI, mkT, pures, fits, opEq, opNe, opLt, opLe, opGt, opGe, opAdd, opSub, tgName, setAll, getM, bInt, intsV, maxI, minI, em, bTuple_new h2 ns hf]
theorem range_map {α : Type} (l : List Bool) (g : Bool → α) : ((List.range l.length).map fun i => g (l.getD i false)) = l.map g := by
  apply List.ext_getElem
  · simp [fnOf, sSeq, sRet, sIf, sAsg, sExpr, sPar, startE, mVar, mCst, m1, m2, mB, mTruth, mNot, mAnd, mOr, mIf, mCons, mNil, mTup, mLst, mIdx_ap, mOp, mVal, asB, okB, okI, mkT, pures, fits, opEq, opNe, opLt, opLe, opGt, opGe, opAdd, opSub, tgName, setAll, getM, bInt, intsV, maxI, minI]
  · intro i h1 h2
    simp [fnOf, sSeq, sRet, sIf, sAsg, sExpr, sPar, startE, mVar, mCst, m1, m2, mB, mTruth, mNot, mAnd, mOr, mIf, mCons, mNil, mTup, mLst, mIdx_ap, mOp, mVal, asB, okB, okI, mkT, pures, fits, opEq, opNe, opLt, opLe, opGt, opGe, opAdd, opSub, tgName, setAll, getM, bInt, intsV, maxI, minI] at h1
    simp [fnOf, sSeq, sRet, sIf, sAsg, sExpr, sPar, startE, mVar, mCst, m1, m2, mB, mTruth, mNot, mAnd, mOr, mIf, mCons, mNil, mTup, mLst, mIdx_ap, mOp, mVal, asB, okB, okI, mkT, pures, fits, opEq, opNe, opLt, opLe, opGt, opGe, opAdd, opSub, tgName, setAll, getM, bInt, intsV, maxI, minI, List.getD_eq_getElem?_getD, h1]
theorem iVal_rl {a : M Val} {env : Env'} {h h1 : EH} {ns : List Nat} (ea : a env h = .ok (.d (rl ns)) h1) : iVal a env h = .ok (.seq (ri ns)) h1 := by
  have z := iVal_tup ea
  rw [show (ns.map fun (n : Nat) => D.int (n : Int)).map Val.d = ri ns by simp [fnOf, sSeq, sRet, sIf, sAsg, sExpr, sPar, startE, mVar, mCst, m1, m2, mB, mTruth, mNot, mAnd, mOr, mIf, mCons, mNil, mTup, mLst, mIdx_ap, mOp, mVal, asB, okB, okI, mkT, pures, fits, opEq, opNe, opLt, opLe, opGt, opGe, opAdd, opSub, tgName, setAll, getM, bInt, intsV, maxI, minI, ri]] at z
  exact z
/-- the wires of a rail, each turned -/
theorem turn_all (B : Bd w gs h) (wf : WF w gs) {bs : List Nat} {fb : List Bool → List Bool} (rb : Ri w gs bs fb) {env : Env'} {k : Nat} (hk : k ≠ 0) (e0 : env[0]? = some (some (.r 3))) (hk2 : k < env.length) (hl : gs.length + bs.length ≤ 16000000) :
    ∃ gs' ns, compL (.one k) mYes (mMeth C_Board F_turned m_Board_turned [] (mVar 0) (mCons (mVar k) mNil)) env (ri bs) h = .ok (ri ns) (upB h w gs') ∧ gs <+: gs' ∧ WF w gs' ∧ gs'.length ≤ gs.length + bs.length ∧ ns.length = bs.length ∧ Ri w gs' ns fun xs => (fb xs).map (!·) := by
  have f1 : getF F_turned (flds w) = none := rfl
  obtain ⟨gs', ns, ec, p, wf', l, nl, r⟩ := comp_B (k := k) (e := mMeth C_Board F_turned m_Board_turned [] (mVar 0) (mCons (mVar k) mNil)) (env := env) (xs := ri bs) B wf 1 (fun i xs => !(fb xs).getD i false) (fun i gs1 hi p1 wf1 l1 => by
    have hi2 : i < bs.length := by simpa using hi
    have B1 := B.up (gs' := gs1)
    have q := turned_ok B1 wf1 ((rb.wire hi2).ext p1) (by omega)
    rw [ri_get, meth_B B1 f1 (by rw [List.getElem?_set_ne hk]; exact e0) (xs := [.d (.int (bs[i] : Int))])]
    · exact q
    · simp [fnOf, sSeq, sRet, sIf, sAsg, sExpr, sPar, startE, mVar, mCst, m1, m2, mB, mTruth, mNot, mAnd, mOr, mIf, mCons, mNil, mTup, mLst, mIdx_ap, mOp, mVal, asB, okB, okI, mkT, pures, fits, opEq, opNe, opLt, opLe, opGt, opGe, opAdd, opSub, tgName, setAll, getM, bInt, intsV, maxI, minI, hk2])
  rw [ri_len] at l nl r
  refine ⟨gs', ns, ec, p, wf', by omega, nl, r.imp fun xs hx => ?_⟩
  rw [← rb.len hx]
  exact range_map (fb xs) fun b => !b
def subB (a b : List Bool) (many : Nat) : List Bool := addB (stretchB a many) (stretchB (b.map (!·)) many) true
def sumB (a b : List Bool) (c : Bool) (many : Nat) : List Bool := addB (stretchB a many) (stretchB b many) c
theorem less_by_ok (B : Bd w gs h) (wf : WF w gs) {as bs : List Nat} {many : Nat} {fa fb : List Bool → List Bool} (ra : Ri w gs as fa) (rb : Ri w gs bs fb) (ha : as ≠ []) (hb : bs ≠ []) (la : as.length ≤ many) (lb : bs.length ≤ many) (hm : many ≤ 1000000) (hl : gs.length + 7 * many ≤ 16000000) :
    Rt w h gs (7 * many) (callFn m_Board_less_by [.r 3, .d (rl as), .d (rl bs), .d (.int (many : Int))] h) fun xs => subB (fa xs) (fb xs) many := by
  have f1 : getF F_summed (flds w) = none := rfl
  have f2 : getF F_constant (flds w) = none := rfl
  have pb : 0 < bs.length := List.length_pos_iff.mpr hb
  obtain ⟨gs1, ns, ec, p1, wf1, l1, nl, r1⟩ := turn_all B wf rb (env := wipeE (startE 5 [.r 3, .d (rl as), .d (rl bs), .d (.int (many : Int))]) [4]) (k := 4) (by decide) rfl (by simp [fnOf, sSeq, sRet, sIf, sAsg, sExpr, sPar, startE, mVar, mCst, m1, m2, mB, mTruth, mNot, mAnd, mOr, mIf, mCons, mNil, mTup, mLst, mIdx_ap, mOp, mVal, asB, okB, okI, mkT, pures, fits, opEq, opNe, opLt, opLe, opGt, opGe, opAdd, opSub, tgName, setAll, getM, bInt, intsV, maxI, minI, wipeE]) (by omega)
  have es : iVal (mVar 2) (startE 5 [.r 3, .d (rl as), .d (rl bs), .d (.int (many : Int))]) h = .ok (.seq (ri bs)) h := by
    exact iVal_rl rfl
  have tc := tupComp es ec (by omega)
  have jj : ∀ n, allLt n [.lst (ri ns)] = true := fun n => ri_all n ns
  obtain ⟨gs2, n2, g2, p2, wf2, l2, w2⟩ := Rs.jk B (constant_ok (B.upj (gs' := gs1) jj) wf1 true (by omega))
  have nb : ns ≠ [] := fun z => by rw [z] at nl; simp [fnOf, sSeq, sRet, sIf, sAsg, sExpr, sPar, startE, mVar, mCst, m1, m2, mB, mTruth, mNot, mAnd, mOr, mIf, mCons, mNil, mTup, mLst, mIdx_ap, mOp, mVal, asB, okB, okI, mkT, pures, fits, opEq, opNe, opLt, opLe, opGt, opGe, opAdd, opSub, tgName, setAll, getM, bInt, intsV, maxI, minI] at nl; omega
  obtain ⟨gs3, n3, g3, p3, wf3, l3, w3⟩ := Rt.jk B (summed_ok (B.upj (gs' := gs2) jj) wf2 ((ra.ext p1).ext p2) (r1.ext p2) w2 ha nb la (by omega) hm (by omega))
  have m2 := meth_ok (B.upj (gs' := gs1) jj) (ma := mCons (mCst (.d (.int 1))) mNil) (env := startE 5 [.r 3, .d (rl as), .d (rl bs), .d (.int (many : Int))]) f2 rfl g2 rfl
  have e3 : mCons (mVar 1) (mCons (mOp bTuple (mCons (mComp wd (iVal (mVar 2)) (.one 4) mYes (mMeth C_Board F_turned m_Board_turned [] (mVar 0) (mCons (mVar 4) mNil)) [4]) mNil)) (mCons (mVar 3) (mCons (mMeth C_Board F_constant m_Board_constant [] (mVar 0) (mCons (mCst (.d (.int 1))) mNil)) mNil))) (startE 5 [.r 3, .d (rl as), .d (rl bs), .d (.int (many : Int))]) h = .ok [.d (rl as), .d (rl ns), .d (.int (many : Int)), .d (.int (n2 : Int))] (upB h w gs2 ++ [.lst (ri ns)]) := by
    simp [fnOf, sSeq, sRet, sIf, sAsg, sExpr, sPar, startE, mVar, mCst, m1, m2, mB, mTruth, mNot, mAnd, mOr, mIf, mCons, mNil, mTup, mLst, mIdx_ap, mOp, mVal, asB, okB, okI, mkT, pures, fits, opEq, opNe, opLt, opLe, opGt, opGe, opAdd, opSub, tgName, setAll, getM, bInt, intsV, maxI, minI] at tc m2
    simp [fnOf, sSeq, sRet, sIf, sAsg, sExpr, sPar, startE, mVar, mCst, m1, m2, mB, mTruth, mNot, mAnd, mOr, mIf, mCons, mNil, mTup, mLst, mIdx_ap, mOp, mVal, asB, okB, okI, mkT, pures, fits, opEq, opNe, opLt, opLe, opGt, opGe, opAdd, opSub, tgName, setAll, getM, bInt, intsV, maxI, minI, tc, m2]
  have m3 := meth_ch B (B.upj (gs' := gs2) jj) (env := startE 5 [.r 3, .d (rl as), .d (rl bs), .d (.int (many : Int))]) f1 rfl g3 e3
  refine Rt.call B (ns := n3) (gs' := gs3) (j := [.lst (ri ns)]) ?_ ((p1.trans p2).trans p3) wf3 (by omega) w3
  show (b_Board_less_by (startE 5 [.r 3, .d (rl as), .d (rl bs), .d (.int (many : Int))]) h).fn = _
  simp [fnOf, sSeq, sRet, sIf, sAsg, sExpr, sPar, mVar, mCst, m1, m2, mB, mTruth, mNot, mAnd, mOr, mIf, mCons, mNil, mTup, mLst, mIdx_ap, mOp, mVal, asB, okB, okI, mkT, pures, fits, opEq, opNe, opLt, opLe, opGt, opGe, opAdd, opSub, tgName, setAll, getM, bInt, intsV, maxI, minI, b_Board_less_by, m3]
end K73

set_option Elab.async false
set_option linter.all false
set_option maxRecDepth 100000
set_option maxHeartbeats 2000000
namespace K73
open Ev
variable {w : Nat} {gs : List G} {h : EH}
theorem max1 (a b : Nat) (h : EH) : m2 opAdd (mCst (.d (.int 1))) (fun env h => bMax [.d (.int (a : Int)), .d (.int (b : Int))] h) [] h = .ok (.d (.int ((1 + max a b : Nat) : Int))) h := by
  simp [fnOf, sSeq, sRet, sIf, sAsg, sExpr, sPar, startE, mVar, mCst, m1, m2, mB, mTruth, mNot, mAnd, mOr, mIf, mCons, mNil, mTup, mLst, mIdx_ap, mOp, mVal, asB, okB, okI, mkT, pures, fits, opEq, opNe, opLt, opLe, opGt, opGe, opAdd, opSub, tgName, setAll, getM, bInt, intsV, maxI, minI, bMax_2]
theorem wid_ok (as bs : List Nat) (i j : Nat) (env : Env') (h : EH) (ea : env[i]? = some (some (.d (rl as)))) (eb : env[j]? = some (some (.d (rl bs)))) : m2 opAdd (mCst (.d (.int 1))) (mOp bMax (mCons (mOp bLen (mCons (mVar i) mNil)) (mCons (mOp bLen (mCons (mVar j) mNil)) mNil))) env h = .ok (.d (.int ((1 + max as.length bs.length : Nat) : Int))) h := by
  simp [fnOf, sSeq, sRet, sIf, sAsg, sExpr, sPar, startE, mVar, mCst, m1, m2, mB, mTruth, mNot, mAnd, mOr, mIf, mCons, mNil, mTup, mLst, mIdx_ap, mOp, mVal, asB, okB, okI, mkT, pures, fits, opEq, opNe, opLt, opLe, opGt, opGe, opAdd, opSub, tgName, setAll, getM, bInt, intsV, maxI, minI, ea, eb, len_rl, bMax_2]
theorem added_ok (B : Bd w gs h) (wf : WF w gs) {as bs : List Nat} {fa fb : List Bool → List Bool} (ra : Ri w gs as fa) (rb : Ri w gs bs fb) (ha : as ≠ []) (hb : bs ≠ []) {many : Nat} (em : many = 1 + max as.length bs.length) (hm : many ≤ 1000000) (hl : gs.length + 7 * many ≤ 16000000) :
    Rt w h gs (7 * many) (callFn m_Board_added [.r 3, .d (rl as), .d (rl bs)] h) fun xs => sumB (fa xs) (fb xs) false many := by
  have f1 : getF F_summed (flds w) = none := rfl
  have f2 : getF F_constant (flds w) = none := rfl
  obtain ⟨gs2, n2, g2, p2, wf2, l2, w2⟩ := constant_ok B wf false (by omega)
  obtain ⟨gs3, n3, g3, p3, wf3, l3, w3⟩ := summed_ok (B.up (gs' := gs2)) wf2 (ra.ext p2) (rb.ext p2) w2 ha hb (by omega) (by omega) hm (by omega)
  rw [upB_upB] at g3
  have m2 := meth_ok B (ma := mCons (mCst (.d (.int 0))) mNil) (env := startE 3 [.r 3, .d (rl as), .d (rl bs)]) f2 rfl g2 rfl
  have wi := wid_ok as bs 1 2 (startE 3 [.r 3, .d (rl as), .d (rl bs)]) h rfl rfl
  rw [← em] at wi
  have e3 : mCons (mVar 1) (mCons (mVar 2) (mCons (Ev.m2 opAdd (mCst (.d (.int 1))) (mOp bMax (mCons (mOp bLen (mCons (mVar 1) mNil)) (mCons (mOp bLen (mCons (mVar 2) mNil)) mNil)))) (mCons (mMeth C_Board F_constant m_Board_constant [] (mVar 0) (mCons (mCst (.d (.int 0))) mNil)) mNil))) (startE 3 [.r 3, .d (rl as), .d (rl bs)]) h = .ok [.d (rl as), .d (rl bs), .d (.int (many : Int)), .d (.int (n2 : Int))] (upB h w gs2) := by
    simp [fnOf, sSeq, sRet, sIf, sAsg, sExpr, sPar, startE, mVar, mCst, m1, mB, mTruth, mNot, mAnd, mOr, mIf, mCons, mNil, mTup, mLst, mIdx_ap, mOp, mVal, asB, okB, okI, mkT, pures, fits, opEq, opNe, opLt, opLe, opGt, opGe, opAdd, opSub, tgName, setAll, getM, bInt, intsV, maxI, minI, startE] at wi m2
    simp [fnOf, sSeq, sRet, sIf, sAsg, sExpr, sPar, startE, mVar, mCst, m1, mB, mTruth, mNot, mAnd, mOr, mIf, mCons, mNil, mTup, mLst, mIdx_ap, mOp, mVal, asB, okB, okI, mkT, pures, fits, opEq, opNe, opLt, opLe, opGt, opGe, opAdd, opSub, tgName, setAll, getM, bInt, intsV, maxI, minI, wi, m2]
  have m3 := meth_ch B (B.up (gs' := gs2)) (env := startE 3 [.r 3, .d (rl as), .d (rl bs)]) f1 rfl g3 e3
  refine Rt.call B (ns := n3) (gs' := gs3) (j := []) ?_ (p2.trans p3) wf3 (by omega) w3
  show (b_Board_added (startE 3 [.r 3, .d (rl as), .d (rl bs)]) h).fn = _
  simp [fnOf, sSeq, sRet, sIf, sAsg, sExpr, sPar, mVar, mCst, m1, m2, mB, mTruth, mNot, mAnd, mOr, mIf, mCons, mNil, mTup, mLst, mIdx_ap, mOp, mVal, asB, okB, okI, mkT, pures, fits, opEq, opNe, opLt, opLe, opGt, opGe, opAdd, opSub, tgName, setAll, getM, bInt, intsV, maxI, minI, b_Board_added, m3]
theorem less_ok (B : Bd w gs h) (wf : WF w gs) {as bs : List Nat} {fa fb : List Bool → List Bool} (ra : Ri w gs as fa) (rb : Ri w gs bs fb) (ha : as ≠ []) (hb : bs ≠ []) {many : Nat} (em : many = 1 + max as.length bs.length) (hm : many ≤ 1000000) (hl : gs.length + 7 * many ≤ 16000000) :
    Rt w h gs (7 * many) (callFn m_Board_less [.r 3, .d (rl as), .d (rl bs)] h) fun xs => subB (fa xs) (fb xs) many := by
  have f1 : getF F_less_by (flds w) = none := rfl
  obtain ⟨gs3, n3, g3, p3, wf3, l3, w3⟩ := less_by_ok B wf ra rb ha hb (by omega) (by omega) hm (by omega)
  have wi := wid_ok as bs 1 2 (startE 3 [.r 3, .d (rl as), .d (rl bs)]) h rfl rfl
  rw [← em] at wi
  have e3 : mCons (mVar 1) (mCons (mVar 2) (mCons (Ev.m2 opAdd (mCst (.d (.int 1))) (mOp bMax (mCons (mOp bLen (mCons (mVar 1) mNil)) (mCons (mOp bLen (mCons (mVar 2) mNil)) mNil)))) mNil)) (startE 3 [.r 3, .d (rl as), .d (rl bs)]) h = .ok [.d (rl as), .d (rl bs), .d (.int (many : Int))] h := by
    simp [fnOf, sSeq, sRet, sIf, sAsg, sExpr, sPar, startE, mVar, mCst, m1, mB, mTruth, mNot, mAnd, mOr, mIf, mCons, mNil, mTup, mLst, mIdx_ap, mOp, mVal, asB, okB, okI, mkT, pures, fits, opEq, opNe, opLt, opLe, opGt, opGe, opAdd, opSub, tgName, setAll, getM, bInt, intsV, maxI, minI, startE] at wi
    simp [fnOf, sSeq, sRet, sIf, sAsg, sExpr, sPar, startE, mVar, mCst, m1, mB, mTruth, mNot, mAnd, mOr, mIf, mCons, mNil, mTup, mLst, mIdx_ap, mOp, mVal, asB, okB, okI, mkT, pures, fits, opEq, opNe, opLt, opLe, opGt, opGe, opAdd, opSub, tgName, setAll, getM, bInt, intsV, maxI, minI, wi]
  have m3 := meth_ok B (env := startE 3 [.r 3, .d (rl as), .d (rl bs)]) f1 rfl g3 e3
  refine Rt.call B (ns := n3) (gs' := gs3) (j := []) ?_ p3 wf3 (by omega) w3
  show (b_Board_less (startE 3 [.r 3, .d (rl as), .d (rl bs)]) h).fn = _
  simp [fnOf, sSeq, sRet, sIf, sAsg, sExpr, sPar, mVar, mCst, m1, m2, mB, mTruth, mNot, mAnd, mOr, mIf, mCons, mNil, mTup, mLst, mIdx_ap, mOp, mVal, asB, okB, okI, mkT, pures, fits, opEq, opNe, opLt, opLe, opGt, opGe, opAdd, opSub, tgName, setAll, getM, bInt, intsV, maxI, minI, b_Board_less, m3]
theorem addB_len : ∀ {as bs : List Bool} {c : Bool}, as.length = bs.length → (addB as bs c).length = as.length
  | [], [], _, _ => rfl
  | x :: r, y :: s, c, l => by
    simp only [addB, List.length_cons]
    rw [addB_len (by simpa using l)]
theorem is_below_ok (B : Bd w gs h) (wf : WF w gs) {as bs : List Nat} {fa fb : List Bool → List Bool} (ra : Ri w gs as fa) (rb : Ri w gs bs fb) (ha : as ≠ []) (hb : bs ≠ []) {many : Nat} (em : many = 1 + max as.length bs.length) (hm : many ≤ 1000000) (hl : gs.length + 7 * many ≤ 16000000) :
    Rs w h gs (7 * many) (callFn m_Board_is_below [.r 3, .d (rl as), .d (rl bs)] h) fun gs' n => Wi w gs' n fun xs => lastB (subB (fa xs) (fb xs) many) := by
  have f1 : getF F_less (flds w) = none := rfl
  obtain ⟨gs3, n3, g3, p3, wf3, l3, w3⟩ := less_ok B wf ra rb ha hb em hm hl
  have m3 := meth_ok B (ma := mCons (mVar 1) (mCons (mVar 2) mNil)) (env := startE 3 [.r 3, .d (rl as), .d (rl bs)]) f1 rfl g3 rfl
  have ln : 0 < n3.length := by
    have z := w3.len (xs := List.replicate w false) (by simp [fnOf, sSeq, sRet, sIf, sAsg, sExpr, sPar, startE, mVar, mCst, m1, m2, mB, mTruth, mNot, mAnd, mOr, mIf, mCons, mNil, mTup, mLst, mIdx_ap, mOp, mVal, asB, okB, okI, mkT, pures, fits, opEq, opNe, opLt, opLe, opGt, opGe, opAdd, opSub, tgName, setAll, getM, bInt, intsV, maxI, minI])
    unfold subB at z
    have za := ra.len (xs := List.replicate w false) (by simp [fnOf, sSeq, sRet, sIf, sAsg, sExpr, sPar, startE, mVar, mCst, m1, m2, mB, mTruth, mNot, mAnd, mOr, mIf, mCons, mNil, mTup, mLst, mIdx_ap, mOp, mVal, asB, okB, okI, mkT, pures, fits, opEq, opNe, opLt, opLe, opGt, opGe, opAdd, opSub, tgName, setAll, getM, bInt, intsV, maxI, minI])
    have zb := rb.len (xs := List.replicate w false) (by simp [fnOf, sSeq, sRet, sIf, sAsg, sExpr, sPar, startE, mVar, mCst, m1, m2, mB, mTruth, mNot, mAnd, mOr, mIf, mCons, mNil, mTup, mLst, mIdx_ap, mOp, mVal, asB, okB, okI, mkT, pures, fits, opEq, opNe, opLt, opLe, opGt, opGe, opAdd, opSub, tgName, setAll, getM, bInt, intsV, maxI, minI])
    rw [addB_len (by simp [fnOf, sSeq, sRet, sIf, sAsg, sExpr, sPar, startE, mVar, mCst, m1, m2, mB, mTruth, mNot, mAnd, mOr, mIf, mCons, mNil, mTup, mLst, mIdx_ap, mOp, mVal, asB, okB, okI, mkT, pures, fits, opEq, opNe, opLt, opLe, opGt, opGe, opAdd, opSub, tgName, setAll, getM, bInt, intsV, maxI, minI, stretchB]; omega)] at z
    simp [fnOf, sSeq, sRet, sIf, sAsg, sExpr, sPar, startE, mVar, mCst, m1, m2, mB, mTruth, mNot, mAnd, mOr, mIf, mCons, mNil, mTup, mLst, mIdx_ap, mOp, mVal, asB, okB, okI, mkT, pures, fits, opEq, opNe, opLt, opLe, opGt, opGe, opAdd, opSub, tgName, setAll, getM, bInt, intsV, maxI, minI, stretchB] at z
    omega
  have n3n : n3 ≠ [] := List.length_pos_iff.mp ln
  have key : m_Board_is_below (.r 3 :: [.d (rl as), .d (rl bs)]) h = .ok (.d (.int (lastN n3 : Int))) (upB h w gs3 ++ []) := by
    show (b_Board_is_below (startE 3 [.r 3, .d (rl as), .d (rl bs)]) h).fn = _
    simp [fnOf, sSeq, sRet, sIf, sAsg, sExpr, sPar, mVar, mCst, m1, m2, mB, mTruth, mNot, mAnd, mOr, mIf, mCons, mNil, mTup, mLst, mIdx_ap, mOp, mVal, asB, okB, okI, mkT, pures, fits, opEq, opNe, opLt, opLe, opGt, opGe, opAdd, opSub, tgName, setAll, getM, bInt, intsV, maxI, minI, b_Board_is_below, m3, opNeg, idx_last_rl n3n]
  refine ⟨gs3, lastN n3, callB B key rfl, p3, wf3, by omega, ?_⟩
  have wl := w3.wire (show n3.length - 1 < n3.length by omega)
  have el : n3[n3.length - 1] = lastN n3 := by simp [fnOf, sSeq, sRet, sIf, sAsg, sExpr, sPar, startE, mVar, mCst, m1, m2, mB, mTruth, mNot, mAnd, mOr, mIf, mCons, mNil, mTup, mLst, mIdx_ap, mOp, mVal, asB, okB, okI, mkT, pures, fits, opEq, opNe, opLt, opLe, opGt, opGe, opAdd, opSub, tgName, setAll, getM, bInt, intsV, maxI, minI, lastN, List.getD_eq_getElem?_getD, show n3.length - 1 < n3.length by omega]
  rw [el] at wl
  refine ⟨wl.1, fun xs hx => ?_⟩
  rw [wl.2 xs hx]
  show _ = lastB (subB (fa xs) (fb xs) many)
  unfold lastB
  rw [w3.len hx]
end K73

set_option Elab.async false
set_option linter.all false
set_option maxRecDepth 100000
set_option maxHeartbeats 2000000
namespace K73
open Ev
variable {w : Nat} {gs : List G} {h : EH}
theorem slice_rl (ns : List Nat) (lo hi : Option Int) (h : EH) (hf : ns.length ≤ 16777216) {ms : List Nat} (e : cutL (ri ns) lo hi = ri ms) : opSlice (.d (rl ns)) lo hi h = .ok (.d (rl ms)) h := by
  have lm : ms.length ≤ ns.length := by
    have z := congrArg List.length e
    rw [ri_len] at z
    rw [← z]
    unfold cutL
    simp [fnOf, sSeq, sRet, sIf, sAsg, sExpr, sPar, startE, mVar, mCst, m1, m2, mB, mTruth, mNot, mAnd, mOr, mIf, mCons, mNil, mTup, mLst, mIdx_ap, mOp, mVal, asB, okB, okI, mkT, pures, fits, opEq, opNe, opLt, opLe, opGt, opGe, opAdd, opSub, tgName, setAll, getM, bInt, intsV, maxI, minI]
    omega
  have k : isK (.d (rl ns)) = false := rfl
  have z : opSlice (.d (rl ns)) lo hi h = newT (cutL (ri ns) lo hi) h := by
    have t := asT_rl ns
    unfold rl at t k ⊢
    simp only [opSlice, t, k]
    rfl
  rw [z, e, newT_ok (by rw [ri_len]; omega), mkT_ri]
theorem cut_from (ns : List Nat) (k : Nat) : cutL (ri ns) (some (k : Int)) none = ri (ns.drop k) := by
  unfold cutL
  rw [HT.sIx_nat, HT.sIx_none]
  apply List.ext_getElem?
  intro i
  simp [fnOf, sSeq, sRet, sIf, sAsg, sExpr, sPar, startE, mVar, mCst, m1, m2, mB, mTruth, mNot, mAnd, mOr, mIf, mCons, mNil, mTup, mLst, mIdx_ap, mOp, mVal, asB, okB, okI, mkT, pures, fits, opEq, opNe, opLt, opLe, opGt, opGe, opAdd, opSub, tgName, setAll, getM, bInt, intsV, maxI, minI, ri, List.getElem?_take, List.getElem?_drop]
  by_cases c : k ≤ ns.length
  · rw [Nat.min_eq_left c]
    by_cases d : i < ns.length - k
    · rw [if_pos d]
    · rw [if_neg d, List.getElem?_eq_none (by omega)]
      rfl
  · rw [List.getElem?_eq_none (show ns.length ≤ k + i by omega), Nat.min_eq_right (by omega)]
    rw [if_neg (by omega)]
    rfl
theorem cut_last {ns : List Nat} (hn : ns ≠ []) : cutL (ri ns) (some (-1)) none = ri [lastN ns] := by
  have hl : 0 < ns.length := List.length_pos_iff.mpr hn
  unfold cutL
  rw [HT.sIx_none]
  have z : HT.sIx (ri ns).length 0 (some (-1)) = ns.length - 1 := by
    show (if (-1 : Int) < 0 then ((-1 : Int) + ((ri ns).length : Int)).toNat else min (-1 : Int).toNat (ri ns).length) = _
    rw [if_pos (by decide), ri_len]
    omega
  rw [z, ri_len, show ns.length - (ns.length - 1) = 1 by omega]
  have q : (ri ns).drop (ns.length - 1) = ri [lastN ns] := by
    apply List.ext_getElem
    · simp [fnOf, sSeq, sRet, sIf, sAsg, sExpr, sPar, startE, mVar, mCst, m1, m2, mB, mTruth, mNot, mAnd, mOr, mIf, mCons, mNil, mTup, mLst, mIdx_ap, mOp, mVal, asB, okB, okI, mkT, pures, fits, opEq, opNe, opLt, opLe, opGt, opGe, opAdd, opSub, tgName, setAll, getM, bInt, intsV, maxI, minI, ri]; omega
    · intro i h1 h2
      have : i = 0 := by simp [fnOf, sSeq, sRet, sIf, sAsg, sExpr, sPar, startE, mVar, mCst, m1, m2, mB, mTruth, mNot, mAnd, mOr, mIf, mCons, mNil, mTup, mLst, mIdx_ap, mOp, mVal, asB, okB, okI, mkT, pures, fits, opEq, opNe, opLt, opLe, opGt, opGe, opAdd, opSub, tgName, setAll, getM, bInt, intsV, maxI, minI, ri] at h2; omega
      subst this
      simp [fnOf, sSeq, sRet, sIf, sAsg, sExpr, sPar, startE, mVar, mCst, m1, m2, mB, mTruth, mNot, mAnd, mOr, mIf, mCons, mNil, mTup, mLst, mIdx_ap, mOp, mVal, asB, okB, okI, mkT, pures, fits, opEq, opNe, opLt, opLe, opGt, opGe, opAdd, opSub, tgName, setAll, getM, bInt, intsV, maxI, minI, ri, lastN, List.getD_eq_getElem?_getD, show ns.length - 1 < ns.length by omega]
  rw [q]
  rfl
def halfB (bs : List Bool) (many : Nat) : List Bool := if many < bs.length then bs.drop many else [lastB bs]
theorem Ri.drop {ns : List Nat} {f : List Bool → List Bool} (r : Ri w gs ns f) (k : Nat) : Ri w gs (ns.drop k) fun xs => (f xs).drop k :=
  ⟨fun n m => r.i n (List.mem_of_mem_drop m), fun xs hx => by rw [← r.v xs hx]; simp [fnOf, sSeq, sRet, sIf, sAsg, sExpr, sPar, startE, mVar, mCst, m1, m2, mB, mTruth, mNot, mAnd, mOr, mIf, mCons, mNil, mTup, mLst, mIdx_ap, mOp, mVal, asB, okB, okI, mkT, pures, fits, opEq, opNe, opLt, opLe, opGt, opGe, opAdd, opSub, tgName, setAll, getM, bInt, intsV, maxI, minI, bv]⟩
theorem Ri.last {ns : List Nat} {f : List Bool → List Bool} (r : Ri w gs ns f) (hn : ns ≠ []) : Wi w gs (lastN ns) fun xs => lastB (f xs) := by
  have hl : 0 < ns.length := List.length_pos_iff.mpr hn
  have wl := r.wire (show ns.length - 1 < ns.length by omega)
  have el : ns[ns.length - 1] = lastN ns := by simp [fnOf, sSeq, sRet, sIf, sAsg, sExpr, sPar, startE, mVar, mCst, m1, m2, mB, mTruth, mNot, mAnd, mOr, mIf, mCons, mNil, mTup, mLst, mIdx_ap, mOp, mVal, asB, okB, okI, mkT, pures, fits, opEq, opNe, opLt, opLe, opGt, opGe, opAdd, opSub, tgName, setAll, getM, bInt, intsV, maxI, minI, lastN, List.getD_eq_getElem?_getD, show ns.length - 1 < ns.length by omega]
  rw [el] at wl
  refine ⟨wl.1, fun xs hx => ?_⟩
  rw [wl.2 xs hx]
  show _ = lastB (f xs)
  unfold lastB
  rw [r.len hx]
theorem halved_ok (B : Bd w gs h) (wf : WF w gs) {ns : List Nat} {f : List Bool → List Bool} (r : Ri w gs ns f) (hn : ns ≠ []) (many : Nat) (hf : ns.length ≤ 1000000) :
    Rt w h gs 0 (callFn m_Board_halved [.r 3, .d (rl ns), .d (.int (many : Int))] h) fun xs => halfB (f xs) many := by
  by_cases c : many < ns.length
  · have key : m_Board_halved (.r 3 :: [.d (rl ns), .d (.int (many : Int))]) h = .ok (.d (rl (ns.drop many))) (upB h w gs ++ []) := by
      have s := slice_rl ns (some (many : Int)) none h (by omega) (cut_from ns many)
      rw [B.same]
      simp [fnOf, sSeq, sRet, sIf, sAsg, sExpr, sPar, startE, mVar, mCst, m1, m2, mB, mTruth, mNot, mAnd, mOr, mIf, mCons, mNil, mTup, mLst, mIdx_ap, mOp, mVal, asB, okB, okI, mkT, pures, fits, opEq, opNe, opLt, opLe, opGt, opGe, opAdd, opSub, tgName, setAll, getM, bInt, intsV, maxI, minI, m_Board_halved, b_Board_halved, len_rl, c, mSlice, mPart, s]
    exact Rt.call B key (List.prefix_refl _) wf (Nat.le_refl _) ((r.drop many).imp fun xs hx => by
      show (f xs).drop many = halfB (f xs) many
      unfold halfB
      rw [r.len hx, if_pos c])
  · have key : m_Board_halved (.r 3 :: [.d (rl ns), .d (.int (many : Int))]) h = .ok (.d (rl [lastN ns])) (upB h w gs ++ []) := by
      have s := slice_rl ns (some (-1)) none h (by omega) (cut_last hn)
      rw [B.same]
      simp [fnOf, sSeq, sRet, sIf, sAsg, sExpr, sPar, startE, mVar, mCst, m1, m2, mB, mTruth, mNot, mAnd, mOr, mIf, mCons, mNil, mTup, mLst, mIdx_ap, mOp, mVal, asB, okB, okI, mkT, pures, fits, opEq, opNe, opLt, opLe, opGt, opGe, opAdd, opSub, tgName, setAll, getM, bInt, intsV, maxI, minI, m_Board_halved, b_Board_halved, len_rl, c, mSlice, mPart, opNeg, s]
    exact Rt.call B key (List.prefix_refl _) wf (Nat.le_refl _) ((Ri.nil.snoc (r.last hn)).imp fun xs hx => by
      show [lastB (f xs)] = halfB (f xs) many
      unfold halfB
      rw [r.len hx, if_neg c])
theorem doubled_ok (B : Bd w gs h) (wf : WF w gs) {as : List Nat} {fa : List Bool → List Bool} (ra : Ri w gs as fa) {many : Nat} (hs : as.length ≤ 1000000) (hm : many ≤ 1000000) (hl : gs.length + many ≤ 16000000) :
    Rt w h gs many (callFn m_Board_doubled [.r 3, .d (rl as), .d (.int (many : Int))] h) fun xs => List.replicate many false ++ fa xs := by
  have f2 : getF F_constant (flds w) = none := rfl
  have es : iRange1 (mCons (mVar 2) mNil) (startE 4 [.r 3, .d (rl as), .d (.int (many : Int))]) h = .ok (.seq (rng 0 many)) h := by
    exact iRange1_ok (h1 := h) (j := (many : Int)) (by simp [fnOf, sSeq, sRet, sIf, sAsg, sExpr, sPar, startE, mVar, mCst, m1, m2, mB, mTruth, mNot, mAnd, mOr, mIf, mCons, mNil, mTup, mLst, mIdx_ap, mOp, mVal, asB, okB, okI, mkT, pures, fits, opEq, opNe, opLt, opLe, opGt, opGe, opAdd, opSub, tgName, setAll, getM, bInt, intsV, maxI, minI]) (by omega) (by omega)
  obtain ⟨gs', ns, ec, p, wf', l, nl, r⟩ := comp_B (k := 3) (e := mMeth C_Board F_constant m_Board_constant [] (mVar 0) (mCons (mCst (.d (.int 0))) mNil)) (env := wipeE (startE 4 [.r 3, .d (rl as), .d (.int (many : Int))]) [3]) (xs := rng 0 many) B wf 1 (fun i _ => false) (fun i gs1 hi p1 wf1 l1 => by
    rw [rng_len] at hi
    have B1 := B.up (gs' := gs1)
    have q := constant_ok B1 wf1 false (by omega)
    rw [meth_B B1 f2 rfl (xs := [.d (.int (if false then 1 else 0))]) rfl]
    exact q)
  rw [rng_len] at l nl r
  have em := mComp_seq (w := wd) es ec (by simp [fnOf, sSeq, sRet, sIf, sAsg, sExpr, sPar, startE, mVar, mCst, m1, m2, mB, mTruth, mNot, mAnd, mOr, mIf, mCons, mNil, mTup, mLst, mIdx_ap, mOp, mVal, asB, okB, okI, mkT, pures, fits, opEq, opNe, opLt, opLe, opGt, opGe, opAdd, opSub, tgName, setAll, getM, bInt, intsV, maxI, minI]; omega)
  have l2 := r.app (ra.ext p)
  refine Rt.call B (ns := ns ++ as) (gs' := gs') (j := [.lst (ri ns)]) ?_ p wf' (by omega) (l2.imp fun xs hx => ?_)
  · show (b_Board_doubled (startE 4 [.r 3, .d (rl as), .d (.int (many : Int))]) h).fn = _
    have e0 : (startE 4 [.r 3, .d (rl as), .d (.int (many : Int))])[1]? = some (some (.d (rl as))) := rfl
    have nt := newT_ok (xs := ri (ns ++ as)) (h := upB h w gs' ++ [.lst (ri ns)]) (by simp [fnOf, sSeq, sRet, sIf, sAsg, sExpr, sPar, startE, mVar, mCst, m1, m2, mB, mTruth, mNot, mAnd, mOr, mIf, mCons, mNil, mTup, mLst, mIdx_ap, mOp, mVal, asB, okB, okI, mkT, pures, fits, opEq, opNe, opLt, opLe, opGt, opGe, opAdd, opSub, tgName, setAll, getM, bInt, intsV, maxI, minI]; omega)
    rw [mkT_ri] at nt
    have el : ri ns ++ ri as = ri (ns ++ as) := by simp [fnOf, sSeq, sRet, sIf, sAsg, sExpr, sPar, startE, mVar, mCst, m1, m2, mB, mTruth, mNot, mAnd, mOr, mIf, mCons, mNil, mTup, mLst, mIdx_ap, mOp, mVal, asB, okB, okI, mkT, pures, fits, opEq, opNe, opLt, opLe, opGt, opGe, opAdd, opSub, tgName, setAll, getM, bInt, intsV, maxI, minI, ri]
    have q : mTup (mStar (mComp wd (iRange1 (mCons (mVar 2) mNil)) (.one 3) mYes (mMeth C_Board F_constant m_Board_constant [] (mVar 0) (mCons (mCst (.d (.int 0))) mNil)) [3]) (mStar (mVar 1) mNil)) (startE 4 [.r 3, .d (rl as), .d (.int (many : Int))]) h = .ok (.d (rl (ns ++ as))) (upB h w gs' ++ [.lst (ri ns)]) := by
      unfold mTup mStar
      rw [em, bind_mk, getS_new]
      simp only [mVar, e0, bind_mk, getS_rl, mNil, List.append_nil, el, nt]
    unfold b_Board_doubled
    simp only [sSeq, sRet, q, run_ok, rs_rt, fn_rt]
  · have z : (List.range many).map (fun _ => false) = List.replicate many false := by
      rw [List.eq_replicate_iff]
      exact ⟨by simp [fnOf, sSeq, sRet, sIf, sAsg, sExpr, sPar, startE, mVar, mCst, m1, m2, mB, mTruth, mNot, mAnd, mOr, mIf, mCons, mNil, mTup, mLst, mIdx_ap, mOp, mVal, asB, okB, okI, mkT, pures, fits, opEq, opNe, opLt, opLe, opGt, opGe, opAdd, opSub, tgName, setAll, getM, bInt, intsV, maxI, minI], fun b m => by obtain ⟨_, _, e⟩ := List.mem_map.mp m; exact e.symm⟩
    show (List.range many).map (fun _ => false) ++ fa xs = List.replicate many false ++ fa xs
    rw [z]
def netD (w : Nat) (gs : List G) (es : List Nat) : D := .tup true [.int (w : Int), .tup true (gs.map G.d), rl es]
theorem net_ok (B : Bd w gs h) (es : List Nat) (hl : gs.length ≤ 16000000) : callFn m_Board_net [.r 3, .d (rl es)] h = .ok (.d (netD w gs es)) h := by
  have key : m_Board_net (.r 3 :: [.d (rl es)]) h = .ok (.d (netD w gs es)) (upB h w gs ++ []) := by
    rw [B.same]
    have e0 : (startE 2 [.r 3, .d (rl es)])[0]? = some (some (.r 3)) := rfl
    have f1 := fld_w B (startE 2 [.r 3, .d (rl es)]) rfl
    have f2 := fld_g B (startE 2 [.r 3, .d (rl es)]) rfl
    have g : getS (.r 4) h = some (gl gs) := by simp [fnOf, sSeq, sRet, sIf, sAsg, sExpr, sPar, startE, mVar, mCst, m1, m2, mB, mTruth, mNot, mAnd, mOr, mIf, mCons, mNil, mTup, mLst, mIdx_ap, mOp, mVal, asB, okB, okI, mkT, pures, fits, opEq, opNe, opLt, opLe, opGt, opGe, opAdd, opSub, tgName, setAll, getM, bInt, intsV, maxI, minI, getS, asT, getL, B.g]
    have e : gl gs = (gs.map G.d).map .d := by simp [fnOf, sSeq, sRet, sIf, sAsg, sExpr, sPar, startE, mVar, mCst, m1, m2, mB, mTruth, mNot, mAnd, mOr, mIf, mCons, mNil, mTup, mLst, mIdx_ap, mOp, mVal, asB, okB, okI, mkT, pures, fits, opEq, opNe, opLt, opLe, opGt, opGe, opAdd, opSub, tgName, setAll, getM, bInt, intsV, maxI, minI, gl]
    have nt := newT_ok (xs := gl gs) (h := h) (by simp [fnOf, sSeq, sRet, sIf, sAsg, sExpr, sPar, startE, mVar, mCst, m1, m2, mB, mTruth, mNot, mAnd, mOr, mIf, mCons, mNil, mTup, mLst, mIdx_ap, mOp, mVal, asB, okB, okI, mkT, pures, fits, opEq, opNe, opLt, opLe, opGt, opGe, opAdd, opSub, tgName, setAll, getM, bInt, intsV, maxI, minI, gl]; omega)
    rw [e, mkT_pure] at nt
    rw [← e] at nt
    have b1 : bTuple [.r 4] h = .ok (.d (.tup true (gs.map G.d))) h := by
      have z : asT (.r 4) = none := rfl
      simp [fnOf, sSeq, sRet, sIf, sAsg, sExpr, sPar, startE, mVar, mCst, m1, m2, mB, mTruth, mNot, mAnd, mOr, mIf, mCons, mNil, mTup, mLst, mIdx_ap, mOp, mVal, asB, okB, okI, mkT, pures, fits, opEq, opNe, opLt, opLe, opGt, opGe, opAdd, opSub, tgName, setAll, getM, bInt, intsV, maxI, minI, bTuple, z, g, nt]
    have b2 : bTuple [.d (rl es)] h = .ok (.d (rl es)) h := by
      simp [fnOf, sSeq, sRet, sIf, sAsg, sExpr, sPar, startE, mVar, mCst, m1, m2, mB, mTruth, mNot, mAnd, mOr, mIf, mCons, mNil, mTup, mLst, mIdx_ap, mOp, mVal, asB, okB, okI, mkT, pures, fits, opEq, opNe, opLt, opLe, opGt, opGe, opAdd, opSub, tgName, setAll, getM, bInt, intsV, maxI, minI, bTuple, asT_rl]
    show (b_Board_net (startE 2 [.r 3, .d (rl es)]) h).fn = _
    have e1 : (startE 2 [.r 3, .d (rl es)])[1]? = some (some (.d (rl es))) := rfl
    have n3 := newT_ok (xs := [.d (.int (w : Int)), .d (.tup true (gs.map G.d)), .d (rl es)]) (h := h) (by simp [fnOf, sSeq, sRet, sIf, sAsg, sExpr, sPar, startE, mVar, mCst, m1, m2, mB, mTruth, mNot, mAnd, mOr, mIf, mCons, mNil, mTup, mLst, mIdx_ap, mOp, mVal, asB, okB, okI, mkT, pures, fits, opEq, opNe, opLt, opLe, opGt, opGe, opAdd, opSub, tgName, setAll, getM, bInt, intsV, maxI, minI])
    simp [fnOf, sSeq, sRet, sIf, sAsg, sExpr, sPar, mVar, mCst, m1, m2, mB, mTruth, mNot, mAnd, mOr, mIf, mCons, mNil, mTup, mLst, mIdx_ap, mOp, mVal, asB, okB, okI, mkT, pures, fits, opEq, opNe, opLt, opLe, opGt, opGe, opAdd, opSub, tgName, setAll, getM, bInt, intsV, maxI, minI, b_Board_net, f1, f2, e1, b1, b2, n3, netD]
  have q := callB (gs' := gs) B key rfl
  rw [B.same] at q
  exact q
end K73

set_option Elab.async false
set_option linter.all false
set_option maxRecDepth 100000
set_option maxHeartbeats 2000000
namespace K73
open Ev
variable {w : Nat} {gs : List G} {h : EH}
theorem sumB_len {a b : List Bool} {c : Bool} {many : Nat} (ha : a.length ≤ many) (hb : b.length ≤ many) : (sumB a b c many).length = many := by
  unfold sumB
  rw [addB_len (by simp [fnOf, sSeq, sRet, sIf, sAsg, sExpr, sPar, startE, mVar, mCst, m1, m2, mB, mTruth, mNot, mAnd, mOr, mIf, mCons, mNil, mTup, mLst, mIdx_ap, mOp, mVal, asB, okB, okI, mkT, pures, fits, opEq, opNe, opLt, opLe, opGt, opGe, opAdd, opSub, tgName, setAll, getM, bInt, intsV, maxI, minI, stretchB]; omega)]
  simp [fnOf, sSeq, sRet, sIf, sAsg, sExpr, sPar, startE, mVar, mCst, m1, m2, mB, mTruth, mNot, mAnd, mOr, mIf, mCons, mNil, mTup, mLst, mIdx_ap, mOp, mVal, asB, okB, okI, mkT, pures, fits, opEq, opNe, opLt, opLe, opGt, opGe, opAdd, opSub, tgName, setAll, getM, bInt, intsV, maxI, minI, stretchB]
  omega
theorem subB_len {a b : List Bool} {many : Nat} (ha : a.length ≤ many) (hb : b.length ≤ many) : (subB a b many).length = many := by
  unfold subB
  rw [addB_len (by simp [fnOf, sSeq, sRet, sIf, sAsg, sExpr, sPar, startE, mVar, mCst, m1, m2, mB, mTruth, mNot, mAnd, mOr, mIf, mCons, mNil, mTup, mLst, mIdx_ap, mOp, mVal, asB, okB, okI, mkT, pures, fits, opEq, opNe, opLt, opLe, opGt, opGe, opAdd, opSub, tgName, setAll, getM, bInt, intsV, maxI, minI, stretchB]; omega)]
  simp [fnOf, sSeq, sRet, sIf, sAsg, sExpr, sPar, startE, mVar, mCst, m1, m2, mB, mTruth, mNot, mAnd, mOr, mIf, mCons, mNil, mTup, mLst, mIdx_ap, mOp, mVal, asB, okB, okI, mkT, pures, fits, opEq, opNe, opLt, opLe, opGt, opGe, opAdd, opSub, tgName, setAll, getM, bInt, intsV, maxI, minI, stretchB]
  omega
theorem bitsC_len (c : Int) (many : Nat) : (bitsC c many).length = many := by simp [fnOf, sSeq, sRet, sIf, sAsg, sExpr, sPar, startE, mVar, mCst, m1, m2, mB, mTruth, mNot, mAnd, mOr, mIf, mCons, mNil, mTup, mLst, mIdx_ap, mOp, mVal, asB, okB, okI, mkT, pures, fits, opEq, opNe, opLt, opLe, opGt, opGe, opAdd, opSub, tgName, setAll, getM, bInt, intsV, maxI, minI, bitsC]
def partB (a : List Bool) (i : Nat) (b : Bool) : List Bool := List.replicate i false ++ a.map (b && ·)
theorem partB_len (a : List Bool) (i : Nat) (b : Bool) : (partB a i b).length = i + a.length := by simp [fnOf, sSeq, sRet, sIf, sAsg, sExpr, sPar, startE, mVar, mCst, m1, m2, mB, mTruth, mNot, mAnd, mOr, mIf, mCons, mNil, mTup, mLst, mIdx_ap, mOp, mVal, asB, okB, okI, mkT, pures, fits, opEq, opNe, opLt, opLe, opGt, opGe, opAdd, opSub, tgName, setAll, getM, bInt, intsV, maxI, minI, partB]
def prodS (a b : List Bool) (many : Nat) : Nat → List Bool
  | 0 => bitsC 0 many
  | i + 1 => if i + 1 < b.length then sumB (prodS a b many i) (partB a i (b.getD i false)) false many else subB (prodS a b many i) (partB a i (b.getD i false)) many
theorem Ri.len0 {ns : List Nat} {f : List Bool → List Bool} (r : Ri w gs ns f) : (f (List.replicate w false)).length = ns.length := r.len (by simp [fnOf, sSeq, sRet, sIf, sAsg, sExpr, sPar, startE, mVar, mCst, m1, m2, mB, mTruth, mNot, mAnd, mOr, mIf, mCons, mNil, mTup, mLst, mIdx_ap, mOp, mVal, asB, okB, okI, mkT, pures, fits, opEq, opNe, opLt, opLe, opGt, opGe, opAdd, opSub, tgName, setAll, getM, bInt, intsV, maxI, minI])
theorem numb_len : ∀ (k : Nat) (xs : List Val), (numb k xs).length = xs.length
  | _, [] => rfl
  | k, x :: r => by
    show (numb (k + 1) r).length + 1 = r.length + 1
    rw [numb_len]
theorem numb_get (xs : List Val) (i : Nat) (hi : i < (numb 0 xs).length) : (numb 0 xs)[i] = mkT [.d (.int (i : Int)), xs[i]'(by rw [numb_len] at hi; exact hi)] := by
  have z := numb_at xs 0 i
  rw [List.getElem?_eq_getElem hi, List.getElem?_eq_getElem (by rw [numb_len] at hi; exact hi)] at z
  simpa using z
/-- the wires of a rail, each and'ed -/
theorem and_all (B : Bd w gs h) (wf : WF w gs) {as : List Nat} {c : Nat} {fa : List Bool → List Bool} {fc : List Bool → Bool} (ra : Ri w gs as fa) (rc : Wi w gs c fc) {env : Env'} {k m : Nat} (hk : k ≠ 0) (hm : k ≠ m) (e0 : env[0]? = some (some (.r 3))) (em : env[m]? = some (some (.d (.int (c : Int))))) (hk2 : k < env.length) (hl : gs.length + as.length ≤ 16000000) :
    ∃ gs' ns, compL (.one k) mYes (mMeth C_Board F_gate m_Board_gate [] (mVar 0) (mCons (mCst (.d (.str k4_and))) (mCons (mVar m) (mCons (mVar k) mNil)))) env (ri as) h = .ok (ri ns) (upB h w gs') ∧ gs <+: gs' ∧ WF w gs' ∧ gs'.length ≤ gs.length + as.length ∧ ns.length = as.length ∧ Ri w gs' ns fun xs => (fa xs).map (fc xs && ·) := by
  have f1 : getF F_gate (flds w) = none := rfl
  obtain ⟨gs', ns, ec, p, wf', l, nl, r⟩ := comp_B (k := k) (e := mMeth C_Board F_gate m_Board_gate [] (mVar 0) (mCons (mCst (.d (.str k4_and))) (mCons (mVar m) (mCons (mVar k) mNil)))) (env := env) (xs := ri as) B wf 1 (fun i xs => fc xs && (fa xs).getD i false) (fun i gs1 hi p1 wf1 l1 => by
    have hi2 : i < as.length := by simpa using hi
    have B1 := B.up (gs' := gs1)
    have q := gate_ok B1 wf1 .and (rc.ext p1) ((ra.wire hi2).ext p1) (by omega)
    rw [ri_get, meth_B B1 f1 (by rw [List.getElem?_set_ne hk]; exact e0) (xs := [.d (.str Op.and.word), .d (.int (c : Int)), .d (.int (as[i] : Int))])]
    · exact q
    · simp [fnOf, sSeq, sRet, sIf, sAsg, sExpr, sPar, startE, mVar, mCst, m1, m2, mB, mTruth, mNot, mAnd, mOr, mIf, mCons, mNil, mTup, mLst, mIdx_ap, mOp, mVal, asB, okB, okI, mkT, pures, fits, opEq, opNe, opLt, opLe, opGt, opGe, opAdd, opSub, tgName, setAll, getM, bInt, intsV, maxI, minI, hk2, List.getElem?_set_ne hm, em]
      rfl)
  rw [ri_len] at l nl r
  refine ⟨gs', ns, ec, p, wf', by omega, nl, r.imp fun xs hx => ?_⟩
  rw [← ra.len hx]
  exact range_map (fa xs) fun b => fc xs && b
abbrev prodBody : MS := sSeq (sAsg (mMeth C_Board F_doubled m_Board_doubled [] (mVar 0) (mCons (mOp bTuple (mCons (mComp wd (iVal (mVar 1)) (.one 8) mYes (mMeth C_Board F_gate m_Board_gate [] (mVar 0) (mCons (mCst (.d (.str k4_and))) (mCons (mVar 6) (mCons (mVar 8) mNil)))) [8]) mNil)) (mCons (mVar 5) mNil))) (tgName 7)) (sSeq (sIf (mB (m2 opLt (mVar 5) (m2 opSub (mOp bLen (mCons (mVar 2) mNil)) (mCst (.d (.int 1)))))) (sSeq (sAsg (mMeth C_Board F_summed m_Board_summed [] (mVar 0) (mCons (mVar 4) (mCons (mVar 7) (mCons (mVar 3) (mCons (mMeth C_Board F_constant m_Board_constant [] (mVar 0) (mCons (mCst (.d (.int 0))) mNil)) mNil))))) (tgName 4)) sNext) (sSeq (sAsg (mMeth C_Board F_less_by m_Board_less_by [] (mVar 0) (mCons (mVar 4) (mCons (mVar 7) (mCons (mVar 3) mNil)))) (tgName 4)) sNext)) sNext)
abbrev prodE (as bs : List Nat) (many : Nat) (fs : List Nat) (x5 x6 x7 x8 : Option Val) : Env' := [some (.r 3), some (.d (rl as)), some (.d (rl bs)), some (.d (.int (many : Int))), some (.d (rl fs)), x5, x6, x7, x8]
/-- one turn -/
theorem prod_step (B : Bd w gs h) {gs1 : List G} {j : EH} (hj : ∀ n, allLt n j = true) (wf : WF w gs1) {as bs fs : List Nat} {fa fb ff : List Bool → List Bool} {i many c : Nat} (ra : Ri w gs1 as fa) (rb : Ri w gs1 bs fb) (rf : Ri w gs1 fs ff) (hi : i < bs.length) (ha : as ≠ []) (em : many = as.length + bs.length) (lf : fs.length = many) (ec : c = 9 * many) (hm : many ≤ 1000000) (hl : gs1.length + c ≤ 16000000) (x5 x6 x7 x8 : Option Val) :
    ∃ gs2 j2 ns x7', ((tgTup 2 (tgCons (tgName 5) (tgCons (tgName 6) tgNil)) (mkT [.d (.int (i : Int)), .d (.int (bs[i] : Int))]) (prodE as bs many fs x5 x6 x7 x8) (upB h w gs1 ++ j)).run (prodE as bs many fs x5 x6 x7 x8) fun env1 h1 => prodBody env1 h1) = .nx (prodE as bs many ns (some (.d (.int (i : Int)))) (some (.d (.int (bs[i] : Int)))) x7' x8) (upB h w gs2 ++ j2) ∧ (∀ n, allLt n j2 = true) ∧ gs1 <+: gs2 ∧ WF w gs2 ∧ gs2.length ≤ gs1.length + c ∧ ns.length = many ∧
      Ri w gs2 ns fun xs => if i + 1 < (fb xs).length then sumB (ff xs) (partB (fa xs) i ((fb xs).getD i false)) false many else subB (ff xs) (partB (fa xs) i ((fb xs).getD i false)) many := by
  have f1 : getF F_doubled (flds w) = none := rfl
  have f2 : getF F_summed (flds w) = none := rfl
  have f3 : getF F_less_by (flds w) = none := rfl
  have f4 : getF F_constant (flds w) = none := rfl
  have la : 0 < as.length := List.length_pos_iff.mpr ha
  have fsn : fs ≠ [] := List.length_pos_iff.mp (by omega)
  have B1 := B.upj (gs' := gs1) hj
  obtain ⟨gs2, ns, ec2, p2, wf2, l2, nl2, r2⟩ := and_all B1 wf ra (rb.wire hi) (env := wipeE (prodE as bs many fs (some (.d (.int (i : Int)))) (some (.d (.int (bs[i] : Int)))) x7 x8) [8]) (k := 8) (m := 6) (by decide) (by decide) rfl rfl (by simp [fnOf, sSeq, sRet, sIf, sAsg, sExpr, sPar, startE, mVar, mCst, m1, m2, mB, mTruth, mNot, mAnd, mOr, mIf, mCons, mNil, mTup, mLst, mIdx_ap, mOp, mVal, asB, okB, okI, mkT, pures, fits, opEq, opNe, opLt, opLe, opGt, opGe, opAdd, opSub, tgName, setAll, getM, bInt, intsV, maxI, minI, wipeE]) (by omega)
  rw [upB_junk (by rw [upB_len]; exact B.l5), upB_upB] at ec2
  have es : iVal (mVar 1) (prodE as bs many fs (some (.d (.int (i : Int)))) (some (.d (.int (bs[i] : Int)))) x7 x8) (upB h w gs1 ++ j) = .ok (.seq (ri as)) (upB h w gs1 ++ j) := iVal_rl rfl
  have tc := tupComp es ec2 (by omega)
  have hj2 : ∀ n, allLt n (j ++ [.lst (ri ns)]) = true := fun n => all_app (hj n) (ri_all n ns)
  rw [List.append_assoc] at tc
  have B2 := B.upj (gs' := gs2) hj2
  obtain ⟨gs3, ps, g3, p3, wf3, l3, r3⟩ := Rt.jk B (doubled_ok B2 wf2 r2 (many := i) (by omega) (by omega) (by omega))
  have e3 : mCons (mOp bTuple (mCons (mComp wd (iVal (mVar 1)) (.one 8) mYes (mMeth C_Board F_gate m_Board_gate [] (mVar 0) (mCons (mCst (.d (.str k4_and))) (mCons (mVar 6) (mCons (mVar 8) mNil)))) [8]) mNil)) (mCons (mVar 5) mNil) (prodE as bs many fs (some (.d (.int (i : Int)))) (some (.d (.int (bs[i] : Int)))) x7 x8) (upB h w gs1 ++ j) = .ok [.d (rl ns), .d (.int (i : Int))] (upB h w gs2 ++ (j ++ [.lst (ri ns)])) := by
    simp [fnOf, sSeq, sRet, sIf, sAsg, sExpr, sPar, startE, mVar, mCst, m1, m2, mB, mTruth, mNot, mAnd, mOr, mIf, mCons, mNil, mTup, mLst, mIdx_ap, mOp, mVal, asB, okB, okI, mkT, pures, fits, opEq, opNe, opLt, opLe, opGt, opGe, opAdd, opSub, tgName, setAll, getM, bInt, intsV, maxI, minI] at tc
    simp [fnOf, sSeq, sRet, sIf, sAsg, sExpr, sPar, startE, mVar, mCst, m1, m2, mB, mTruth, mNot, mAnd, mOr, mIf, mCons, mNil, mTup, mLst, mIdx_ap, mOp, mVal, asB, okB, okI, mkT, pures, fits, opEq, opNe, opLt, opLe, opGt, opGe, opAdd, opSub, tgName, setAll, getM, bInt, intsV, maxI, minI, tc]
  have m3 := meth_ch B1 B2 (env := prodE as bs many fs (some (.d (.int (i : Int)))) (some (.d (.int (bs[i] : Int)))) x7 x8) f1 rfl g3 e3
  have lp : ps.length = i + as.length := by
    have z := r3.len0
    have z2 := ra.len0
    simp [fnOf, sSeq, sRet, sIf, sAsg, sExpr, sPar, startE, mVar, mCst, m1, m2, mB, mTruth, mNot, mAnd, mOr, mIf, mCons, mNil, mTup, mLst, mIdx_ap, mOp, mVal, asB, okB, okI, mkT, pures, fits, opEq, opNe, opLt, opLe, opGt, opGe, opAdd, opSub, tgName, setAll, getM, bInt, intsV, maxI, minI] at z
    omega
  have psn : ps ≠ [] := List.length_pos_iff.mp (by omega)
  have B3 := B.upj (gs' := gs3) hj2
  have rp : Ri w gs3 ps fun xs => partB (fa xs) i ((fb xs).getD i false) := r3
  by_cases last : i + 1 < bs.length
  · obtain ⟨gs4, n4, g4, p4, wf4, l4, w4⟩ := Rs.jk B (constant_ok B3 wf3 false (by omega))
    have B4 := B.upj (gs' := gs4) hj2
    obtain ⟨gs5, n5, g5, p5, wf5, l5, r5⟩ := Rt.jk B (summed_ok B4 wf4 ((((rf.ext p2).ext p3).ext p4)) (rp.ext p4) w4 fsn psn (by omega) (by omega) hm (by omega))
    have m4 := meth_ok B3 (ma := mCons (mCst (.d (.int 0))) mNil) (env := prodE as bs many fs (some (.d (.int (i : Int)))) (some (.d (.int (bs[i] : Int)))) (some (.d (rl ps))) x8) f4 rfl g4 rfl
    have e5 : mCons (mVar 4) (mCons (mVar 7) (mCons (mVar 3) (mCons (mMeth C_Board F_constant m_Board_constant [] (mVar 0) (mCons (mCst (.d (.int 0))) mNil)) mNil))) (prodE as bs many fs (some (.d (.int (i : Int)))) (some (.d (.int (bs[i] : Int)))) (some (.d (rl ps))) x8) (upB h w gs3 ++ (j ++ [.lst (ri ns)])) = .ok [.d (rl fs), .d (rl ps), .d (.int (many : Int)), .d (.int (n4 : Int))] (upB h w gs4 ++ (j ++ [.lst (ri ns)])) := by
      simp [fnOf, sSeq, sRet, sIf, sAsg, sExpr, sPar, startE, mVar, mCst, m1, m2, mB, mTruth, mNot, mAnd, mOr, mIf, mCons, mNil, mTup, mLst, mIdx_ap, mOp, mVal, asB, okB, okI, mkT, pures, fits, opEq, opNe, opLt, opLe, opGt, opGe, opAdd, opSub, tgName, setAll, getM, bInt, intsV, maxI, minI, m4]
    have m5 := meth_ch B3 B4 (env := prodE as bs many fs (some (.d (.int (i : Int)))) (some (.d (.int (bs[i] : Int)))) (some (.d (rl ps))) x8) f2 rfl g5 e5
    have lt : (i : Int) < (bs.length : Int) - 1 := by omega
    refine ⟨gs5, j ++ [.lst (ri ns)], n5, some (.d (rl ps)), ?_, hj2, ((p2.trans p3).trans p4).trans p5, wf5, by omega, ?_, r5.imp fun xs hx => ?_⟩
    · simp [fnOf, sSeq, sRet, sIf, sAsg, sExpr, sPar, startE, mVar, mCst, m1, m2, mB, mTruth, mNot, mAnd, mOr, mIf, mCons, mNil, mTup, mLst, mIdx_ap, mOp, mVal, asB, okB, okI, mkT, pures, fits, opEq, opNe, opLt, opLe, opGt, opGe, opAdd, opSub, tgName, setAll, getM, bInt, intsV, maxI, minI, tgTup, asT, tgCons, tgNil, m3, len_rl, lt, m5]
    · have z := r5.len0
      rw [← z]
      exact sumB_len (by have := rf.len0; omega) (by rw [partB_len]; have := ra.len0; omega)
    · rw [if_pos (by rw [rb.len hx]; exact last)]
      rfl
  · obtain ⟨gs5, n5, g5, p5, wf5, l5, r5⟩ := Rt.jk B (less_by_ok B3 wf3 ((rf.ext p2).ext p3) rp fsn psn (by omega) (by omega) hm (by omega))
    have m5 := meth_ok B3 (ma := mCons (mVar 4) (mCons (mVar 7) (mCons (mVar 3) mNil))) (env := prodE as bs many fs (some (.d (.int (i : Int)))) (some (.d (.int (bs[i] : Int)))) (some (.d (rl ps))) x8) f3 rfl g5 rfl
    have lt : ¬ (i : Int) < (bs.length : Int) - 1 := by omega
    refine ⟨gs5, j ++ [.lst (ri ns)], n5, some (.d (rl ps)), ?_, hj2, (p2.trans p3).trans p5, wf5, by omega, ?_, r5.imp fun xs hx => ?_⟩
    · simp [fnOf, sSeq, sRet, sIf, sAsg, sExpr, sPar, startE, mVar, mCst, m1, m2, mB, mTruth, mNot, mAnd, mOr, mIf, mCons, mNil, mTup, mLst, mIdx_ap, mOp, mVal, asB, okB, okI, mkT, pures, fits, opEq, opNe, opLt, opLe, opGt, opGe, opAdd, opSub, tgName, setAll, getM, bInt, intsV, maxI, minI, tgTup, asT, tgCons, tgNil, m3, len_rl, lt, m5]
    · have z := r5.len0
      rw [← z]
      exact subB_len (by have := rf.len0; omega) (by rw [partB_len]; have := ra.len0; omega)
    · rw [if_neg (by rw [rb.len hx]; exact last)]
end K73

set_option Elab.async false
set_option linter.all false
set_option maxRecDepth 100000
set_option maxHeartbeats 2000000
namespace K73
open Ev
variable {w : Nat} {gs : List G} {h : EH}
def prodB (a b : List Bool) : List Bool := prodS a b (a.length + b.length) b.length
theorem product_ok (B : Bd w gs h) (wf : WF w gs) {as bs : List Nat} {fa fb : List Bool → List Bool} (ra : Ri w gs as fa) (rb : Ri w gs bs fb) (ha : as ≠ []) (hb : bs ≠ []) {many cc : Nat} (em : many = as.length + bs.length) (hm : many ≤ 1000000) (ec : cc = many + bs.length * (9 * many)) (hl : gs.length + cc ≤ 16000000) :
    Rt w h gs cc (callFn m_Board_product [.r 3, .d (rl as), .d (rl bs)] h) fun xs => prodB (fa xs) (fb xs) := by
  have f1 : getF F_number (flds w) = none := rfl
  have la : 0 < as.length := List.length_pos_iff.mpr ha
  generalize eN : 9 * many = N at ec
  obtain ⟨gs0, z0, g0, p0, wf0, l0, r0⟩ := number_ok B wf 0 hm (by omega)
  have m0 := meth_ok B (ma := mCons (mCst (.d (.int 0))) (mCons (mVar 3) mNil)) (env := [some (.r 3), some (.d (rl as)), some (.d (rl bs)), some (.d (.int (many : Int))), none, none, none, none, none]) f1 rfl g0 rfl
  have lz : z0.length = many := by
    have z := r0.len0
    rw [bitsC_len] at z
    exact z.symm
  have es : iEnumA (mCons (mVar 2) mNil) (prodE as bs many z0 none none none none) (upB h w gs0) = .ok (.seq (numb 0 (ri bs))) (upB h w gs0) := by
    simp [fnOf, sSeq, sRet, sIf, sAsg, sExpr, sPar, startE, mVar, mCst, m1, m2, mB, mTruth, mNot, mAnd, mOr, mIf, mCons, mNil, mTup, mLst, mIdx_ap, mOp, mVal, asB, okB, okI, mkT, pures, fits, opEq, opNe, opLt, opLe, opGt, opGe, opAdd, opSub, tgName, setAll, getM, bInt, intsV, maxI, minI, iEnumA, asT_rl]
  have nl : (numb 0 (ri bs)).length = bs.length := by rw [numb_len, ri_len]
  have loop := loopL_inv (t := tgTup 2 (tgCons (tgName 5) (tgCons (tgName 6) tgNil))) (b := prodBody) (xs := numb 0 (ri bs))
    (fun i env h' => ∃ gs' j ns x5 x6 x7, env = prodE as bs many ns x5 x6 x7 none ∧ h' = upB h w gs' ++ j ∧ (∀ n, allLt n j = true) ∧ gs <+: gs' ∧ WF w gs' ∧ gs'.length ≤ gs.length + many + i * N ∧ ns.length = many ∧
      Ri w gs' ns (fun xs => prodS (fa xs) (fb xs) many i))
    (fun i env h' hi ⟨gs1, j, ns, x5, x6, x7, e1, e2, hj, p1, wf1, l1, ln, rn⟩ => by
      subst e1 e2
      rw [nl] at hi
      have lN : (i + 1) * N ≤ bs.length * N := Nat.mul_le_mul_right _ hi
      rw [Nat.succ_mul] at lN
      obtain ⟨gs2, j2, ns2, x7', e3, hj2, p2, wf2, l2, ln2, r2⟩ := prod_step B hj wf1 (ra.ext p1) (rb.ext p1) rn hi ha em ln eN.symm hm (by omega) x5 x6 x7 none
      rw [numb_get, ri_get]
      refine ⟨_, _, e3, gs2, j2, ns2, _, _, x7', rfl, rfl, hj2, p1.trans p2, wf2, by rw [Nat.succ_mul]; omega, ln2, r2.imp fun xs hx => rfl⟩)
    (env := prodE as bs many z0 none none none none) (h := upB h w gs0)
    ⟨gs0, [], z0, none, none, none, rfl, by simp [fnOf, sSeq, sRet, sIf, sAsg, sExpr, sPar, startE, mVar, mCst, m1, m2, mB, mTruth, mNot, mAnd, mOr, mIf, mCons, mNil, mTup, mLst, mIdx_ap, mOp, mVal, asB, okB, okI, mkT, pures, fits, opEq, opNe, opLt, opLe, opGt, opGe, opAdd, opSub, tgName, setAll, getM, bInt, intsV, maxI, minI], fun n => rfl, p0, wf0, by omega, lz, r0⟩
  obtain ⟨env', h', el, gs', j, ns, x5, x6, x7, e1, e2, hj, p, wf', l, ln, rn⟩ := loop
  subst e1 e2
  rw [nl] at l rn
  refine Rt.call B (ns := ns) (gs' := gs') (j := j) ?_ p wf' (by omega) (rn.imp fun xs hx => ?_)
  · show (b_Board_product (startE 9 [.r 3, .d (rl as), .d (rl bs)]) h).fn = _
    have sf := sFor_seq (w := wd) (t := tgTup 2 (tgCons (tgName 5) (tgCons (tgName 6) tgNil))) (b := prodBody) es
    rw [el] at sf
    have lm : ((as.length : Int) + (bs.length : Int)) = (many : Int) := by omega
    simp [fnOf, sSeq, sRet, sIf, sAsg, sExpr, sPar, startE, mVar, mCst, m1, m2, mB, mTruth, mNot, mAnd, mOr, mIf, mCons, mNil, mTup, mLst, mIdx_ap, mOp, mVal, asB, okB, okI, mkT, pures, fits, opEq, opNe, opLt, opLe, opGt, opGe, opAdd, opSub, tgName, setAll, getM, bInt, intsV, maxI, minI, b_Board_product, len_rl, lm, m0, sf]
  · show _ = prodB (fa xs) (fb xs)
    unfold prodB
    rw [ra.len hx, rb.len hx, em]
end K73

set_option Elab.async false
set_option linter.all false
set_option maxRecDepth 100000
set_option maxHeartbeats 2000000
namespace K73
open Ev
variable {w : Nat} {gs : List G} {h : EH}
def muxB (c : Bool) : List Bool → List Bool → List Bool
  | a :: r, b :: s => ((c && a) || (!c && b)) :: muxB c r s
  | _, _ => []
theorem muxB_snoc {c : Bool} : ∀ {as bs : List Bool} {a b : Bool}, as.length = bs.length → muxB c (as ++ [a]) (bs ++ [b]) = muxB c as bs ++ [(c && a) || (!c && b)]
  | [], [], _, _, _ => rfl
  | x :: r, y :: s, a, b, l => by
    simp only [List.cons_append, muxB]
    rw [muxB_snoc (by simpa using l)]
abbrev chE (c : Nat) (as bs : List Nat) (many L t : Nat) (x7 x8 : Option Val) : Env' := [some (.r 3), some (.d (.int (c : Int))), some (.d (rl as)), some (.d (rl bs)), some (.d (.int (many : Int))), some (.r L), some (.d (.int (t : Int))), x7, x8]
abbrev chArg : M (List Val) := mCons (mCst (.d (.str k5_or))) (mCons (mMeth C_Board F_gate m_Board_gate [] (mVar 0) (mCons (mCst (.d (.str k4_and))) (mCons (mVar 1) (mCons (mVar 7) mNil)))) (mCons (mMeth C_Board F_gate m_Board_gate [] (mVar 0) (mCons (mCst (.d (.str k4_and))) (mCons (mVar 6) (mCons (mVar 8) mNil)))) mNil))
abbrev chBody : MS := sSeq (sExpr (mBM 4 lAppend (mVar 5) (mCons (mMeth C_Board F_gate m_Board_gate [] (mVar 0) chArg) mNil))) sNext
theorem chosen_ok (B : Bd w gs h) (wf : WF w gs) {as bs : List Nat} {c many : Nat} {fa fb : List Bool → List Bool} {fc : List Bool → Bool} (ra : Ri w gs as fa) (rb : Ri w gs bs fb) (rc : Wi w gs c fc) (ha : as ≠ []) (hb : bs ≠ []) (em : many = max as.length bs.length) (hm : many ≤ 1000000) (hl : gs.length + 4 * many ≤ 16000000) :
    Rt w h gs (4 * many) (callFn m_Board_chosen [.r 3, .d (.int (c : Int)), .d (rl as), .d (rl bs)] h) fun xs => muxB (fc xs) (stretchB (fa xs) many) (stretchB (fb xs) many) := by
  have f1 : getF F_stretched (flds w) = none := rfl
  have f2 : getF F_gate (flds w) = none := rfl
  have f3 : getF F_turned (flds w) = none := rfl
  have la0 : 0 < as.length := List.length_pos_iff.mpr ha
  have j0 : ∀ n, allLt n [.lst (ri [])] = true := fun n => ri_all n []
  have B0 := B.upj (gs' := gs) j0
  obtain ⟨gs0, t, g0, p0, wf0, l0, wt⟩ := Rs.jk B (turned_ok B0 wf rc (by omega))
  have B1 := B.upj (gs' := gs0) j0
  have sa := (ra.ext p0).stretch ha many
  have sb := (rb.ext p0).stretch hb many
  have nla : (stretchN as many).length = many := by rw [stretchN_len]; omega
  have nlb : (stretchN bs many).length = many := by rw [stretchN_len]; omega
  have m0 := meth_ok B0 (ma := mCons (mVar 1) mNil) (env := [some (.r 3), some (.d (.int (c : Int))), some (.d (rl as)), some (.d (rl bs)), none, none, none, none, none]) f3 rfl g0 rfl
  rw [B.same] at m0
  have es : iZip (mCons (mMeth C_Board F_stretched m_Board_stretched [] (mVar 0) (mCons (mVar 2) (mCons (mVar 4) mNil))) (mCons (mMeth C_Board F_stretched m_Board_stretched [] (mVar 0) (mCons (mVar 3) (mCons (mVar 4) mNil))) mNil)) (chE c as bs many h.length t none none) (upB h w gs0 ++ [.lst (ri [])]) = .ok (.seq (((stretchN as many).zip (stretchN bs many)).map fun p => .d (.tup true [.int (p.1 : Int), .int (p.2 : Int)]))) (upB h w gs0 ++ [.lst (ri [])]) := by
    have s1 := stretched_ok B1 ha hm (by omega : as.length ≤ 1000000)
    have s2 := stretched_ok B1 hb hm (by omega : bs.length ≤ 1000000)
    have m1 := meth_ok B1 (ma := mCons (mVar 2) (mCons (mVar 4) mNil)) (env := chE c as bs many h.length t none none) f1 rfl s1 rfl
    have m2 := meth_ok B1 (ma := mCons (mVar 3) (mCons (mVar 4) mNil)) (env := chE c as bs many h.length t none none) f1 rfl s2 rfl
    have z : ∀ (p q : List Nat), ((ri p).zip (ri q)).map (fun p => mkT [p.1, p.2]) = (p.zip q).map fun p => .d (.tup true [.int (p.1 : Int), .int (p.2 : Int)]) := by
      intro p
      induction p with
      | nil => intro q; rfl
      | cons a r ih =>
        intro q
        cases q with
        | nil => rfl
        | cons b s =>
          show mkT [.d (.int (a : Int)), .d (.int (b : Int))] :: _ = _ :: _
          exact List.cons_eq_cons.mpr ⟨rfl, ih s⟩
    unfold iZip
    simp only [mCons, m1, m2, bind_mk, mNil, asT_rl, z]
  generalize stretchN as many = as' at sa nla es
  generalize stretchN bs many = bs' at sb nlb es
  have loop := loopL_inv (t := tgTup 2 (tgCons (tgName 7) (tgCons (tgName 8) tgNil))) (b := chBody) (xs := (as'.zip bs').map fun p => .d (.tup true [.int (p.1 : Int), .int (p.2 : Int)]))
    (fun i env h' => ∃ gs' ns x7 x8, env = chE c as bs many h.length t x7 x8 ∧ h' = upB h w gs' ++ [.lst (ri ns)] ∧ gs0 <+: gs' ∧ WF w gs' ∧ gs'.length ≤ gs0.length + i * 3 ∧ ns.length = i ∧
      Ri w gs' ns (fun xs => muxB (fc xs) ((stretchB (fa xs) many).take i) ((stretchB (fb xs) many).take i)))
    (fun i env h' hi ⟨gs1, ns, x7, x8, e1, e2, p1, wf1, l1, nl, rn⟩ => by
      subst e1 e2
      have hi2 : i < as'.length ∧ i < bs'.length := by simp [fnOf, sSeq, sRet, sIf, sAsg, sExpr, sPar, startE, mVar, mCst, m1, m2, mB, mTruth, mNot, mAnd, mOr, mIf, mCons, mNil, mTup, mLst, mIdx_ap, mOp, mVal, asB, okB, okI, mkT, pures, fits, opEq, opNe, opLt, opLe, opGt, opGe, opAdd, opSub, tgName, setAll, getM, bInt, intsV, maxI, minI] at hi; omega
      have wa := (sa.wire hi2.1).ext p1
      have wb := (sb.wire hi2.2).ext p1
      have wc := (rc.ext p0).ext p1
      have wn := wt.ext p1
      have jj : ∀ n, allLt n [.lst (ri ns)] = true := fun n => ri_all n ns
      obtain ⟨gs2, n2, g2, p2, wf2, l2, w2⟩ := Rs.jk B (gate_ok (B.upj (gs' := gs1) jj) wf1 .and wc wa (by omega))
      obtain ⟨gs3, n3, g3, p3, wf3, l3, w3⟩ := Rs.jk B (gate_ok (B.upj (gs' := gs2) jj) wf2 .and (wn.ext p2) (wb.ext p2) (by omega))
      obtain ⟨gs4, n4, g4, p4, wf4, l4, w4⟩ := Rs.jk B (gate_ok (B.upj (gs' := gs3) jj) wf3 .or (w2.ext p3) w3 (by omega))
      rw [List.getElem_map, List.getElem_zip]
      have b4 := tyNo_at (upB h w gs1) (ri ns)
      rw [upB_len] at b4
      have m2 := meth_ok (B.upj (gs' := gs1) jj) (ma := mCons (mCst (.d (.str k4_and))) (mCons (mVar 1) (mCons (mVar 7) mNil))) (env := chE c as bs many h.length t (some (.d (.int (as'[i] : Int)))) (some (.d (.int (bs'[i] : Int))))) f2 rfl g2 rfl
      have m3 := meth_ok (B.upj (gs' := gs2) jj) (ma := mCons (mCst (.d (.str k4_and))) (mCons (mVar 6) (mCons (mVar 8) mNil))) (env := chE c as bs many h.length t (some (.d (.int (as'[i] : Int)))) (some (.d (.int (bs'[i] : Int))))) f2 rfl g3 rfl
      have e4 : chArg (chE c as bs many h.length t (some (.d (.int (as'[i] : Int)))) (some (.d (.int (bs'[i] : Int))))) (upB h w gs1 ++ [.lst (ri ns)]) = .ok [.d (.str Op.or.word), .d (.int (n2 : Int)), .d (.int (n3 : Int))] (upB h w gs3 ++ [.lst (ri ns)]) := by
        simp [fnOf, sSeq, sRet, sIf, sAsg, sExpr, sPar, startE, mVar, mCst, m1, m2, mB, mTruth, mNot, mAnd, mOr, mIf, mCons, mNil, mTup, mLst, mIdx_ap, mOp, mVal, asB, okB, okI, mkT, pures, fits, opEq, opNe, opLt, opLe, opGt, opGe, opAdd, opSub, tgName, setAll, getM, bInt, intsV, maxI, minI, m2, m3]
        rfl
      have m4 := meth_ch (B.upj (gs' := gs1) jj) (B.upj (gs' := gs3) jj) (env := chE c as bs many h.length t (some (.d (.int (as'[i] : Int)))) (some (.d (.int (bs'[i] : Int))))) f2 rfl g4 e4
      have ap : mBM 4 lAppend (mVar 5) (mCons (mMeth C_Board F_gate m_Board_gate [] (mVar 0) chArg) mNil) (chE c as bs many h.length t (some (.d (.int (as'[i] : Int)))) (some (.d (.int (bs'[i] : Int))))) (upB h w gs1 ++ [.lst (ri ns)]) = .ok (.d .non) (upB h w gs4 ++ [.lst (ri (ns ++ [n4]))]) := by
        have q := mBM_ap (mo := mVar 5) (ma := mCons (mMeth C_Board F_gate m_Board_gate [] (mVar 0) chArg) mNil) (env := chE c as bs many h.length t (some (.d (.int (as'[i] : Int)))) (some (.d (.int (bs'[i] : Int))))) (h1 := upB h w gs1 ++ [.lst (ri ns)]) (h := upB h w gs4) (h0 := []) (xs := ri ns) (y := .d (.int (n4 : Int))) (by rw [upB_len]; rfl) (by rw [upB_len]; exact b4) (by
          show ((mMeth C_Board F_gate m_Board_gate [] (mVar 0) chArg (chE c as bs many h.length t (some (.d (.int (as'[i] : Int)))) (some (.d (.int (bs'[i] : Int))))) (upB h w gs1 ++ [.lst (ri ns)])).bind fun x h1 => (mNil (chE c as bs many h.length t (some (.d (.int (as'[i] : Int)))) (some (.d (.int (bs'[i] : Int))))) h1).bind fun xs h2 => .ok (x :: xs) h2) = _
          rw [m4]
          rfl) (by simp [fnOf, sSeq, sRet, sIf, sAsg, sExpr, sPar, startE, mVar, mCst, m1, m2, mB, mTruth, mNot, mAnd, mOr, mIf, mCons, mNil, mTup, mLst, mIdx_ap, mOp, mVal, asB, okB, okI, mkT, pures, fits, opEq, opNe, opLt, opLe, opGt, opGe, opAdd, opSub, tgName, setAll, getM, bInt, intsV, maxI, minI]; omega)
        rw [q]
        simp [fnOf, sSeq, sRet, sIf, sAsg, sExpr, sPar, startE, mVar, mCst, m1, m2, mB, mTruth, mNot, mAnd, mOr, mIf, mCons, mNil, mTup, mLst, mIdx_ap, mOp, mVal, asB, okB, okI, mkT, pures, fits, opEq, opNe, opLt, opLe, opGt, opGe, opAdd, opSub, tgName, setAll, getM, bInt, intsV, maxI, minI, ri]
      refine ⟨chE c as bs many h.length t (some (.d (.int (as'[i] : Int)))) (some (.d (.int (bs'[i] : Int)))), upB h w gs4 ++ [.lst (ri (ns ++ [n4]))], ?_, gs4, ns ++ [n4], _, _, rfl, rfl, ((p1.trans p2).trans p3).trans p4, wf4, by omega, by simp [fnOf, sSeq, sRet, sIf, sAsg, sExpr, sPar, startE, mVar, mCst, m1, m2, mB, mTruth, mNot, mAnd, mOr, mIf, mCons, mNil, mTup, mLst, mIdx_ap, mOp, mVal, asB, okB, okI, mkT, pures, fits, opEq, opNe, opLt, opLe, opGt, opGe, opAdd, opSub, tgName, setAll, getM, bInt, intsV, maxI, minI, nl], ?_⟩
      · have tg : tgTup 2 (tgCons (tgName 7) (tgCons (tgName 8) tgNil)) (.d (.tup true [.int (as'[i] : Int), .int (bs'[i] : Int)])) (chE c as bs many h.length t x7 x8) (upB h w gs1 ++ [.lst (ri ns)]) = .ok (chE c as bs many h.length t (some (.d (.int (as'[i] : Int)))) (some (.d (.int (bs'[i] : Int))))) (upB h w gs1 ++ [.lst (ri ns)]) := rfl
        rw [tg, run_ok]
        show ((mBM 4 lAppend (mVar 5) (mCons (mMeth C_Board F_gate m_Board_gate [] (mVar 0) chArg) mNil) (chE c as bs many h.length t (some (.d (.int (as'[i] : Int)))) (some (.d (.int (bs'[i] : Int))))) (upB h w gs1 ++ [.lst (ri ns)])).run _ fun _ h1 => RS.nx _ h1).bind sNext = _
        rw [ap]
        rfl
      · refine ((rn.ext ((p2.trans p3).trans p4)).snoc w4).imp fun xs hx => ?_
        have la' := sa.len hx
        have lb' := sb.len hx
        rw [take_snoc (by omega), take_snoc (by omega), muxB_snoc (by simp [fnOf, sSeq, sRet, sIf, sAsg, sExpr, sPar, startE, mVar, mCst, m1, m2, mB, mTruth, mNot, mAnd, mOr, mIf, mCons, mNil, mTup, mLst, mIdx_ap, mOp, mVal, asB, okB, okI, mkT, pures, fits, opEq, opNe, opLt, opLe, opGt, opGe, opAdd, opSub, tgName, setAll, getM, bInt, intsV, maxI, minI]; omega)]
        rfl)
    (env := chE c as bs many h.length t none none) (h := upB h w gs0 ++ [.lst (ri [])])
    ⟨gs0, [], none, none, rfl, rfl, List.prefix_refl _, wf0, by simp [fnOf, sSeq, sRet, sIf, sAsg, sExpr, sPar, startE, mVar, mCst, m1, m2, mB, mTruth, mNot, mAnd, mOr, mIf, mCons, mNil, mTup, mLst, mIdx_ap, mOp, mVal, asB, okB, okI, mkT, pures, fits, opEq, opNe, opLt, opLe, opGt, opGe, opAdd, opSub, tgName, setAll, getM, bInt, intsV, maxI, minI], rfl, Ri.nil⟩
  obtain ⟨env', h', el, gs', ns, x7, x8, e1, e2, p, wf', l, nl, rn⟩ := loop
  subst e1 e2
  have nz : ((as'.zip bs').map fun (p : Nat × Nat) => Val.d (.tup true [.int (p.1 : Int), .int (p.2 : Int)])).length = many := by simp [fnOf, sSeq, sRet, sIf, sAsg, sExpr, sPar, startE, mVar, mCst, m1, m2, mB, mTruth, mNot, mAnd, mOr, mIf, mCons, mNil, mTup, mLst, mIdx_ap, mOp, mVal, asB, okB, okI, mkT, pures, fits, opEq, opNe, opLt, opLe, opGt, opGe, opAdd, opSub, tgName, setAll, getM, bInt, intsV, maxI, minI]; omega
  rw [nz] at l nl rn
  have rn := rn.imp (g := fun xs => muxB (fc xs) (stretchB (fa xs) many) (stretchB (fb xs) many)) fun xs hx => by
    rw [List.take_of_length_le (by rw [sa.len hx]; omega), List.take_of_length_le (by rw [sb.len hx]; omega)]
  refine Rt.call B (ns := ns) (gs' := gs') (j := [.lst (ri ns)]) ?_ (p0.trans p) wf' (by omega) rn
  show (b_Board_chosen (startE 9 [.r 3, .d (.int (c : Int)), .d (rl as), .d (rl bs)]) h).fn = _
  have bt := bTuple_new (upB h w gs') ns (by omega)
  rw [upB_len] at bt
  have sf := sFor_seq (w := wd) (t := tgTup 2 (tgCons (tgName 7) (tgCons (tgName 8) tgNil))) (b := chBody) es
  rw [el] at sf
  have n0 : newL [] h = .ok (.r h.length) (h ++ [.lst (ri [])]) := newL_ok (by simp [fnOf, sSeq, sRet, sIf, sAsg, sExpr, sPar, startE, mVar, mCst, m1, m2, mB, mTruth, mNot, mAnd, mOr, mIf, mCons, mNil, mTup, mLst, mIdx_ap, mOp, mVal, asB, okB, okI, mkT, pures, fits, opEq, opNe, opLt, opLe, opGt, opGe, opAdd, opSub, tgName, setAll, getM, bInt, intsV, maxI, minI])
  have mx : bMax [.d (.int (as.length : Int)), .d (.int (bs.length : Int))] h = .ok (.d (.int (many : Int))) h := by rw [bMax_2, em]; rfl
  simp [fnOf, sSeq, sRet, sIf, sAsg, sExpr, sPar, startE, mVar, mCst, m1, m2, mB, mTruth, mNot, mAnd, mOr, mIf, mCons, mNil, mTup, mLst, mIdx_ap, mOp, mVal, asB, okB, okI, mkT, pures, fits, opEq, opNe, opLt, opLe, opGt, opGe, opAdd, opSub, tgName, setAll, getM, bInt, intsV, maxI, minI, b_Board_chosen, len_rl, mx, n0, m0, sf, bt]
end K73

set_option Elab.async false
set_option linter.all false
set_option maxRecDepth 100000
set_option maxHeartbeats 2000000
namespace K73
open Ev
variable {w : Nat} {gs : List G} {h : EH}
theorem mCons_ok {a : M Val} {r : M (List Val)} {env : Env'} {h h1 h2 : EH} {x : Val} {xs : List Val} (ea : a env h = .ok x h1) (er : r env h1 = .ok xs h2) : mCons a r env h = .ok (x :: xs) h2 := by
  unfold mCons
  rw [ea, bind_mk, er, bind_mk]
def wideB (bs : List Bool) (wi : Nat) : Bool := (bs.drop wi).any (· ^^ bs.getD (wi - 1) false)
theorem any_snoc (l : List Bool) (b : Bool) (f : Bool → Bool) : (l ++ [b]).any f = (l.any f || f b) := by simp [fnOf, sSeq, sRet, sIf, sAsg, sExpr, sPar, startE, mVar, mCst, m1, m2, mB, mTruth, mNot, mAnd, mOr, mIf, mCons, mNil, mTup, mLst, mIdx_ap, mOp, mVal, asB, okB, okI, mkT, pures, fits, opEq, opNe, opLt, opLe, opGt, opGe, opAdd, opSub, tgName, setAll, getM, bInt, intsV, maxI, minI]
abbrev wdE (ns : List Nat) (wi n : Nat) (x4 : Option Val) : Env' := [some (.r 3), some (.d (rl ns)), some (.d (.int (wi : Int))), some (.d (.int (n : Int))), x4]
abbrev wdIn : M (List Val) := mCons (mCst (.d (.str k3_xor))) (mCons (mVar 4) (mCons (mIdx (mVar 1) (m2 opSub (mVar 2) (mCst (.d (.int 1))))) mNil))
abbrev wdArg : M (List Val) := mCons (mCst (.d (.str k5_or))) (mCons (mVar 3) (mCons (mMeth C_Board F_gate m_Board_gate [] (mVar 0) wdIn) mNil))
theorem idx_rl {ns : List Nat} {i : Nat} (hi : i < ns.length) (h : EH) : opIdx (.d (rl ns)) (.d (.int (i : Int))) h = .ok (.d (.int (ns[i] : Int))) h := by
  have e : atV (ri ns) (i : Int) = some (.d (.int (ns[i] : Int))) := by
    have q : L2.ixN (ri ns).length (i : Int) = some i := by
      unfold L2.ixN
      rw [if_pos (by omega), if_pos (by simp [fnOf, sSeq, sRet, sIf, sAsg, sExpr, sPar, startE, mVar, mCst, m1, m2, mB, mTruth, mNot, mAnd, mOr, mIf, mCons, mNil, mTup, mLst, mIdx_ap, mOp, mVal, asB, okB, okI, mkT, pures, fits, opEq, opNe, opLt, opLe, opGt, opGe, opAdd, opSub, tgName, setAll, getM, bInt, intsV, maxI, minI]; omega)]
      rfl
    unfold atV
    rw [q]
    show (ri ns)[i]? = _
    simp [fnOf, sSeq, sRet, sIf, sAsg, sExpr, sPar, startE, mVar, mCst, m1, m2, mB, mTruth, mNot, mAnd, mOr, mIf, mCons, mNil, mTup, mLst, mIdx_ap, mOp, mVal, asB, okB, okI, mkT, pures, fits, opEq, opNe, opLt, opLe, opGt, opGe, opAdd, opSub, tgName, setAll, getM, bInt, intsV, maxI, minI, ri, hi]
  show opIdx (.d (.tup true (ns.map fun (n : Nat) => .int (n : Int)))) (.d (.int (i : Int))) h = _
  rw [opIdx_tup, show (ns.map fun (n : Nat) => D.int (n : Int)).map Val.d = ri ns by simp [fnOf, sSeq, sRet, sIf, sAsg, sExpr, sPar, startE, mVar, mCst, m1, m2, mB, mTruth, mNot, mAnd, mOr, mIf, mCons, mNil, mTup, mLst, mIdx_ap, mOp, mVal, asB, okB, okI, mkT, pures, fits, opEq, opNe, opLt, opLe, opGt, opGe, opAdd, opSub, tgName, setAll, getM, bInt, intsV, maxI, minI, ri], e]
theorem is_wide_ok (B : Bd w gs h) (wf : WF w gs) {ns : List Nat} {wi : Nat} {f : List Bool → List Bool} (r : Ri w gs ns f) (hw : 0 < wi) (hn : ns.length ≤ 1000000) (hl : gs.length + 2 * ns.length + 1 ≤ 16000000) :
    Rs w h gs (2 * ns.length + 1) (callFn m_Board_is_wide [.r 3, .d (rl ns), .d (.int (wi : Int))] h) fun gs' n => Wi w gs' n fun xs => wideB (f xs) wi := by
  have f2 : getF F_gate (flds w) = none := rfl
  have f3 : getF F_constant (flds w) = none := rfl
  obtain ⟨gs0, n0, g0, p0, wf0, l0, w0⟩ := constant_ok B wf false (by omega)
  have m0 := meth_ok B (ma := mCons (mCst (.d (.int 0))) mNil) (env := [some (.r 3), some (.d (rl ns)), some (.d (.int (wi : Int))), none, none]) f3 rfl g0 rfl
  have sl : mSlice (mVar 1) (mPart (some (mVar 2))) (mPart none) (wdE ns wi n0 none) (upB h w gs0) = .ok (.d (rl (ns.drop wi))) (upB h w gs0) := by
    have s := slice_rl ns (some (wi : Int)) none (upB h w gs0) (by omega) (cut_from ns wi)
    simp [fnOf, sSeq, sRet, sIf, sAsg, sExpr, sPar, startE, mVar, mCst, m1, m2, mB, mTruth, mNot, mAnd, mOr, mIf, mCons, mNil, mTup, mLst, mIdx_ap, mOp, mVal, asB, okB, okI, mkT, pures, fits, opEq, opNe, opLt, opLe, opGt, opGe, opAdd, opSub, tgName, setAll, getM, bInt, intsV, maxI, minI, mSlice, mPart, s]
  have es : iVal (mSlice (mVar 1) (mPart (some (mVar 2))) (mPart none)) (wdE ns wi n0 none) (upB h w gs0) = .ok (.seq (ri (ns.drop wi))) (upB h w gs0) := iVal_rl sl
  have loop := loopL_inv (t := tgName 4) (b := sSeq (sAsg (mMeth C_Board F_gate m_Board_gate [] (mVar 0) wdArg) (tgName 3)) sNext) (xs := ri (ns.drop wi))
    (fun i env h' => ∃ gs' n x4, env = wdE ns wi n x4 ∧ h' = upB h w gs' ∧ gs0 <+: gs' ∧ WF w gs' ∧ gs'.length ≤ gs0.length + i * 2 ∧
      Wi w gs' n (fun xs => (((f xs).drop wi).take i).any (· ^^ (f xs).getD (wi - 1) false)))
    (fun i env h' hi ⟨gs1, n1, x4, e1, e2, p1, wf1, l1, w1⟩ => by
      subst e1 e2
      rw [ri_len] at hi
      have hi2 : i < (ns.drop wi).length := hi
      have hi3 : wi - 1 < ns.length := by simp [fnOf, sSeq, sRet, sIf, sAsg, sExpr, sPar, startE, mVar, mCst, m1, m2, mB, mTruth, mNot, mAnd, mOr, mIf, mCons, mNil, mTup, mLst, mIdx_ap, mOp, mVal, asB, okB, okI, mkT, pures, fits, opEq, opNe, opLt, opLe, opGt, opGe, opAdd, opSub, tgName, setAll, getM, bInt, intsV, maxI, minI] at hi; omega
      have hi4 : i < ns.length - wi := by simp [fnOf, sSeq, sRet, sIf, sAsg, sExpr, sPar, startE, mVar, mCst, m1, m2, mB, mTruth, mNot, mAnd, mOr, mIf, mCons, mNil, mTup, mLst, mIdx_ap, mOp, mVal, asB, okB, okI, mkT, pures, fits, opEq, opNe, opLt, opLe, opGt, opGe, opAdd, opSub, tgName, setAll, getM, bInt, intsV, maxI, minI] at hi; omega
      have r1 := (r.ext p0).ext p1
      have wa := (r1.drop wi).wire hi2
      have wb := r1.wire hi3
      obtain ⟨gs2, n2, g2, p2, wf2, l2, w2⟩ := gate_ok (B.up (gs' := gs1)) wf1 .xor wa wb (by omega)
      rw [upB_upB] at g2
      obtain ⟨gs3, n3, g3, p3, wf3, l3, w3⟩ := gate_ok (B.up (gs' := gs2)) wf2 .or (w1.ext p2) w2 (by omega)
      rw [upB_upB] at g3
      have ei : wdIn (wdE ns wi n1 (some (.d (.int ((ns.drop wi)[i] : Int))))) (upB h w gs1) = .ok [.d (.str Op.xor.word), .d (.int ((ns.drop wi)[i] : Int)), .d (.int (ns[wi - 1] : Int))] (upB h w gs1) := by
        have ix := idx_rl hi3 (upB h w gs1)
        have ew : (wi : Int) - 1 = ((wi - 1 : Nat) : Int) := by omega
        simp [fnOf, sSeq, sRet, sIf, sAsg, sExpr, sPar, startE, mVar, mCst, m1, m2, mB, mTruth, mNot, mAnd, mOr, mIf, mCons, mNil, mTup, mLst, mIdx_ap, mOp, mVal, asB, okB, okI, mkT, pures, fits, opEq, opNe, opLt, opLe, opGt, opGe, opAdd, opSub, tgName, setAll, getM, bInt, intsV, maxI, minI, ew, ix]
        rfl
      have m2 := meth_ok (B.up (gs' := gs1)) (env := wdE ns wi n1 (some (.d (.int ((ns.drop wi)[i] : Int))))) f2 rfl g2 ei
      have e3 : wdArg (wdE ns wi n1 (some (.d (.int ((ns.drop wi)[i] : Int))))) (upB h w gs1) = .ok [.d (.str Op.or.word), .d (.int (n1 : Int)), .d (.int (n2 : Int))] (upB h w gs2) := by
        exact mCons_ok (x := .d (.str Op.or.word)) rfl (mCons_ok (x := .d (.int (n1 : Int))) rfl (mCons_ok m2 rfl))
      have m3 := meth_ch (B.up (gs' := gs1)) (B.up (gs' := gs2)) (env := wdE ns wi n1 (some (.d (.int ((ns.drop wi)[i] : Int))))) f2 rfl g3 e3
      refine ⟨wdE ns wi n3 (some (.d (.int ((ns.drop wi)[i] : Int)))), upB h w gs3, ?_, gs3, n3, _, rfl, rfl, (p1.trans p2).trans p3, wf3, by omega, w3.1, fun xs hx => ?_⟩
      · rw [ri_get]
        show ((mMeth C_Board F_gate m_Board_gate [] (mVar 0) wdArg (wdE ns wi n1 (some (.d (.int ((ns.drop wi)[i] : Int))))) (upB h w gs1)).run _ fun x h1 => (tgName 3 x (wdE ns wi n1 (some (.d (.int ((ns.drop wi)[i] : Int))))) h1).run _ fun env2 h2 => RS.nx env2 h2).bind sNext = _
        rw [m3]
        rfl
      · have ld := (r1.drop wi).len hx
        rw [w3.2 xs hx]
        show _ = (((f xs).drop wi).take (i + 1)).any (· ^^ (f xs).getD (wi - 1) false)
        rw [take_snoc (by omega), any_snoc]
        rfl)
    (env := wdE ns wi n0 none) (h := upB h w gs0)
    ⟨gs0, n0, none, rfl, rfl, List.prefix_refl _, wf0, by simp [fnOf, sSeq, sRet, sIf, sAsg, sExpr, sPar, startE, mVar, mCst, m1, m2, mB, mTruth, mNot, mAnd, mOr, mIf, mCons, mNil, mTup, mLst, mIdx_ap, mOp, mVal, asB, okB, okI, mkT, pures, fits, opEq, opNe, opLt, opLe, opGt, opGe, opAdd, opSub, tgName, setAll, getM, bInt, intsV, maxI, minI], w0⟩
  obtain ⟨env', h', el, gs', n, x4, e1, e2, p, wf', l, wn⟩ := loop
  subst e1 e2
  have ll : (ri (ns.drop wi)).length ≤ ns.length := by simp [fnOf, sSeq, sRet, sIf, sAsg, sExpr, sPar, startE, mVar, mCst, m1, m2, mB, mTruth, mNot, mAnd, mOr, mIf, mCons, mNil, mTup, mLst, mIdx_ap, mOp, mVal, asB, okB, okI, mkT, pures, fits, opEq, opNe, opLt, opLe, opGt, opGe, opAdd, opSub, tgName, setAll, getM, bInt, intsV, maxI, minI]
  have key : m_Board_is_wide (.r 3 :: [.d (rl ns), .d (.int (wi : Int))]) h = .ok (.d (.int (n : Int))) (upB h w gs' ++ []) := by
    show (b_Board_is_wide (startE 5 [.r 3, .d (rl ns), .d (.int (wi : Int))]) h).fn = _
    have sf := sFor_seq (w := wd) (t := tgName 4) (b := sSeq (sAsg (mMeth C_Board F_gate m_Board_gate [] (mVar 0) wdArg) (tgName 3)) sNext) es
    rw [el] at sf
    simp [fnOf, sSeq, sRet, sIf, sAsg, sExpr, sPar, startE, mVar, mCst, m1, m2, mB, mTruth, mNot, mAnd, mOr, mIf, mCons, mNil, mTup, mLst, mIdx_ap, mOp, mVal, asB, okB, okI, mkT, pures, fits, opEq, opNe, opLt, opLe, opGt, opGe, opAdd, opSub, tgName, setAll, getM, bInt, intsV, maxI, minI, b_Board_is_wide, m0, sf]
  refine ⟨gs', n, callB B key rfl, p0.trans p, wf', by omega, wn.1, fun xs hx => ?_⟩
  rw [wn.2 xs hx]
  show (((f xs).drop wi).take (ri (ns.drop wi)).length).any (· ^^ (f xs).getD (wi - 1) false) = wideB (f xs) wi
  rw [List.take_of_length_le (by have := r.len hx; simp [fnOf, sSeq, sRet, sIf, sAsg, sExpr, sPar, startE, mVar, mCst, m1, m2, mB, mTruth, mNot, mAnd, mOr, mIf, mCons, mNil, mTup, mLst, mIdx_ap, mOp, mVal, asB, okB, okI, mkT, pures, fits, opEq, opNe, opLt, opLe, opGt, opGe, opAdd, opSub, tgName, setAll, getM, bInt, intsV, maxI, minI]; omega)]
  rfl
end K73

set_option Elab.async false
set_option linter.all false
set_option maxRecDepth 100000
set_option maxHeartbeats 1000000
namespace K73
/-! ### two's complement -/
def ib (b : Bool) : Int := if b then 1 else 0
def uv : List Bool → Int
  | [] => 0
  | b :: r => ib b + 2 * uv r
def tc (bs : List Bool) : Int := uv bs - ib (lastB bs) * 2 ^ bs.length
theorem ib_b (b : Bool) : ib b = 0 ∨ ib b = 1 := by cases b <;> simp [ib]
theorem p2 (n : Nat) : (0 : Int) < 2 ^ n := Int.pow_pos (by decide)
theorem p2s (n : Nat) : (2 : Int) ^ (n + 1) = 2 * 2 ^ n := by rw [Int.pow_succ]; omega
theorem p2m {a b : Nat} (h : a ≤ b) : (2 : Int) ^ a ≤ 2 ^ b := by
  induction h with
  | refl => exact Int.le_refl _
  | step h ih => rw [p2s]; have := p2 a; omega
theorem uv_app (a b : List Bool) : uv (a ++ b) = uv a + 2 ^ a.length * uv b := by
  induction a with
  | nil => simp [uv]
  | cons x r ih =>
    simp only [List.cons_append, uv, List.length_cons]
    rw [ih, p2s, Int.mul_add, ← Int.mul_assoc]
    omega
theorem uv_snoc (a : List Bool) (b : Bool) : uv (a ++ [b]) = uv a + ib b * 2 ^ a.length := by
  rw [uv_app, Int.mul_comm]
  simp [uv]
theorem uv_bd (a : List Bool) : 0 ≤ uv a ∧ uv a < 2 ^ a.length := by
  induction a with
  | nil => simp [uv]
  | cons x r ih =>
    simp only [uv, List.length_cons]
    rw [p2s]
    have := ib_b x
    omega
theorem last_snoc (a : List Bool) (b : Bool) : lastB (a ++ [b]) = b := by simp [lastB, List.getD_eq_getElem?_getD]
theorem snoc_of {a : List Bool} (h : a ≠ []) : ∃ r b, a = r ++ [b] := ⟨a.dropLast, a.getLast h, (List.dropLast_concat_getLast h).symm⟩
theorem tc_snoc (a : List Bool) (b : Bool) : tc (a ++ [b]) = uv a - ib b * 2 ^ a.length := by
  unfold tc
  rw [uv_snoc, last_snoc, List.length_append, List.length_singleton, p2s]
  have : ib b * (2 * 2 ^ a.length) = 2 * (ib b * 2 ^ a.length) := by rw [Int.mul_left_comm]
  omega
theorem tc_bd {a : List Bool} (h : a ≠ []) : -(2 ^ (a.length - 1)) ≤ tc a ∧ tc a < 2 ^ (a.length - 1) := by
  obtain ⟨r, b, rfl⟩ := snoc_of h
  rw [tc_snoc, List.length_append, List.length_singleton, Nat.add_sub_cancel]
  have := uv_bd r
  have := p2 r.length
  rcases ib_b b with z | z <;> rw [z] <;> omega
theorem tc_ext {a : List Bool} (h : a ≠ []) : tc (a ++ [lastB a]) = tc a := by
  obtain ⟨r, b, rfl⟩ := snoc_of h
  rw [tc_snoc, tc_snoc, last_snoc, uv_snoc, List.length_append, List.length_singleton, p2s]
  have : ib b * (2 * 2 ^ r.length) = 2 * (ib b * 2 ^ r.length) := by rw [Int.mul_left_comm]
  omega
theorem tc_rep {a : List Bool} (h : a ≠ []) (k : Nat) : tc (a ++ List.replicate k (lastB a)) = tc a ∧ lastB (a ++ List.replicate k (lastB a)) = lastB a := by
  induction k with
  | zero => simp
  | succ k ih =>
    rw [List.replicate_succ', ← List.append_assoc]
    refine ⟨?_, last_snoc _ _⟩
    have n : a ++ List.replicate k (lastB a) ≠ [] := by simp [h]
    have e := tc_ext n
    rw [ih.2] at e
    rw [e, ih.1]
theorem tc_stretch {a : List Bool} (h : a ≠ []) (k : Nat) : tc (stretchB a k) = tc a := (tc_rep h _).1
theorem stretch_len {a : List Bool} {k : Nat} (h : a.length ≤ k) : (stretchB a k).length = k := by
  simp [stretchB]
  omega
/-- as numbers of n bits -/
def Cg (n : Nat) (x y : Int) : Prop := (2 ^ n : Int) ∣ x - y
theorem Cg.rfl' (n : Nat) (x : Int) : Cg n x x := ⟨0, by simp⟩
theorem Cg.symm {n : Nat} {x y : Int} (h : Cg n x y) : Cg n y x := by
  obtain ⟨q, e⟩ := h
  exact ⟨-q, by rw [Int.mul_neg, ← e]; omega⟩
theorem Cg.trans {n : Nat} {x y z : Int} (h : Cg n x y) (g : Cg n y z) : Cg n x z := by
  obtain ⟨q, e⟩ := h
  obtain ⟨r, f⟩ := g
  exact ⟨q + r, by rw [Int.mul_add, ← e, ← f]; omega⟩
theorem Cg.add {n : Nat} {x y z u : Int} (h : Cg n x y) (g : Cg n z u) : Cg n (x + z) (y + u) := by
  obtain ⟨q, e⟩ := h
  obtain ⟨r, f⟩ := g
  exact ⟨q + r, by rw [Int.mul_add, ← e, ← f]; omega⟩
theorem cg_tc (a : List Bool) : Cg a.length (tc a) (uv a) := ⟨-ib (lastB a), by
  unfold tc
  rw [Int.mul_neg, Int.mul_comm]
  omega⟩
theorem cg_eq {n : Nat} {x y : Int} (hn : 0 < n) (h : Cg n x y) (hx : -(2 ^ (n - 1)) ≤ x ∧ x < 2 ^ (n - 1)) (hy : -(2 ^ (n - 1)) ≤ y ∧ y < 2 ^ (n - 1)) : x = y := by
  obtain ⟨q, e⟩ := h
  obtain ⟨m, rfl⟩ : ∃ m, n = m + 1 := ⟨n - 1, by omega⟩
  rw [p2s] at e
  simp only [Nat.add_sub_cancel] at hx hy
  have p := p2 m
  generalize (2 : Int) ^ m = M at *
  have hz : q = 0 := by
    rcases Int.lt_trichotomy q 0 with c | c | c
    · exfalso
      have z : 2 * M * q ≤ 2 * M * (-1) := Int.mul_le_mul_of_nonneg_left (by omega) (by omega)
      omega
    · exact c
    · exfalso
      have z : 2 * M * 1 ≤ 2 * M * q := Int.mul_le_mul_of_nonneg_left (by omega) (by omega)
      omega
  rw [hz] at e
  omega
theorem tc_of {a : List Bool} {n : Nat} {x : Int} (hl : a.length = n) (hn : 0 < n) (h : Cg n x (uv a)) (hx : -(2 ^ (n - 1)) ≤ x ∧ x < 2 ^ (n - 1)) : tc a = x := by
  subst hl
  exact cg_eq hn ((cg_tc a).trans h.symm) (tc_bd (List.length_pos_iff.mp hn)) hx
theorem uv_add : ∀ {a b : List Bool} {c : Bool}, a.length = b.length → uv (addB a b c) + 2 ^ a.length * ib (carB a b c) = uv a + uv b + ib c
  | [], [], c, _ => by simp [addB, carB, uv]
  | x :: r, y :: s, c, l => by
    have ih := uv_add (a := r) (b := s) (c := (x && y) || ((x ^^ y) && c)) (by simpa using l)
    simp only [addB, carB, uv, List.length_cons]
    rw [p2s, Int.mul_assoc]
    have z : ib ((x ^^ y) ^^ c) + 2 * ib ((x && y) || ((x ^^ y) && c)) = ib x + ib y + ib c := by cases x <;> cases y <;> cases c <;> rfl
    omega
theorem cg_sum {a b : List Bool} {c : Bool} {n : Nat} (ha : a ≠ []) (hb : b ≠ []) (la : a.length ≤ n) (lb : b.length ≤ n) : Cg n (tc a + tc b + ib c) (uv (sumB a b c n)) := by
  have e := uv_add (a := stretchB a n) (b := stretchB b n) (c := c) (by rw [stretch_len la, stretch_len lb])
  have ca := cg_tc (stretchB a n)
  have cb := cg_tc (stretchB b n)
  rw [stretch_len la, tc_stretch ha] at ca
  rw [stretch_len lb, tc_stretch hb] at cb
  rw [stretch_len la] at e
  have s := (ca.add cb).add (Cg.rfl' n (ib c))
  refine s.trans ⟨ib (carB (stretchB a n) (stretchB b n) c), ?_⟩
  rw [← e]
  unfold sumB
  omega
theorem uv_not (a : List Bool) : uv (a.map (!·)) = 2 ^ a.length - 1 - uv a := by
  induction a with
  | nil => simp [uv]
  | cons x r ih =>
    simp only [List.map_cons, uv, List.length_cons]
    rw [ih, p2s]
    have : ib (!x) = 1 - ib x := by cases x <;> rfl
    omega
theorem tc_not {a : List Bool} (h : a ≠ []) : tc (a.map (!·)) = -1 - tc a := by
  obtain ⟨r, b, rfl⟩ := snoc_of h
  rw [List.map_append, List.map_singleton, tc_snoc, tc_snoc, uv_not, List.length_map]
  have : ib (!b) = 1 - ib b := by cases b <;> rfl
  rw [this, Int.sub_mul]
  omega
theorem cg_sub {a b : List Bool} {n : Nat} (ha : a ≠ []) (hb : b ≠ []) (la : a.length ≤ n) (lb : b.length ≤ n) : Cg n (tc a - tc b) (uv (subB a b n)) := by
  have s := cg_sum (c := true) ha (b := b.map (!·)) (by simp [hb]) la (by simpa using lb)
  rw [tc_not hb] at s
  have e : tc a + (-1 - tc b) + ib true = tc a - tc b := by simp [ib]; omega
  rw [e] at s
  exact s
end K73

set_option Elab.async false
set_option linter.all false
set_option maxRecDepth 100000
set_option maxHeartbeats 1000000
namespace K73
theorem tc_sum {a b : List Bool} {c : Bool} {n : Nat} (ha : a ≠ []) (hb : b ≠ []) (la : a.length < n) (lb : b.length < n) : tc (sumB a b c n) = tc a + tc b + ib c := by
  refine tc_of (sumB_len (by omega) (by omega)) (by omega) (cg_sum ha hb (by omega) (by omega)) ?_
  have ba := tc_bd ha
  have bb := tc_bd hb
  have pa : 0 < a.length := List.length_pos_iff.mpr ha
  have pb : 0 < b.length := List.length_pos_iff.mpr hb
  have z : (2 : Int) ^ (n - 1) = 2 * 2 ^ (n - 2) := by rw [← p2s]; congr 1; omega
  have ma := p2m (show a.length - 1 ≤ n - 2 by omega)
  have mb := p2m (show b.length - 1 ≤ n - 2 by omega)
  have := ib_b c
  omega
theorem tc_sub {a b : List Bool} {n : Nat} (ha : a ≠ []) (hb : b ≠ []) (la : a.length < n) (lb : b.length < n) : tc (subB a b n) = tc a - tc b := by
  refine tc_of (subB_len (by omega) (by omega)) (by omega) (cg_sub ha hb (by omega) (by omega)) ?_
  have ba := tc_bd ha
  have bb := tc_bd hb
  have pa : 0 < a.length := List.length_pos_iff.mpr ha
  have pb : 0 < b.length := List.length_pos_iff.mpr hb
  have z : (2 : Int) ^ (n - 1) = 2 * 2 ^ (n - 2) := by rw [← p2s]; congr 1; omega
  have ma := p2m (show a.length - 1 ≤ n - 2 by omega)
  have mb := p2m (show b.length - 1 ≤ n - 2 by omega)
  omega
theorem sign_tc {a : List Bool} (h : a ≠ []) : lastB a = decide (tc a < 0) := by
  obtain ⟨r, b, rfl⟩ := snoc_of h
  rw [tc_snoc, last_snoc]
  have := uv_bd r
  cases b
  · simp [ib]; omega
  · simp [ib]; omega
theorem uv_zeros (k : Nat) : uv (List.replicate k false) = 0 := by
  induction k with
  | zero => rfl
  | succ k ih => rw [List.replicate_succ]; simp [uv, ih, ib]
theorem tc_zeros {a : List Bool} (h : a ≠ []) (k : Nat) : tc (List.replicate k false ++ a) = 2 ^ k * tc a := by
  obtain ⟨r, b, rfl⟩ := snoc_of h
  rw [← List.append_assoc, tc_snoc, tc_snoc, uv_app, uv_zeros, List.length_append, List.length_replicate, Int.pow_add, Int.mul_sub]
  rw [Int.mul_left_comm]
  omega
theorem tc_and {a : List Bool} (h : a ≠ []) (b : Bool) : tc (a.map (b && ·)) = ib b * tc a := by
  cases b
  · have e : a.map (false && ·) = List.replicate a.length false := by
      rw [List.eq_replicate_iff]
      exact ⟨by simp, fun x m => by obtain ⟨_, _, e⟩ := List.mem_map.mp m; rw [← e]; rfl⟩
    rw [e]
    have n : List.replicate a.length false ≠ [] := by simp [h]
    unfold tc
    rw [uv_zeros]
    have l : lastB (List.replicate a.length false) = false := by
      obtain ⟨m, em⟩ : ∃ m, a.length = m + 1 := ⟨a.length - 1, by have := List.length_pos_iff.mpr h; omega⟩
      rw [em, List.replicate_succ']
      exact last_snoc _ _
    rw [l]
    simp [ib]
  · have e : a.map (true && ·) = a := by simp
    rw [e]
    simp [ib]
theorem tc_part {a : List Bool} (h : a ≠ []) (i : Nat) (b : Bool) : tc (partB a i b) = 2 ^ i * (ib b * tc a) := by
  unfold partB
  rw [tc_zeros (by simp [h]), tc_and h]
theorem part_ne {a : List Bool} (h : a ≠ []) (i : Nat) (b : Bool) : partB a i b ≠ [] := by simp [partB, h]
theorem bitsC_zero (n : Nat) : bitsC 0 n = List.replicate n false := by
  unfold bitsC
  rw [List.eq_replicate_iff]
  exact ⟨by simp, fun x m => by obtain ⟨i, _, e⟩ := List.mem_map.mp m; rw [← e]; simp [bitC]⟩
theorem prodS_len {a b : List Bool} (h : a ≠ []) : ∀ {i : Nat}, i ≤ b.length → (prodS a b (a.length + b.length) i).length = a.length + b.length
  | 0, _ => bitsC_len _ _
  | i + 1, l => by
    have ih := prodS_len (a := a) (b := b) h (i := i) (by omega)
    unfold prodS
    split
    · exact sumB_len (by omega) (by rw [partB_len]; omega)
    · exact subB_len (by omega) (by rw [partB_len]; omega)
theorem cg_prod {a b : List Bool} (h : a ≠ []) : ∀ {i : Nat}, i < b.length → Cg (a.length + b.length) (tc a * uv (b.take i)) (uv (prodS a b (a.length + b.length) i))
  | 0, _ => by
    unfold prodS
    rw [bitsC_zero, uv_zeros]
    simp [uv]
    exact Cg.rfl' _ _
  | i + 1, l => by
    have ih := cg_prod (a := a) (b := b) h (i := i) (by omega)
    have pl := prodS_len (a := a) (b := b) h (i := i) (by omega)
    have pn : prodS a b (a.length + b.length) i ≠ [] := List.length_pos_iff.mp (by have := List.length_pos_iff.mpr h; omega)
    unfold prodS
    rw [if_pos l]
    have s := cg_sum (c := false) (n := a.length + b.length) pn (part_ne h i (b.getD i false)) (by omega) (by rw [partB_len]; omega)
    have c1 := cg_tc (prodS a b (a.length + b.length) i)
    rw [pl] at c1
    refine Cg.trans ?_ s
    refine Cg.trans ?_ ((((ih.trans c1.symm).add (Cg.rfl' _ (tc (partB a i (b.getD i false)))))).add (Cg.rfl' _ (ib false)))
    rw [tc_part h, take_snoc (by omega), uv_snoc]
    have e : tc a * (uv (b.take i) + ib (b.getD i false) * 2 ^ (b.take i).length) = tc a * uv (b.take i) + 2 ^ i * (ib (b.getD i false) * tc a) + ib false := by
      rw [List.length_take, Nat.min_eq_left (by omega), Int.mul_add]
      have z : tc a * (ib (b.getD i false) * 2 ^ i) = 2 ^ i * (ib (b.getD i false) * tc a) := by
        rw [Int.mul_comm, Int.mul_comm (ib (b.getD i false)) (2 ^ i), Int.mul_assoc]
      rw [z]
      simp [ib]
    rw [e]
    exact Cg.rfl' _ _
theorem mul_bd {x y A C : Int} (hA : 0 < A) (hC : 0 < C) (hx : -A ≤ x ∧ x < A) (hy : -C ≤ y ∧ y < C) : -(A * C) ≤ x * y ∧ x * y ≤ A * C := by
  have ax : x.natAbs ≤ A.natAbs := by omega
  have ay : y.natAbs ≤ C.natAbs := by omega
  have z : (x * y).natAbs ≤ (A * C).natAbs := by
    rw [Int.natAbs_mul, Int.natAbs_mul]
    exact Nat.mul_le_mul ax ay
  have p := Int.mul_pos hA hC
  omega
theorem tc_prod {a b : List Bool} (ha : a ≠ []) (hb : b ≠ []) : tc (prodB a b) = tc a * tc b := by
  have la := List.length_pos_iff.mpr ha
  have lb := List.length_pos_iff.mpr hb
  obtain ⟨i, ei⟩ : ∃ i, b.length = i + 1 := ⟨b.length - 1, by omega⟩
  have hl : (prodB a b).length = a.length + b.length := prodS_len ha (Nat.le_refl _)
  refine tc_of hl (by omega) ?_ ?_
  · have ih := cg_prod (a := a) (b := b) ha (i := i) (by omega)
    have pl := prodS_len (a := a) (b := b) ha (i := i) (by omega)
    have pn : prodS a b (a.length + b.length) i ≠ [] := List.length_pos_iff.mp (by omega)
    have eP : prodB a b = subB (prodS a b (a.length + b.length) i) (partB a i (b.getD i false)) (a.length + b.length) := by
      unfold prodB
      conv => lhs; arg 4; rw [ei]
      rw [prodS, if_neg (by omega)]
    rw [eP]
    have s := cg_sub (n := a.length + b.length) pn (part_ne ha i (b.getD i false)) (by omega) (by rw [partB_len]; omega)
    have c1 := cg_tc (prodS a b (a.length + b.length) i)
    rw [pl] at c1
    refine Cg.trans ?_ s
    have e2 := (ih.trans c1.symm).add (Cg.rfl' _ (-tc (partB a i (b.getD i false))))
    refine Cg.trans ?_ e2
    have eb : b = b.take i ++ [b.getD i false] := by
      rw [← take_snoc (by omega), List.take_of_length_le (by omega)]
    have et : tc b = uv (b.take i) - ib (b.getD i false) * 2 ^ i := by
      conv => lhs; rw [eb]
      rw [tc_snoc, List.length_take, Nat.min_eq_left (by omega)]
    rw [et, tc_part ha, Int.mul_sub]
    have z : tc a * (ib (b.getD i false) * 2 ^ i) = 2 ^ i * (ib (b.getD i false) * tc a) := by
      rw [Int.mul_comm, Int.mul_comm (ib (b.getD i false)) (2 ^ i), Int.mul_assoc]
    rw [z]
    exact Cg.rfl' _ _
  · have z := mul_bd (p2 _) (p2 _) (tc_bd ha) (tc_bd hb)
    have e : (2 : Int) ^ (a.length + b.length - 1) = 2 * (2 ^ (a.length - 1) * 2 ^ (b.length - 1)) := by
      rw [← Int.pow_add, ← p2s]
      congr 1
      omega
    have p := Int.mul_pos (p2 (a.length - 1)) (p2 (b.length - 1))
    rw [e]
    omega
end K73

set_option Elab.async false
set_option linter.all false
set_option maxRecDepth 100000
set_option maxHeartbeats 1000000
namespace K73
theorem fdiv_of {x q r M : Int} (hM : 0 < M) (e : x = r + M * q) (h : 0 ≤ r ∧ r < M) : x / M = q := by
  rw [e, Int.add_mul_ediv_left _ _ (by omega), Int.ediv_eq_zero_of_lt h.1 h.2]
  omega
theorem last_drop {a : List Bool} {k : Nat} (h : k < a.length) : lastB (a.drop k) = lastB a := by
  have n : a ≠ [] := List.length_pos_iff.mp (by omega)
  obtain ⟨r, b, rfl⟩ := snoc_of n
  rw [List.length_append, List.length_singleton] at h
  rw [List.drop_append_of_le_length (by omega), last_snoc, last_snoc]
theorem tc_split {a : List Bool} {k : Nat} (h : k < a.length) : tc a = uv (a.take k) + 2 ^ k * tc (a.drop k) := by
  unfold tc
  rw [last_drop h]
  conv => lhs; rw [← List.take_append_drop k a]
  rw [uv_app, List.take_append_drop, List.length_take, Nat.min_eq_left (by omega), List.length_drop, Int.mul_sub]
  have e : (2 : Int) ^ a.length = 2 ^ k * 2 ^ (a.length - k) := by
    rw [← Int.pow_add]
    congr 1
    omega
  rw [e]
  have z : ib (lastB a) * (2 ^ k * 2 ^ (a.length - k)) = 2 ^ k * (ib (lastB a) * 2 ^ (a.length - k)) := by rw [Int.mul_left_comm]
  omega
theorem uv_take_bd (a : List Bool) {k : Nat} (h : k ≤ a.length) : 0 ≤ uv (a.take k) ∧ uv (a.take k) < 2 ^ k := by
  have z := uv_bd (a.take k)
  rw [List.length_take, Nat.min_eq_left h] at z
  exact z
theorem tc_half {a : List Bool} (h : a ≠ []) (k : Nat) : tc (halfB a k) = tc a / 2 ^ k := by
  have la := List.length_pos_iff.mpr h
  unfold halfB
  split
  · rename_i c
    exact (fdiv_of (p2 k) (tc_split c) (uv_take_bd a (by omega))).symm
  · rename_i c
    have e : tc [lastB a] = -ib (lastB a) := by
      have z := tc_snoc [] (lastB a)
      simp [uv] at z
      exact z
    rw [e, sign_tc h]
    have b := tc_bd h
    have m := p2m (show a.length - 1 ≤ k by omega)
    by_cases s : tc a < 0
    · rw [decide_eq_true s]
      exact (fdiv_of (q := -1) (r := tc a + 2 ^ k) (p2 k) (by omega) (by omega)).symm
    · rw [decide_eq_false s]
      exact (fdiv_of (q := 0) (r := tc a) (p2 k) (by omega) (by omega)).symm
theorem tc_cons (x y : Bool) (r : List Bool) : tc (x :: y :: r) = ib x + 2 * tc (y :: r) := by
  have z := tc_split (a := x :: y :: r) (k := 1) (by simp)
  simpa [uv] using z
theorem tc_one (x : Bool) : tc [x] = -ib x := by
  have z := tc_snoc [] x
  simp [uv] at z
  exact z
theorem tc_flat : ∀ {a : List Bool} {b : Bool}, a ≠ [] → (tc a = -ib b ↔ ∀ x, x ∈ a → x = b)
  | [x], b, _ => by
    rw [tc_one]
    cases x <;> cases b <;> simp [ib]
  | x :: y :: r, b, _ => by
    have ih := tc_flat (a := y :: r) (b := b) (by simp)
    rw [tc_cons]
    constructor
    · intro h z hz
      have hx : ib x = ib b := by
        have := ib_b x
        have := ib_b b
        omega
      have e : x = b := by cases x <;> cases b <;> simp [ib] at hx ⊢
      have t : tc (y :: r) = -ib b := by omega
      rcases List.mem_cons.mp hz with m | m
      · rw [m, e]
      · exact ih.mp t z m
    · intro h
      have t := ih.mpr fun z m => h z (List.mem_cons_of_mem _ m)
      have e := h x (List.mem_cons_self ..)
      rw [t, e]
      omega
theorem wide_tc {a : List Bool} (h : a ≠ []) {k : Nat} (hk : 0 < k) : wideB a k = !decide (-(2 ^ (k - 1)) ≤ tc a ∧ tc a < 2 ^ (k - 1)) := by
  have la := List.length_pos_iff.mpr h
  have b := tc_bd h
  by_cases c : a.length ≤ k
  · have m := p2m (show a.length - 1 ≤ k - 1 by omega)
    rw [decide_eq_true (show _ ∧ _ from ⟨by omega, by omega⟩)]
    unfold wideB
    rw [List.drop_eq_nil_of_le c]
    rfl
  · obtain ⟨j, rfl⟩ : ∃ j, k = j + 1 := ⟨k - 1, by omega⟩
    have sp := tc_split (a := a) (k := j) (by omega)
    have ub := uv_take_bd a (k := j) (by omega)
    simp only [Nat.add_sub_cancel]
    have dn : a.drop j ≠ [] := List.length_pos_iff.mp (by simp; omega)
    have ed : a.drop j = a.getD j false :: a.drop (j + 1) := by
      rw [List.drop_eq_getElem_cons (by omega)]
      simp [List.getD_eq_getElem?_getD, show j < a.length by omega]
    have iff1 : (-(2 ^ j) ≤ tc a ∧ tc a < 2 ^ j) ↔ (tc (a.drop j) = 0 ∨ tc (a.drop j) = -1) := by
      rw [sp]
      have p := p2 j
      generalize (2 : Int) ^ j = M at *
      generalize tc (a.drop j) = q
      constructor
      · intro z
        by_cases c1 : 1 ≤ q
        · exfalso
          have := Int.mul_le_mul_of_nonneg_left c1 (show 0 ≤ M by omega)
          omega
        · by_cases c2 : q ≤ -2
          · exfalso
            have := Int.mul_le_mul_of_nonneg_left c2 (show 0 ≤ M by omega)
            omega
          · omega
      · rintro (z | z) <;> rw [z] <;> omega
    have iff2 : (tc (a.drop j) = 0 ∨ tc (a.drop j) = -1) ↔ wideB a (j + 1) = false := by
      have f0 := tc_flat (b := false) dn
      have f1 := tc_flat (b := true) dn
      have z0 : -ib false = 0 := rfl
      have z1 : -ib true = -1 := rfl
      rw [z0] at f0
      rw [z1] at f1
      rw [f0, f1, ed]
      unfold wideB
      simp only [Nat.add_sub_cancel]
      generalize a.getD j false = t
      generalize a.drop (j + 1) = l
      rw [List.any_eq_false]
      cases t
      · constructor
        · rintro (z | z)
          · intro x m
            rw [z x (List.mem_cons_of_mem _ m)]
            decide
          · have := z false (List.mem_cons_self ..)
            cases this
        · intro z
          left
          intro x m
          rcases List.mem_cons.mp m with e | m
          · exact e
          · have := z x m
            cases x <;> simp at this ⊢
      · constructor
        · rintro (z | z)
          · have := z true (List.mem_cons_self ..)
            cases this
          · intro x m
            rw [z x (List.mem_cons_of_mem _ m)]
            decide
        · intro z
          right
          intro x m
          rcases List.mem_cons.mp m with e | m
          · exact e
          · have := z x m
            cases x <;> simp at this ⊢
    by_cases d : -(2 ^ j) ≤ tc a ∧ tc a < 2 ^ j
    · rw [decide_eq_true d, iff2.mp (iff1.mp d)]
      rfl
    · rw [decide_eq_false d]
      cases e : wideB a (j + 1) with
      | true => rfl
      | false => exact absurd (iff1.mpr (iff2.mpr e)) d
end K73

set_option Elab.async false
set_option linter.all false
set_option maxRecDepth 100000
set_option maxHeartbeats 1000000
namespace K73
open Ev
theorem emod_of {x q r M : Int} (hM : 0 < M) (e : x = r + M * q) (h : 0 ≤ r ∧ r < M) : x % M = r := by
  rw [e, Int.add_mul_emod_self_left, Int.emod_eq_of_lt h.1 h.2]
theorem bitsC_succ (c : Int) (n : Nat) : bitsC c (n + 1) = bitsC c n ++ [bitC c n] := by
  unfold bitsC
  rw [List.range_succ, List.map_append]
  rfl
theorem ib_bitC (c : Int) (n : Nat) : ib (bitC c n) = c / 2 ^ n % 2 := by
  unfold bitC ib
  rcases Int.emod_two_eq (c / 2 ^ n) with z | z <;> rw [z] <;> rfl
theorem uv_bitsC (c : Int) (n : Nat) : uv (bitsC c n) = c % 2 ^ n := by
  induction n with
  | zero => simp [bitsC, uv]
  | succ n ih =>
    rw [bitsC_succ, uv_snoc, ih, bitsC_len, ib_bitC]
    have p := p2 n
    have d1 := Int.emod_add_mul_ediv c (2 ^ n)
    have b1 := Int.emod_nonneg c (show (2 : Int) ^ n ≠ 0 by omega)
    have b2 := Int.emod_lt_of_pos c p
    rw [p2s]
    symm
    refine emod_of (q := c / 2 ^ n / 2) (by omega) ?_ ?_
    · generalize (2 : Int) ^ n = M at *
      generalize c / M = q at *
      have e : q = 2 * (q / 2) + q % 2 := by omega
      have z : M * q = 2 * M * (q / 2) + q % 2 * M := by
        conv => lhs; rw [e]
        rw [Int.mul_add, ← Int.mul_assoc, Int.mul_comm M 2, Int.mul_comm M (q % 2)]
      omega
    · generalize (2 : Int) ^ n = M at *
      rcases Int.emod_two_eq (c / M) with z | z <;> rw [z] <;> omega
theorem tc_bitsC {c : Int} {n : Nat} (hn : 0 < n) (h : -(2 ^ (n - 1)) ≤ c ∧ c < 2 ^ (n - 1)) : tc (bitsC c n) = c := by
  refine tc_of (bitsC_len c n) hn ?_ h
  rw [uv_bitsC]
  have d1 := Int.emod_add_mul_ediv c (2 ^ n)
  exact ⟨c / 2 ^ n, by omega⟩
theorem mux_t {c : Bool} : ∀ {a b : List Bool}, a.length = b.length → muxB c a b = if c then a else b
  | [], [], _ => by cases c <;> rfl
  | x :: r, y :: s, l => by
    unfold muxB
    rw [mux_t (by simpa using l)]
    cases c <;> simp
/-! ### small functions of plain data -/
def iv (bs : List Bool) : List Val := bs.map fun b => .d (.int (ib b))
@[simp] theorem iv_len (bs : List Bool) : (iv bs).length = bs.length := by simp [iv]
theorem mulOk_r (i : Int) {j : Int} (h : j.natAbs < 18446744073709551616) : mulOk i j = true := by
  unfold mulOk
  rw [show Nat.blt j.natAbs 18446744073709551616 = true from Nat.ble_eq_true_of_le h]
  simp [fnOf, sSeq, sRet, sIf, sAsg, sExpr, sPar, startE, mVar, mCst, m1, m2, mB, mTruth, mNot, mAnd, mOr, mIf, mCons, mNil, mTup, mLst, mIdx_ap, mOp, mVal, asB, okB, okI, mkT, pures, fits, opEq, opNe, opLt, opLe, opGt, opGe, opAdd, opSub, tgName, setAll, getM, bInt, intsV, maxI, minI]
theorem two_ok {n : Nat} (hn : n ≤ 1000000) (h : EH) : callFn m__law_two [.d (.int (n : Int))] h = .ok (.d (.tup true [.int (2 ^ n), .int 1])) h := by
  refine callFn_d (h' := []) rfl ?_
  have es : iRange1 (mCons (mVar 1) mNil) [some (.d (.int (n : Int))), some (.d (.int (n : Int))), some (.d (.int 1)), none] [] = .ok (.seq (rng 0 n)) [] := by
    exact iRange1_ok (h1 := []) (j := (n : Int)) (by simp [fnOf, sSeq, sRet, sIf, sAsg, sExpr, sPar, startE, mVar, mCst, m1, m2, mB, mTruth, mNot, mAnd, mOr, mIf, mCons, mNil, mTup, mLst, mIdx_ap, mOp, mVal, asB, okB, okI, mkT, pures, fits, opEq, opNe, opLt, opLe, opGt, opGe, opAdd, opSub, tgName, setAll, getM, bInt, intsV, maxI, minI]) (by omega) (by omega)
  have loop := loopL_inv (t := tgName 3) (b := sSeq (sAsg (m2 opMul (mVar 2) (mCst (.d (.int 2)))) (tgName 2)) sNext) (xs := rng 0 n)
    (fun i env h' => ∃ x3, env = [some (.d (.int (n : Int))), some (.d (.int (n : Int))), some (.d (.int (2 ^ i))), x3] ∧ h' = [])
    (fun i env h' hi ⟨x3, e1, e2⟩ => by
      subst e1 e2
      refine ⟨[some (.d (.int (n : Int))), some (.d (.int (n : Int))), some (.d (.int (2 ^ (i + 1)))), some (rng 0 n)[i]], [], ?_, some (rng 0 n)[i], rfl, rfl⟩
      have k := mulOk_r (2 ^ i) (j := 2) (by decide)
      simp [fnOf, sSeq, sRet, sIf, sAsg, sExpr, sPar, startE, mVar, mCst, m1, m2, mB, mTruth, mNot, mAnd, mOr, mIf, mCons, mNil, mTup, mLst, mIdx_ap, mOp, mVal, asB, okB, okI, mkT, pures, fits, opEq, opNe, opLt, opLe, opGt, opGe, opAdd, opSub, tgName, setAll, getM, bInt, intsV, maxI, minI, opMul, k, Int.pow_succ])
    (env := [some (.d (.int (n : Int))), some (.d (.int (n : Int))), some (.d (.int 1)), none]) (h := []) ⟨none, rfl, rfl⟩
  obtain ⟨env', h', el, x3, e1, e2⟩ := loop
  subst e1 e2
  rw [rng_len] at el
  have ab : bAbs [.d (.int (n : Int))] [] = .ok (.d (.int (n : Int))) [] := by
    show okI (if (n : Int) < 0 then -(n : Int) else (n : Int)) [] = _
    rw [if_neg (by omega)]
    rfl
  refine fn_rt' rfl (sSeq_nx (sPar_ok (mCons_ok (mOp_ok (mCons_ok rfl mNil_ok) ab) (mCons_ok rfl mNil_ok)) rfl) (sSeq_nx (sFor_ok es el) (sSeq_rt (sRet_ok (mIf_t (mB_ok (m2_ok (x := .d (.int (n : Int))) (y := .d (.int 0)) rfl rfl ?_)) (mTup_ok (xs := [.d (.int (2 ^ n)), .d (.int 1)]) rfl (by simp [fnOf, sSeq, sRet, sIf, sAsg, sExpr, sPar, startE, mVar, mCst, m1, m2, mB, mTruth, mNot, mAnd, mOr, mIf, mCons, mNil, mTup, mLst, mIdx_ap, mOp, mVal, asB, okB, okI, mkT, pures, fits, opEq, opNe, opLt, opLe, opGt, opGe, opAdd, opSub, tgName, setAll, getM, bInt, intsV, maxI, minI])))))))
  show okB (decide ((n : Int) ≥ 0)) [] = _
  rw [decide_eq_true (by omega)]
  rfl
end K73

set_option Elab.async false
set_option linter.all false
set_option maxRecDepth 100000
set_option maxHeartbeats 1000000
namespace K73
open Ev
def wrapC (x : Int) (n : Nat) : Int := if 0 ≤ x then x else x + 2 ^ n
theorem tc_wrap {x : Int} {n : Nat} (hn : 0 < n) (h : -(2 ^ (n - 1)) ≤ x ∧ x < 2 ^ (n - 1)) : tc (bitsC (wrapC x n) n) = x := by
  refine tc_of (bitsC_len _ n) hn ?_ h
  rw [uv_bitsC]
  have d1 := Int.emod_add_mul_ediv (wrapC x n) (2 ^ n)
  have e : Cg n (wrapC x n) (wrapC x n % 2 ^ n) := ⟨wrapC x n / 2 ^ n, by omega⟩
  refine Cg.trans ?_ e
  unfold wrapC
  split
  · exact Cg.rfl' _ _
  · exact ⟨-1, by omega⟩
theorem bInt_i (i : Int) (h : EH) : bInt [.d (.int i)] h = .ok (.d (.int i)) h := rfl
theorem ge_i (i j : Int) (h : EH) {b : Bool} (e : decide (i ≥ j) = b) : opGe (.d (.int i)) (.d (.int j)) h = .ok (.d (.bl b)) h := by
  show okB (decide (i ≥ j)) h = _
  rw [e]
  rfl
theorem idx_two (n : Nat) (h : EH) : opIdx (.d (.tup true [.int (2 ^ n), .int 1])) (.d (.int 0)) h = .ok (.d (.int (2 ^ n))) h := by
  rw [opIdx_tup]
  rfl
theorem mod2 (i : Int) (h : EH) : opMod (.d (.int i)) (.d (.int 2)) h = .ok (.d (.int (i % 2))) h := rfl
theorem fdiv2 (i : Int) (h : EH) : opFdiv (.d (.int i)) (.d (.int 2)) h = .ok (.d (.int (i / 2))) h := rfl
theorem iv_snoc (bs : List Bool) (b : Bool) : iv (bs ++ [b]) = iv bs ++ [.d (.int (ib b))] := by simp [iv]
theorem pures_iv (bs : List Bool) : pures (iv bs) = some (bs.map fun b => .int (ib b)) := by
  have e : iv bs = (bs.map fun b => D.int (ib b)).map .d := by simp [iv]
  rw [e, pures_map]
abbrev btBody : MS := sSeq (sExpr (mBM 4 lAppend (mVar 3) (mCons (m2 opMod (mOp bInt (mCons (mVar 2) mNil)) (mCst (.d (.int 2)))) mNil))) (sSeq (sAsg (m2 opFdiv (mOp bInt (mCons (mVar 2) mNil)) (mCst (.d (.int 2)))) (tgName 2)) sNext)
theorem bits_ok (x : Int) {n : Nat} (hn : n ≤ 1000000) (h : EH) : callFn m__law_bits [.d (.int x), .d (.int (n : Int))] h = .ok (.r h.length) (h ++ [.lst (iv (bitsC (wrapC x n) n))]) := by
  have w0 : mIf (mB (m2 opGe (mVar 0) (mCst (.d (.int 0))))) (mVar 0) (m2 opAdd (mVar 0) (mIdx (mCall m__law_two [] (mCons (mVar 1) mNil)) (mCst (.d (.int 0))))) (startE 5 [.d (.int x), .d (.int (n : Int))]) [] = .ok (.d (.int (wrapC x n))) [] := by
    by_cases c : 0 ≤ x
    · have e : wrapC x n = x := if_pos c
      rw [e]
      exact mIf_t (mB_ok (m2_ok rfl rfl (ge_i x 0 [] (decide_eq_true c)))) rfl
    · have e : wrapC x n = x + 2 ^ n := if_neg c
      rw [e]
      exact mIf_f (mB_ok (m2_ok rfl rfl (ge_i x 0 [] (decide_eq_false c)))) (m2_ok rfl (m2_ok (mCall_ok (mCons_ok rfl mNil_ok) (two_ok hn [])) rfl (idx_two n [])) rfl)
  have es : iRange1 (mCons (mVar 1) mNil) [some (.d (.int x)), some (.d (.int (n : Int))), some (.d (.int (wrapC x n))), some (.r 0), none] [.lst (iv [])] = .ok (.seq (rng 0 n)) [.lst (iv [])] :=
    iRange1_ok (j := (n : Int)) (mCons_ok rfl mNil_ok) (by omega) (by omega)
  have loop := loopL_inv (t := tgName 4) (b := btBody) (xs := rng 0 n)
    (fun i env h' => ∃ x4, env = [some (.d (.int x)), some (.d (.int (n : Int))), some (.d (.int (wrapC x n / 2 ^ i))), some (.r 0), x4] ∧ h' = [.lst (iv (bitsC (wrapC x n) i))])
    (fun i env h' hi ⟨x4, e1, e2⟩ => by
      subst e1 e2
      rw [rng_len] at hi
      refine ⟨[some (.d (.int x)), some (.d (.int (n : Int))), some (.d (.int (wrapC x n / 2 ^ (i + 1)))), some (.r 0), some (.d (.int (0 + i)))], [.lst (iv (bitsC (wrapC x n) (i + 1)))], ?_, _, rfl, rfl⟩
      rw [rng_get]
      show btBody [some (.d (.int x)), some (.d (.int (n : Int))), some (.d (.int (wrapC x n / 2 ^ i))), some (.r 0), some (.d (.int (0 + i)))] [.lst (iv (bitsC (wrapC x n) i))] = _
      have ap := mBM_ap (mo := mVar 3) (ma := mCons (m2 opMod (mOp bInt (mCons (mVar 2) mNil)) (mCst (.d (.int 2)))) mNil) (env := [some (.d (.int x)), some (.d (.int (n : Int))), some (.d (.int (wrapC x n / 2 ^ i))), some (.r 0), some (.d (.int (0 + i)))]) (h1 := [.lst (iv (bitsC (wrapC x n) i))]) (h := []) (h0 := []) (xs := iv (bitsC (wrapC x n) i)) (y := .d (.int (wrapC x n / 2 ^ i % 2))) rfl rfl (mCons_ok (m2_ok (mOp_ok (mCons_ok rfl mNil_ok) (bInt_i _ _)) rfl (mod2 _ _)) mNil_ok) (by rw [iv_len, bitsC_len]; omega)
      rw [← ib_bitC, ← iv_snoc, ← bitsC_succ] at ap
      refine sSeq_nx (sExpr_ok ap) (sSeq_nx (sAsg_n (m2_ok (mOp_ok (mCons_ok rfl mNil_ok) (bInt_i _ _)) rfl (fdiv2 _ _))) ?_)
      have e : wrapC x n / 2 ^ i / 2 = wrapC x n / 2 ^ (i + 1) := by
        rw [Int.ediv_ediv_of_nonneg (by have := p2 i; omega), Int.pow_succ]
      rw [e]
      rfl)
    (env := [some (.d (.int x)), some (.d (.int (n : Int))), some (.d (.int (wrapC x n))), some (.r 0), none]) (h := [.lst (iv [])]) ⟨none, by simp, rfl⟩
  obtain ⟨env', h', el, x4, e1, e2⟩ := loop
  subst e1 e2
  rw [rng_len] at el
  refine callFn_l (n := 0) (h' := [.lst (iv (bitsC (wrapC x n) n))]) (ds := [.int x, .int (n : Int)]) (es := (bitsC (wrapC x n) n).map fun b => .int (ib b)) rfl ?_ rfl (pures_iv _)
  exact fn_rt' rfl (sSeq_nx (sPar_ok (mCons_ok w0 (mCons_ok (mLst_ok mNil_ok (by simp)) mNil_ok)) rfl) (sSeq_nx (sFor_ok es el) (sSeq_rt (sRet_ok rfl))))
end K73

set_option Elab.async false
set_option linter.all false
set_option maxRecDepth 100000
set_option maxHeartbeats 1000000
namespace K73
open Ev
def it (bs : List Bool) : D := .tup true (bs.map fun b => .int (ib b))
theorem iv_map (bs : List Bool) : (bs.map fun b => D.int (ib b)).map Val.d = iv bs := by simp [iv]
theorem mkT_iv (bs : List Bool) : mkT (iv bs) = .d (it bs) := by
  rw [← iv_map, mkT_pure]
  rfl
theorem mulOk_ib (b : Bool) (j : Int) : mulOk (ib b) j = true := by cases b <;> rfl
theorem mul_i (i j : Int) (h : EH) (k : mulOk i j = true) : opMul (.d (.int i)) (.d (.int j)) h = .ok (.d (.int (i * j))) h := if_pos k
theorem add_i (i j : Int) (h : EH) : opAdd (.d (.int i)) (.d (.int j)) h = .ok (.d (.int (i + j))) h := rfl
theorem sub_i (i j : Int) (h : EH) : opSub (.d (.int i)) (.d (.int j)) h = .ok (.d (.int (i - j))) h := rfl
theorem slice_it (bs : List Bool) (lo hi : Option Int) (h : EH) (hf : bs.length ≤ 16777216) {cs : List Bool} (e : cutL (iv bs) lo hi = iv cs) : opSlice (.d (it bs)) lo hi h = .ok (.d (it cs)) h := by
  have lm : cs.length ≤ bs.length := by
    have z := congrArg List.length e
    rw [iv_len] at z
    rw [← z]
    unfold cutL
    simp
    omega
  have k : isK (.d (it bs)) = false := rfl
  have t : asT (.d (it bs)) = some (iv bs) := by
    show some _ = _
    rw [iv_map]
  have z : opSlice (.d (it bs)) lo hi h = newT (cutL (iv bs) lo hi) h := by
    unfold it at t k ⊢
    simp only [opSlice, t, k]
    rfl
  rw [z, e, newT_ok (by rw [iv_len]; omega), mkT_iv]
theorem cut_init (r : List Bool) (b : Bool) : cutL (iv (r ++ [b])) none (some (-1)) = iv r := by
  unfold cutL
  have z : HT.sIx (iv (r ++ [b])).length (iv (r ++ [b])).length (some (-1)) = r.length := by
    show (if (-1 : Int) < 0 then ((-1 : Int) + ((iv (r ++ [b])).length : Int)).toNat else min (-1 : Int).toNat (iv (r ++ [b])).length) = _
    rw [if_pos (by decide), iv_len]
    simp
    omega
  rw [z, HT.sIx_none, iv_snoc]
  simp
theorem idx_last_it (r : List Bool) (b : Bool) (h : EH) : opIdx (.d (it (r ++ [b]))) (.d (.int (-1))) h = .ok (.d (.int (ib b))) h := by
  show opIdx (.d (.tup true ((r ++ [b]).map fun b => .int (ib b)))) (.d (.int (-1))) h = _
  rw [opIdx_tup, iv_map]
  have e : atV (iv (r ++ [b])) (-1) = some (.d (.int (ib b))) := by
    have q : L2.ixN (iv (r ++ [b])).length (-1) = some r.length := by
      unfold L2.ixN
      rw [if_neg (by decide), if_pos (by simp; omega)]
      simp
      omega
    unfold atV
    rw [q, iv_snoc]
    show (iv r ++ [Val.d (.int (ib b))])[r.length]? = _
    have l : (iv r).length = r.length := iv_len r
    rw [← l]
    simp
  rw [e]
theorem integer_ok {bs : List Bool} (hb : bs ≠ []) (hl : bs.length ≤ 1000000) (h : EH) : callFn m__law_integer [.d (it bs)] h = .ok (.d (.int (tc bs))) h := by
  obtain ⟨r, b, rfl⟩ := snoc_of hb
  rw [List.length_append, List.length_singleton] at hl
  refine callFn_d (h' := []) rfl ?_
  have es : iVal (mSlice (mVar 0) (mPart none) (mPart (some (m1 opNeg (mCst (.d (.int 1))))))) [some (.d (it (r ++ [b]))), some (.d (.int 0)), some (.d (.int 1)), none] [] = .ok (.seq (iv r)) [] := by
    have z := iVal_tup (a := mSlice (mVar 0) (mPart none) (mPart (some (m1 opNeg (mCst (.d (.int 1))))))) (env := [some (.d (it (r ++ [b]))), some (.d (.int 0)), some (.d (.int 1)), none]) (h := []) (h1 := []) (b := true) (ds := r.map fun b => .int (ib b)) (mSlice_ok rfl mPart_n (mPart_s (m1_ok rfl rfl)) (slice_it _ _ _ _ (by simp; omega) (cut_init r b)))
    rw [iv_map] at z
    exact z
  have loop := loopL_inv (t := tgName 3) (b := sSeq (sPar [1, 2] (mCons (m2 opAdd (mVar 1) (m2 opMul (mVar 3) (mVar 2))) (mCons (m2 opMul (mVar 2) (mCst (.d (.int 2)))) mNil))) sNext) (xs := iv r)
    (fun i env h' => ∃ x3, env = [some (.d (it (r ++ [b]))), some (.d (.int (uv (r.take i)))), some (.d (.int (2 ^ i))), x3] ∧ h' = [])
    (fun i env h' hi ⟨x3, e1, e2⟩ => by
      subst e1 e2
      rw [iv_len] at hi
      have gi : (iv r)[i]'(by rw [iv_len]; exact hi) = .d (.int (ib (r.getD i false))) := by simp [iv, List.getD_eq_getElem?_getD, hi]
      refine ⟨[some (.d (it (r ++ [b]))), some (.d (.int (uv (r.take (i + 1))))), some (.d (.int (2 ^ (i + 1)))), some (.d (.int (ib (r.getD i false))))], [], ?_, _, rfl, rfl⟩
      rw [gi]
      show (sSeq (sPar [1, 2] (mCons (m2 opAdd (mVar 1) (m2 opMul (mVar 3) (mVar 2))) (mCons (m2 opMul (mVar 2) (mCst (.d (.int 2)))) mNil))) sNext) [some (.d (it (r ++ [b]))), some (.d (.int (uv (r.take i)))), some (.d (.int (2 ^ i))), some (.d (.int (ib (r.getD i false))))] [] = _
      refine sSeq_nx (sPar_ok (mCons_ok (m2_ok rfl (m2_ok rfl rfl (mul_i _ _ _ (mulOk_ib _ _))) (add_i _ _ _)) (mCons_ok (m2_ok rfl rfl (mul_i _ _ _ (mulOk_r _ (by decide)))) mNil_ok)) rfl) ?_
      rw [take_snoc hi, uv_snoc, List.length_take, Nat.min_eq_left (by omega), Int.pow_succ]
      rfl)
    (env := [some (.d (it (r ++ [b]))), some (.d (.int 0)), some (.d (.int 1)), none]) (h := []) ⟨none, by simp [uv], rfl⟩
  obtain ⟨env', h', el, x3, e1, e2⟩ := loop
  subst e1 e2
  rw [iv_len, List.take_length] at el
  rw [tc_snoc]
  exact fn_rt' rfl (sSeq_nx (sAsg_ok (mTup_ok (mCons_ok rfl (mCons_ok rfl mNil_ok)) (by simp)) rfl) (sSeq_nx (sFor_ok es el) (sSeq_rt (sRet_ok (m2_ok rfl (m2_ok (m2_ok rfl (m1_ok rfl rfl) (idx_last_it r b _)) rfl (mul_i _ _ _ (mulOk_ib _ _))) (sub_i _ _ _))))))
end K73

set_option Elab.async false
set_option linter.all false
set_option maxRecDepth 100000
set_option maxHeartbeats 1000000
namespace K73
open Ev
theorem isint_ok (i : Int) (h : EH) : callFn m_is_integer [.d (.int i)] h = .ok (.d (.bl true)) h := callFn_d (h' := []) rfl rfl
theorem bls_true : ∀ n : Nat, bls (List.replicate n (.d (.bl true))) = some (List.replicate n true)
  | 0 => rfl
  | n + 1 => by
    show (bls (List.replicate n (.d (.bl true)))).map (true :: ·) = _
    rw [bls_true n]
    rfl
theorem all_true (n : Nat) (h : EH) : bAll [.r h.length] (h ++ [.lst (List.replicate n (.d (.bl true)))]) = .ok (.d (.bl true)) (h ++ [.lst (List.replicate n (.d (.bl true)))]) := by
  have e : getM (.r h.length) (h ++ [.lst (List.replicate n (.d (.bl true)))]) = some (List.replicate n (.d (.bl true))) := by
    simp [getM, asT]
  unfold bAll
  simp only [e, bls_true]
  simp [okB]
theorem ints_ok {ns : List Nat} (hn : ns.length ≤ 16777216) (h : EH) : callFn m_are_integers [.d (rl ns)] h = .ok (.d (.bl true)) h := by
  have es : iVal (mVar 0) (startE 2 [.d (rl ns)]) [] = .ok (.seq (ri ns)) [] := iVal_rl rfl
  have ec := compL_pure (k := 1) (e := mCall m_is_integer [] (mCons (mVar 1) mNil)) (env := wipeE (startE 2 [.d (rl ns)]) [1]) (h := []) (fun _ => .d (.bl true)) (xs := ri ns) (fun x m => by
    obtain ⟨n, _, e⟩ := List.mem_map.mp m
    subst e
    exact mCall_ok (mCons_ok rfl mNil_ok) (isint_ok _ _))
  have em : (ri ns).map (fun _ => Val.d (.bl true)) = List.replicate ns.length (.d (.bl true)) := by
    rw [List.eq_replicate_iff]
    exact ⟨by simp, fun b m => by obtain ⟨_, _, e⟩ := List.mem_map.mp m; exact e.symm⟩
  rw [em] at ec
  have mc := mComp_seq (w := wd) es ec (by simp; exact hn)
  refine callFn_d (h' := [.lst (List.replicate ns.length (.d (.bl true)))]) rfl ?_
  have ba := mOp_ok (mCons_ok mc mNil_ok) (all_true ns.length [])
  refine fn_rt' rfl (sSeq_rt (sRet_ok ?_))
  have t : mVal (mIsi 3 (mVar 0)) (startE 2 [.d (rl ns)]) [] = .ok (.d (.bl true)) [] := rfl
  unfold mAndV
  rw [t]
  exact ba
end K73

set_option Elab.async false
set_option linter.all false
set_option maxRecDepth 100000
set_option maxHeartbeats 1000000
namespace K73
open Ev
def gargs : G → List Nat
  | .zero => []
  | .one => []
  | .not a => [a]
  | .and a b => [a, b]
  | .or a b => [a, b]
  | .xor a b => [a, b]
theorem g_ne (g : G) (h : EH) : opEq (.d g.d) (.d (.tup true [])) h = .ok (.d (.bl false)) h := by
  have e : ∀ d ds, PySem.PyData.canLay0 (D.tup true (d :: ds)).py = true → (D.tup true (d :: ds)).py.depth ≤ 64 → opEq (.d (.tup true (d :: ds))) (.d (.tup true [])) h = .ok (.d (.bl false)) h := fun d ds h1 h2 => by
    have z : eqAny (.d (.tup true (d :: ds))) (.d (.tup true [])) h = some false := by
      have s1 : PySem.SeqAt.shaped (D.tup true (d :: ds)).py = true := by
        unfold PySem.SeqAt.shaped
        rw [h1, decide_eq_true h2]
        rfl
      have s2 : PySem.SeqAt.shaped (D.tup true []).py = true := by decide +kernel
      unfold eqAny
      simp only [vpy, s1, s2]
      simp [D.py, D.pys, PySem.PyData.eqv, PySem.PyData.eqvAll]
    show (match eqAny (.d (.tup true (d :: ds))) (.d (.tup true [])) h with
      | some b => okB b h
      | none => .bad) = _
    rw [z]
    rfl
  cases g <;> refine e _ _ ?_ ?_ <;> simp [D.py, D.pys, PySem.PyData.canLay0, PySem.PyData.canLayAll0, PySem.PyData.depth, PySem.PyData.depthAll] <;> decide +kernel
theorem g_word (g : G) (h : EH) : opIdx (.d g.d) (.d (.int 0)) h = .ok (.d (.str g.word)) h := by cases g <;> rfl
theorem g_args (g : G) (h : EH) : opSlice (.d g.d) (some 1) none h = .ok (.d (rl (gargs g))) h := by cases g <;> rfl
theorem g_tab (g : G) : tabAt (tabI T_SIZES) g.word = some (.int ((gargs g).length : Int)) := by cases g <;> rfl
theorem g_len (g : G) (h : EH) : bLen [.d g.d] h = .ok (.d (.int (1 + (gargs g).length : Int))) h := by cases g <;> rfl
theorem gargs_len (g : G) : (gargs g).length ≤ 2 := by cases g <;> simp [gargs]
theorem g_ty (g : G) (h : EH) : tyNo (.d g.d) h = some 3 := by cases g <;> rfl
theorem is_gate_ok (g : G) (h : EH) : callFn m_is_gate [.d g.d] h = .ok (.d (.bl true)) h := by
  refine callFn_d (h' := []) rfl ?_
  have i0 : mIdx (mVar 0) (mCst (.d (.int 0))) (startE 1 [.d g.d]) [] = .ok (.d (.str g.word)) [] := m2_ok rfl rfl (g_word g [])
  have c1 : mVal (mIsi 3 (mVar 0)) (startE 1 [.d g.d]) [] = .ok (.d (.bl true)) [] := by
    have e : mIsi 3 (mVar 0) (startE 1 [.d g.d]) [] = .ok true [] := by
      show (match tyNo (.d g.d) [] with
        | some v => R.ok (isTy v 3) []
        | none => .bad) = _
      rw [g_ty]
      rfl
    unfold mVal
    rw [e]
    rfl
  have c3 : mVal (mIsi 2 (mIdx (mVar 0) (mCst (.d (.int 0))))) (startE 1 [.d g.d]) [] = .ok (.d (.bl true)) [] := by
    unfold mVal mIsi
    rw [i0]
    rfl
  have c4 : mTabIn true (tabI T_SIZES) (mIdx (mVar 0) (mCst (.d (.int 0)))) (startE 1 [.d g.d]) [] = .ok false [] := by
    unfold mTabIn
    rw [i0, bind_mk]
    show (match tabAt (tabI T_SIZES) g.word with
      | some _ => R.ok (!true) []
      | none => .bad) = _
    rw [g_tab]
    rfl
  have t1 : mTab (tabI T_SIZES) (mIdx (mVar 0) (mCst (.d (.int 0)))) (startE 1 [.d g.d]) [] = .ok (.d (.int ((gargs g).length : Int))) [] := by
    unfold mTab
    rw [i0, bind_mk]
    simp only [g_tab]
  have r1 : mCall m_are_integers [] (mCons (mSlice (mVar 0) (mPart (some (mCst (.d (.int 1))))) (mPart none)) mNil) (startE 1 [.d g.d]) [] = .ok (.d (.bl true)) [] := mCall_ok (mCons_ok (mSlice_ok rfl (mPart_s rfl) mPart_n (g_args g [])) mNil_ok) (ints_ok (by have := gargs_len g; omega) [])
  have r2 : m2 opEq (mOp bLen (mCons (mVar 0) mNil)) (m2 opAdd (mCst (.d (.int 1))) (mTab (tabI T_SIZES) (mIdx (mVar 0) (mCst (.d (.int 0)))))) (startE 1 [.d g.d]) [] = .ok (.d (.bl true)) [] := by
    refine m2_ok (mOp_ok (mCons_ok rfl mNil_ok) (g_len g [])) (m2_ok rfl t1 (add_i _ _ _)) ?_
    show okB (decide _) [] = _
    rw [decide_eq_true rfl]
    rfl
  refine fn_rt' rfl (sSeq_nx (sIf_f (mOr_f (mNot_ok (mTruth_b c1)) (mOr_f (mB_ok (m2_ok rfl rfl (g_ne g []))) (mOr_f (mNot_ok (mTruth_b c3)) c4))) rfl) (sSeq_rt (sRet_ok ?_)))
  unfold mAndV
  rw [r1]
  exact r2
end K73

set_option Elab.async false
set_option linter.all false
set_option maxRecDepth 100000
set_option maxHeartbeats 1000000
namespace K73
open Ev
theorem chain_ok {env : Env'} {h h1 h2 h3 : EH} {op op' : Val → Val → EH → R Val} {a b c : M Val} {x y z : Val} {k : Bool} (ea : a env h = .ok x h1) (eb : b env h1 = .ok y h2) (e1 : op x y h2 = .ok (.d (.bl true)) h2) (ec : c env h2 = .ok z h3) (e2 : op' y z h3 = .ok (.d (.bl k)) h3) : mChain op op' a b c env h = .ok (.d (.bl k)) h3 := by
  unfold mChain
  rw [ea, bind_mk, eb, bind_mk, e1, bind_mk]
  show (R.ok true h2).bind _ = _
  rw [bind_mk, if_pos rfl, ec, bind_mk, e2]
theorem le_i {i j : Int} (h : EH) (c : i ≤ j) : opLe (.d (.int i)) (.d (.int j)) h = .ok (.d (.bl true)) h := by
  show okB (decide (i ≤ j)) h = _
  rw [decide_eq_true c]
  rfl
theorem lt_i (i j : Int) (h : EH) {k : Bool} (e : decide (i < j) = k) : opLt (.d (.int i)) (.d (.int j)) h = .ok (.d (.bl k)) h := by
  show okB (decide (i < j)) h = _
  rw [e]
  rfl
theorem comp_true {env : Env'} {h h1 : EH} {src : M Src} {e : M Val} {ns : List Nat} {k : Nat} {own : List Nat} (es : src env h = .ok (.seq (ri ns)) h1) (hn : ns.length ≤ 16777216) (p : ∀ n, n ∈ ns → e ((wipeE env own).set k (some (.d (.int (n : Int))))) h1 = .ok (.d (.bl true)) h1) :
    mOp bAll (mCons (mComp wd src (.one k) mYes e own) mNil) env h = .ok (.d (.bl true)) (h1 ++ [.lst (List.replicate ns.length (.d (.bl true)))]) := by
  have ec := compL_pure (k := k) (e := e) (env := wipeE env own) (h := h1) (fun _ => .d (.bl true)) (xs := ri ns) (fun x m => by
    obtain ⟨n, mn, e⟩ := List.mem_map.mp m
    subst e
    exact p n mn)
  have em : (ri ns).map (fun _ => Val.d (.bl true)) = List.replicate ns.length (.d (.bl true)) := by
    rw [List.eq_replicate_iff]
    exact ⟨by simp, fun b m => by obtain ⟨_, _, e⟩ := List.mem_map.mp m; exact e.symm⟩
  rw [em] at ec
  have mc := mComp_seq (w := wd) es ec (by simp; exact hn)
  exact mOp_ok (mCons_ok mc mNil_ok) (all_true ns.length h1)
theorem gargs_lt {n : Nat} {g : G} (h : g.lt n) : ∀ a, a ∈ gargs g → a < n := by
  cases g <;> simp [gargs, G.lt] at h ⊢ <;> omega
theorem netD0 (w : Nat) (gs : List G) (es : List Nat) (h : EH) : opIdx (.d (netD w gs es)) (.d (.int 0)) h = .ok (.d (.int (w : Int))) h := rfl
theorem netD1 (w : Nat) (gs : List G) (es : List Nat) (h : EH) : opIdx (.d (netD w gs es)) (.d (.int 1)) h = .ok (.d (.tup true (gs.map G.d))) h := rfl
theorem netD2 (w : Nat) (gs : List G) (es : List Nat) (h : EH) : opIdx (.d (netD w gs es)) (.d (.int 2)) h = .ok (.d (rl es)) h := rfl
theorem gl_len (gs : List G) (h : EH) : bLen [.d (.tup true (gs.map G.d))] h = .ok (.d (.int (gs.length : Int))) h := by
  simp [bLen, getS, asT, okI]
end K73

set_option Elab.async false
set_option linter.all false
set_option maxRecDepth 100000
set_option maxHeartbeats 1000000
namespace K73
open Ev
variable {w : Nat} {gs : List G}
theorem mNot_t {a : M Bool} {env : Env'} {h h1 : EH} (ea : a env h = .ok true h1) : mNot a env h = .ok false h1 := mNot_ok ea
theorem iEnumA_tup {ma : M (List Val)} {env : Env'} {h h1 : EH} {b : Bool} {ds : List D} (ea : ma env h = .ok [.d (.tup b ds)] h1) : iEnumA ma env h = .ok (.seq (numb 0 (ds.map .d))) h1 := by
  unfold iEnumA
  rw [ea]
  rfl
abbrev ckWire : M Val := mOp bAll (mCons (mComp wd (iVal (mSlice (mVar 2) (mPart (some (mCst (.d (.int 1))))) (mPart none))) (.one 3) mYes (mChain opLe opLt (mCst (.d (.int 0))) (mVar 3) (m2 opAdd (mIdx (mVar 0) (mCst (.d (.int 0)))) (mVar 1))) [3]) mNil)
abbrev ckBody : MS := sSeq (sIf (mNot (mTruth (mCall m_is_gate [] (mCons (mVar 2) mNil)))) (sSeq (fun _ _ => .bad) sNext) sNext) (sSeq (sIf (mNot (mTruth ckWire)) (sSeq (fun _ _ => .bad) sNext) sNext) sNext)
theorem checked_ok (wf : WF w gs) {es : List Nat} (he : ∀ n, n ∈ es → n < w + gs.length) (hl : es.length ≤ 16777216) (h : EH) : callFn m_checked_net [.d (netD w gs es)] h = .ok (.d (netD w gs es)) h := by
  have E0 : startE 4 [.d (netD w gs es)] = [some (.d (netD w gs es)), none, none, none] := rfl
  have es1 : iEnumA (mCons (mIdx (mVar 0) (mCst (.d (.int 1)))) mNil) [some (.d (netD w gs es)), none, none, none] [] = .ok (.seq (numb 0 (gl gs))) [] := by
    have e : (gs.map G.d).map Val.d = gl gs := by simp [gl]
    rw [← e]
    exact iEnumA_tup (b := true) (mCons_ok (m2_ok rfl rfl (netD1 w gs es [])) mNil_ok)
  have nl : (numb 0 (gl gs)).length = gs.length := by rw [numb_len]; simp [gl]
  have loop := loopL_inv (t := tgTup 2 (tgCons (tgName 1) (tgCons (tgName 2) tgNil))) (b := ckBody) (xs := numb 0 (gl gs))
    (fun i env h' => ∃ x1 x2 x3, env = [some (.d (netD w gs es)), x1, x2, x3])
    (fun i env h' hi ⟨x1, x2, x3, e1⟩ => by
      subst e1
      have hi2 : i < gs.length := by rw [nl] at hi; exact hi
      have gi : (gl gs)[i]'(by simp [gl]; exact hi2) = .d gs[i].d := by simp [gl]
      rw [numb_get, gi]
      have lt := wf i gs[i] (List.getElem?_eq_getElem hi2)
      have cw := comp_true (env := [some (.d (netD w gs es)), some (.d (.int (i : Int))), some (.d gs[i].d), x3]) (h := h') (h1 := h') (src := iVal (mSlice (mVar 2) (mPart (some (mCst (.d (.int 1))))) (mPart none))) (e := mChain opLe opLt (mCst (.d (.int 0))) (mVar 3) (m2 opAdd (mIdx (mVar 0) (mCst (.d (.int 0)))) (mVar 1))) (ns := gargs gs[i]) (k := 3) (own := [3])
        (iVal_rl (mSlice_ok rfl (mPart_s rfl) mPart_n (g_args gs[i] h'))) (by have := gargs_len gs[i]; omega)
        (fun n mn => chain_ok rfl rfl (le_i _ (by omega)) (m2_ok (m2_ok rfl rfl (netD0 w gs es h')) rfl (add_i _ _ _)) (lt_i _ _ _ (decide_eq_true (by have := gargs_lt lt n mn; omega))))
      refine ⟨[some (.d (netD w gs es)), some (.d (.int (i : Int))), some (.d gs[i].d), x3], h' ++ [.lst (List.replicate (gargs gs[i]).length (.d (.bl true)))], ?_, _, _, _, rfl⟩
      have tg : tgTup 2 (tgCons (tgName 1) (tgCons (tgName 2) tgNil)) (mkT [.d (.int (i : Int)), .d gs[i].d]) [some (.d (netD w gs es)), x1, x2, x3] h' = .ok [some (.d (netD w gs es)), some (.d (.int (i : Int))), some (.d gs[i].d), x3] h' := rfl
      rw [tg, run_ok]
      exact sSeq_nx (sIf_f (mNot_t (mTruth_b (mCall_ok (mCons_ok rfl mNil_ok) (is_gate_ok gs[i] h')))) rfl) (sSeq_nx (sIf_f (mNot_t (mTruth_b cw)) rfl) rfl))
    (env := [some (.d (netD w gs es)), none, none, none]) (h := []) ⟨none, none, none, rfl⟩
  obtain ⟨env', h', el, x1, x2, x3, e1⟩ := loop
  subst e1
  have cw := comp_true (env := [some (.d (netD w gs es)), x1, x2, x3]) (h := h') (h1 := h') (src := iVal (mIdx (mVar 0) (mCst (.d (.int 2))))) (e := mChain opLe opLt (mCst (.d (.int 0))) (mVar 3) (m2 opAdd (mIdx (mVar 0) (mCst (.d (.int 0)))) (mOp bLen (mCons (mIdx (mVar 0) (mCst (.d (.int 1)))) mNil)))) (ns := es) (k := 3) (own := [3])
    (iVal_rl (m2_ok rfl rfl (netD2 w gs es h'))) hl
    (fun n mn => chain_ok rfl rfl (le_i _ (by omega)) (m2_ok (m2_ok rfl rfl (netD0 w gs es h')) (mOp_ok (mCons_ok (m2_ok rfl rfl (netD1 w gs es h')) mNil_ok) (gl_len gs h')) (add_i _ _ _)) (lt_i _ _ _ (decide_eq_true (by have := he n mn; omega))))
  have t3 : ∀ (a : M Val) (ds : List D) (env : Env') (h : EH), a env h = .ok (.d (.tup true ds)) h → mVal (mIsi 3 a) env h = .ok (.d (.bl true)) h := fun a ds env h e => by
    unfold mVal mIsi
    rw [e]
    rfl
  refine callFn_d (h' := h' ++ [.lst (List.replicate es.length (.d (.bl true)))]) rfl ?_
  refine fn_rt' rfl (sSeq_nx (sIf_f (mOr_f (mNot_t (mTruth_b (t3 _ _ _ _ rfl))) (mOr_f (mB_ok (b := false) (m2_ok (mOp_ok (mCons_ok rfl mNil_ok) rfl) rfl rfl)) (mNot_t (mTruth_b (mCall_ok (mCons_ok (m2_ok rfl rfl (netD0 w gs es _)) mNil_ok) (isint_ok _ _)))))) rfl) ?_)
  refine sSeq_nx (sIf_f (mOr_f (mB_ok (m2_ok (m2_ok rfl rfl (netD0 w gs es _)) rfl (lt_i _ _ _ (decide_eq_false (by omega))))) (mOr_f (mNot_t (mTruth_b (t3 _ _ _ _ (m2_ok rfl rfl (netD1 w gs es _))))) (mNot_t (mTruth_b (t3 _ _ _ _ (m2_ok rfl rfl (netD2 w gs es _))))))) rfl) ?_
  refine sSeq_nx (sFor_ok es1 el) (sSeq_nx (sIf_f (mNot_t (mTruth_b (mCall_ok (mCons_ok (m2_ok rfl rfl (netD2 w gs es _)) mNil_ok) (ints_ok hl _)))) rfl) (sSeq_nx (sIf_f (mNot_t (mTruth_b cw)) rfl) (sSeq_rt (sRet_ok rfl))))
end K73

set_option Elab.async false
set_option linter.all false
set_option maxRecDepth 100000
set_option maxHeartbeats 1000000
namespace K73
open Ev
variable {w : Nat} {gs : List G}
/-! ### flow -/
theorem eqs (s t : List Nat) (h : EH) {b : Bool} (e : decide (s = t) = b) : opEq (.d (.str s)) (.d (.str t)) h = .ok (.d (.bl b)) h := by
  show okB (decide (s = t)) h = _
  rw [e]
  rfl
theorem band_b (a b : Bool) : PySem.Builtin.bitAnd (ib a) (ib b) = ib (a && b) := by cases a <;> cases b <;> decide
theorem bor_b (a b : Bool) : PySem.Builtin.bitOr (ib a) (ib b) = ib (a || b) := by cases a <;> cases b <;> decide
theorem bxor_b (a b : Bool) : PySem.Builtin.bitXor (ib a) (ib b) = ib (a ^^ b) := by cases a <;> cases b <;> decide
def gvals (v : Nat → Bool) (g : G) : List Bool := (gargs g).map v
/-- what a gate tells, given a list -/
theorem driven_ok (v : Nat → Bool) (g : G) {h : EH} (hc : allLt h.length h = true) : callFn m_driven [.d (.str g.word), .r h.length] (h ++ [.lst (iv (gvals v g))]) = .ok (.d (.int (ib (g.ev v)))) (h ++ [.lst (iv (gvals v g))]) := by
  have idx : ∀ (i : Nat) (x : Bool), (iv (gvals v g))[i]? = some (.d (.int (ib x))) → opIdx (.r h.length) (.d (.int (i : Int))) (h ++ [.lst (iv (gvals v g))]) = .ok (.d (.int (ib x))) (h ++ [.lst (iv (gvals v g))]) := fun i x e => by
    have l := (List.getElem?_eq_some_iff.mp e).1
    rw [opIdx_l (xs := iv (gvals v g)) (by simp)]
    have q : atV (iv (gvals v g)) (i : Int) = some (.d (.int (ib x))) := by
      unfold atV L2.ixN
      rw [if_pos (by omega), if_pos (by omega)]
      exact e
    rw [q]
  have key : m_driven [.d (.str g.word), .r h.length] (h ++ [.lst (iv (gvals v g))]) = .ok (.d (.int (ib (g.ev v)))) (h ++ [.lst (iv (gvals v g))]) := by
    cases g with
    | and a b =>
      refine fn_rt' rfl (sSeq_rt (sIf_t (mB_ok (m2_ok rfl rfl (eqs _ _ _ rfl))) (sSeq_rt (sRet_ok (m2_ok (m2_ok rfl rfl (idx 0 (v a) rfl)) (m2_ok rfl rfl (idx 1 (v b) rfl)) ?_)))))
      show R.ok (Val.d (.int (PySem.Builtin.bitAnd (ib (v a)) (ib (v b))))) _ = _
      rw [band_b]
      rfl
    | or a b =>
      refine fn_rt' rfl (sSeq_nx (sIf_f (mB_ok (m2_ok rfl rfl (eqs _ _ _ rfl))) rfl) (sSeq_rt (sIf_t (mB_ok (m2_ok rfl rfl (eqs _ _ _ rfl))) (sSeq_rt (sRet_ok (m2_ok (m2_ok rfl rfl (idx 0 (v a) rfl)) (m2_ok rfl rfl (idx 1 (v b) rfl)) ?_))))))
      show R.ok (Val.d (.int (PySem.Builtin.bitOr (ib (v a)) (ib (v b))))) _ = _
      rw [bor_b]
      rfl
    | xor a b =>
      refine fn_rt' rfl (sSeq_nx (sIf_f (mB_ok (m2_ok rfl rfl (eqs _ _ _ rfl))) rfl) (sSeq_nx (sIf_f (mB_ok (m2_ok rfl rfl (eqs _ _ _ rfl))) rfl) (sSeq_rt (sIf_t (mB_ok (m2_ok rfl rfl (eqs _ _ _ rfl))) (sSeq_rt (sRet_ok (m2_ok (m2_ok rfl rfl (idx 0 (v a) rfl)) (m2_ok rfl rfl (idx 1 (v b) rfl)) ?_)))))))
      show R.ok (Val.d (.int (PySem.Builtin.bitXor (ib (v a)) (ib (v b))))) _ = _
      rw [bxor_b]
      rfl
    | not a =>
      refine fn_rt' rfl (sSeq_nx (sIf_f (mB_ok (m2_ok rfl rfl (eqs _ _ _ rfl))) rfl) (sSeq_nx (sIf_f (mB_ok (m2_ok rfl rfl (eqs _ _ _ rfl))) rfl) (sSeq_nx (sIf_f (mB_ok (m2_ok rfl rfl (eqs _ _ _ rfl))) rfl) (sSeq_rt (sRet_ok (mIf_t (mB_ok (m2_ok rfl rfl (eqs _ _ _ rfl))) (m2_ok rfl (m2_ok rfl rfl (idx 0 (v a) rfl)) ?_)))))))
      show R.ok (Val.d (.int (1 - ib (v a)))) _ = R.ok (Val.d (.int (ib (!v a)))) _
      cases v a <;> rfl
    | one => exact fn_rt' rfl (sSeq_nx (sIf_f (mB_ok (m2_ok rfl rfl (eqs _ _ _ rfl))) rfl) (sSeq_nx (sIf_f (mB_ok (m2_ok rfl rfl (eqs _ _ _ rfl))) rfl) (sSeq_nx (sIf_f (mB_ok (m2_ok rfl rfl (eqs _ _ _ rfl))) rfl) (sSeq_rt (sRet_ok (mIf_f (mB_ok (m2_ok rfl rfl (eqs _ _ _ rfl))) (mOp_ok (mCons_ok (m2_ok rfl rfl (eqs _ _ _ rfl)) mNil_ok) rfl)))))))
    | zero => exact fn_rt' rfl (sSeq_nx (sIf_f (mB_ok (m2_ok rfl rfl (eqs _ _ _ rfl))) rfl) (sSeq_nx (sIf_f (mB_ok (m2_ok rfl rfl (eqs _ _ _ rfl))) rfl) (sSeq_nx (sIf_f (mB_ok (m2_ok rfl rfl (eqs _ _ _ rfl))) rfl) (sSeq_rt (sRet_ok (mIf_f (mB_ok (m2_ok rfl rfl (eqs _ _ _ rfl))) (mOp_ok (mCons_ok (m2_ok rfl rfl (eqs _ _ _ rfl)) mNil_ok) rfl)))))))
  have lv : ∀ (n : Nat) (bs : List Bool), allLt n [.lst (iv bs)] = true := fun n bs => by
    show (Val.lts n (iv bs) && true) = true
    rw [Bool.and_true]
    induction bs with
    | nil => rfl
    | cons a r ih =>
      show (Val.lt n (.d (.int (ib a))) && Val.lts n (iv r)) = true
      rw [ih]
      rfl
  show callSh m_driven [.d (.str g.word), .r h.length] (h ++ [.lst (iv (gvals v g))]) = _
  exact call_end (j := []) (by rw [List.append_nil]; exact key) rfl rfl (by rw [List.length_append]; exact all_app (all_mono (Nat.le_add_right _ _) hc) (lv _ _))
end K73

set_option Elab.async false
set_option linter.all false
set_option maxRecDepth 100000
set_option maxHeartbeats 1000000
namespace K73
open Ev
variable {w : Nat} {gs : List G}
theorem iv_all (n : Nat) (bs : List Bool) : allLt n [.lst (iv bs)] = true := by
  show (Val.lts n (iv bs) && true) = true
  rw [Bool.and_true]
  induction bs with
  | nil => rfl
  | cons a r ih =>
    show (Val.lt n (.d (.int (ib a))) && Val.lts n (iv r)) = true
    rw [ih]
    rfl
/-- an append to a list that stands anywhere -/
theorem mBM_at {mo : M Val} {ma : M (List Val)} {env : Env'} {h1 h2 : EH} {n : Nat} {xs : List Val} {y : Val} (eo : mo env h1 = .ok (.r n) h1) (et : tyNo (.r n) h1 = some 4) (ea : ma env h1 = .ok [y] h2) (en : h2[n]? = some (.lst xs)) (hf : xs.length + 1 ≤ 16777216) : mBM 4 lAppend mo ma env h1 = .ok (.d .non) (h2.set n (.lst (xs ++ [y]))) := by
  unfold mBM
  rw [eo, bind_mk, et]
  show (if Nat.beq 4 4 = true then (ma env h1).bind fun xs h2 => noX (lAppend (.r n) xs h2) else .bad) = _
  rw [if_pos (show Nat.beq 4 4 = true from rfl), ea, bind_mk]
  have g : getL (.r n) h2 = some xs := by simp [getL, en]
  unfold lAppend
  simp only [g]
  simp only [putL, fits_of (show (xs ++ [y]).length ≤ 16777216 by simpa using hf)]
  rfl
theorem found_idx {bs : List Bool} {j : EH} {n : Nat} (hn : n < bs.length) : opIdx (.r 0) (.d (.int (n : Int))) (.lst (iv bs) :: j) = .ok (.d (.int (ib (at' bs n)))) (.lst (iv bs) :: j) := by
  rw [opIdx_l (xs := iv bs) rfl]
  have q : atV (iv bs) (n : Int) = some (.d (.int (ib (at' bs n)))) := by
    unfold atV L2.ixN
    rw [if_pos (by omega), if_pos (by rw [iv_len]; omega)]
    show (iv bs)[n]? = _
    simp [iv, at', List.getD_eq_getElem?_getD, hn]
  rw [q]
/-- the values of some wires -/
theorem found_comp {bs : List Bool} {j : EH} {env : Env'} {src : M Src} {ns : List Nat} {k : Nat} {own : List Nat} {f : Nat} (hs : src env (.lst (iv bs) :: j) = .ok (.seq (ri ns)) (.lst (iv bs) :: j)) (hn : ∀ n, n ∈ ns → n < bs.length) (hl : ns.length ≤ 16777216)
    (ef : ∀ x, ((wipeE env own).set k x)[f]? = some (some (.r 0))) (ek : ∀ x, ((wipeE env own).set k x)[k]? = some x) :
    mComp wd src (.one k) mYes (mIdx (mVar f) (mVar k)) own env (.lst (iv bs) :: j) = .ok (.r (j.length + 1)) (.lst (iv bs) :: (j ++ [.lst (iv (ns.map (at' bs)))])) := by
  have ec : compL (.one k) mYes (mIdx (mVar f) (mVar k)) (wipeE env own) (ri ns) (.lst (iv bs) :: j) = .ok (iv (ns.map (at' bs))) (.lst (iv bs) :: j) := by
    have q := compL_pure (k := k) (e := mIdx (mVar f) (mVar k)) (env := wipeE env own) (h := .lst (iv bs) :: j) (fun x => match x with
      | .d (.int i) => .d (.int (ib (at' bs i.toNat)))
      | x => x) (xs := ri ns) (fun x m => by
      obtain ⟨n, mn, e⟩ := List.mem_map.mp m
      subst e
      have v1 : mVar f ((wipeE env own).set k (some (.d (.int (n : Int))))) (.lst (iv bs) :: j) = .ok (.r 0) (.lst (iv bs) :: j) := by
        unfold mVar
        rw [ef]
      have v2 : mVar k ((wipeE env own).set k (some (.d (.int (n : Int))))) (.lst (iv bs) :: j) = .ok (.d (.int (n : Int))) (.lst (iv bs) :: j) := by
        unfold mVar
        rw [ek]
      exact m2_ok v1 v2 (found_idx (hn n mn)))
    rw [q]
    congr 1
    simp [ri, iv]
  have mc := mComp_seq (w := wd) hs ec (by simp; exact hl)
  rw [mc]
  simp
end K73

set_option Elab.async false
set_option linter.all false
set_option maxRecDepth 100000
set_option maxHeartbeats 1000000
namespace K73
open Ev
variable {w : Nat} {gs : List G}
abbrev flArg : M (List Val) := mCons (mIdx (mVar 3) (mCst (.d (.int 0)))) (mCons (mComp wd (iVal (mSlice (mVar 3) (mPart (some (mCst (.d (.int 1))))) (mPart none))) (.one 4) mYes (mIdx (mVar 2) (mVar 4)) [4]) mNil)
abbrev flBody : MS := sSeq (sExpr (mBM 4 lAppend (mVar 2) (mCons (mCall m_driven [] flArg) mNil))) sNext
theorem bTuple_iv (h : EH) (bs : List Bool) (n : Nat) (hn : h[n]? = some (.lst (iv bs))) (hf : bs.length ≤ 16777216) : bTuple [.r n] h = .ok (.d (it bs)) h := by
  have e : asT (.r n) = none := rfl
  have g : getS (.r n) h = some (iv bs) := by simp [getS, asT, getL, hn]
  unfold bTuple
  simp only [e, g]
  rw [newT_ok (by rw [iv_len]; exact hf), mkT_iv]
theorem take_runG (xs : List Bool) {i : Nat} (hi : i < gs.length) : runG xs (gs.take (i + 1)) = runG xs (gs.take i) ++ [(gs[i]).ev (at' (runG xs (gs.take i)))] := by
  rw [List.take_add_one, List.getElem?_eq_getElem hi]
  show runG xs (gs.take i ++ [gs[i]]) = _
  rw [runG_append]
  rfl
theorem flow_ok (wf : WF w gs) {es : List Nat} (he : ∀ n, n ∈ es → n < w + gs.length) (hl : es.length ≤ 16777216) (hg : w + gs.length ≤ 16000000) {xs : List Bool} (hx : xs.length = w) (h : EH) : callFn m_flow [.d (netD w gs es), .d (it xs)] h = .ok (.d (it (es.map (V xs gs)))) h := by
  have b0 : bList [.d (it xs)] [] = .ok (.r 0) [.lst (iv xs)] := by
    have g : getS (.d (it xs)) [] = some (iv xs) := by
      show some ((xs.map fun b => D.int (ib b)).map Val.d) = _
      rw [iv_map]
    unfold bList
    simp only [g]
    rw [newL_ok (by rw [iv_len]; omega)]
    rfl
  have es1 : iVal (mIdx (mVar 0) (mCst (.d (.int 1)))) [some (.d (netD w gs es)), some (.d (it xs)), some (.r 0), none, none] [.lst (iv xs)] = .ok (.seq (gl gs)) [.lst (iv xs)] := by
    have e : (gs.map G.d).map Val.d = gl gs := by simp [gl]
    rw [← e]
    exact iVal_tup (b := true) (m2_ok rfl rfl (netD1 w gs es _))
  have nl : (gl gs).length = gs.length := by simp [gl]
  have loop := loopL_inv (t := tgName 3) (b := flBody) (xs := gl gs)
    (fun i env h' => ∃ x3 x4 j, env = [some (.d (netD w gs es)), some (.d (it xs)), some (.r 0), x3, x4] ∧ h' = .lst (iv (runG xs (gs.take i))) :: j ∧ ∀ n, allLt n j = true)
    (fun i env h' hi ⟨x3, x4, j, e1, e2, hj⟩ => by
      subst e1 e2
      have hi2 : i < gs.length := by rw [nl] at hi; exact hi
      have gi : (gl gs)[i] = .d gs[i].d := by simp [gl]
      rw [gi]
      have lt := wf i gs[i] (List.getElem?_eq_getElem hi2)
      have lc : (runG xs (gs.take i)).length = w + i := by rw [runG_len, List.length_take, hx]; omega
      rw [take_runG xs hi2]
      generalize runG xs (gs.take i) = cur at lc
      have fc := found_comp (bs := cur) (j := j) (env := [some (.d (netD w gs es)), some (.d (it xs)), some (.r 0), some (.d gs[i].d), x4]) (src := iVal (mSlice (mVar 3) (mPart (some (mCst (.d (.int 1))))) (mPart none))) (ns := gargs gs[i]) (k := 4) (own := [4]) (f := 2) (iVal_rl (mSlice_ok rfl (mPart_s rfl) mPart_n (g_args gs[i] _))) (fun n mn => by rw [lc]; exact gargs_lt lt n mn) (by have := gargs_len gs[i]; omega) (fun x => rfl) (fun x => rfl)
      have hc : ∀ n, allLt n (.lst (iv cur) :: j) = true := fun n => all_app (a := [.lst (iv cur)]) (iv_all n cur) (hj n)
      have dr := driven_ok (at' cur) gs[i] (hc _)
      have cl : mCall m_driven [] flArg [some (.d (netD w gs es)), some (.d (it xs)), some (.r 0), some (.d gs[i].d), x4] (.lst (iv cur) :: j) = .ok (.d (.int (ib (gs[i].ev (at' cur))))) (.lst (iv cur) :: (j ++ [.lst (iv ((gargs gs[i]).map (at' cur)))])) :=
        mCall_ok (mCons_ok (m2_ok rfl rfl (g_word gs[i] _)) (mCons_ok fc mNil_ok)) dr
      have ap := mBM_at (mo := mVar 2) (env := [some (.d (netD w gs es)), some (.d (it xs)), some (.r 0), some (.d gs[i].d), x4]) (h1 := .lst (iv cur) :: j) (n := 0) (xs := iv cur) rfl rfl (mCons_ok cl mNil_ok) rfl (by rw [iv_len]; omega)
      refine ⟨[some (.d (netD w gs es)), some (.d (it xs)), some (.r 0), some (.d gs[i].d), x4], .lst (iv (cur ++ [gs[i].ev (at' cur)])) :: (j ++ [.lst (iv ((gargs gs[i]).map (at' cur)))]), ?_, _, _, _, rfl, rfl, fun n => all_app (hj n) (iv_all n _)⟩
      rw [iv_snoc]
      exact sSeq_nx (sExpr_ok ap) rfl)
    (env := [some (.d (netD w gs es)), some (.d (it xs)), some (.r 0), none, none]) (h := [.lst (iv xs)]) ⟨none, none, [], rfl, rfl, fun n => rfl⟩
  obtain ⟨env', h', el, x3, x4, j, e1, e2, hj⟩ := loop
  subst e1 e2
  rw [nl, List.take_length] at el
  have lc : (runG xs gs).length = w + gs.length := by rw [runG_len, hx]
  have fc := found_comp (bs := runG xs gs) (j := j) (env := [some (.d (netD w gs es)), some (.d (it xs)), some (.r 0), x3, x4]) (src := iVal (mIdx (mVar 0) (mCst (.d (.int 2))))) (ns := es) (k := 4) (own := [4]) (f := 2) (iVal_rl (m2_ok rfl rfl (netD2 w gs es _))) (fun n mn => by rw [lc]; exact he n mn) hl (fun x => rfl) (fun x => rfl)
  refine callFn_d (h' := .lst (iv (runG xs gs)) :: (j ++ [.lst (iv (es.map (at' (runG xs gs))))])) rfl ?_
  exact fn_rt' rfl (sSeq_nx (sAsg_n (mOp_ok (mCons_ok rfl mNil_ok) b0)) (sSeq_nx (sFor_ok es1 el) (sSeq_rt (sRet_ok (mOp_ok (mCons_ok fc mNil_ok) (bTuple_iv _ _ _ (by simp; rfl) (by simp; exact hl)))))))
end K73

set_option Elab.async false
set_option linter.all false
set_option maxRecDepth 100000
set_option maxHeartbeats 1000000
namespace K73
open Ev
theorem intsV_ri : ∀ ns : List Nat, intsV (ri ns) = some (ns.map fun (n : Nat) => (n : Int))
  | [] => rfl
  | n :: r => by
    show (intsV (ri r)).map ((n : Int) :: ·) = _
    rw [intsV_ri r]
    rfl
theorem maxI_le : ∀ {ns : List Nat} {b : Nat}, (∀ n, n ∈ ns → n ≤ b) → ns ≠ [] → ∃ m : Nat, maxI (ns.map fun (n : Nat) => (n : Int)) = some (m : Int) ∧ m ≤ b
  | [n], b, h, _ => ⟨n, rfl, h n (List.mem_cons_self ..)⟩
  | n :: k :: r, b, h, _ => by
    obtain ⟨m, e, l⟩ := maxI_le (ns := k :: r) (b := b) (fun x hx => h x (List.mem_cons_of_mem _ hx)) (by simp)
    have hn := h n (List.mem_cons_self ..)
    have z : maxI (((n :: k :: r).map fun (n : Nat) => (n : Int))) = some (if (m : Int) > (n : Int) then (m : Int) else (n : Int)) := by
      show (match maxI ((k :: r).map fun (n : Nat) => (n : Int)) with
        | some m => some (if m > (n : Int) then m else (n : Int))
        | none => some (n : Int)) = _
      rw [e]
    by_cases c : (m : Int) > (n : Int)
    · exact ⟨m, by rw [z, if_pos c], l⟩
    · exact ⟨n, by rw [z, if_neg c], hn⟩
theorem bMax_ri {h : EH} {n : Nat} {ns : List Nat} {b : Nat} (hn : h[n]? = some (.lst (ri ns))) (hb : ∀ n, n ∈ ns → n ≤ b) (h0 : ns ≠ []) : ∃ m : Nat, bMax [.r n] h = .ok (.d (.int (m : Int))) h ∧ m ≤ b := by
  obtain ⟨m, e, l⟩ := maxI_le hb h0
  have g : getM (.r n) h = some (ri ns) := by simp [getM, asT, getS, getL, hn]
  refine ⟨m, ?_, l⟩
  unfold bMax
  simp only [g, intsV_ri, e]
  rfl
end K73

set_option Elab.async false
set_option linter.all false
set_option maxRecDepth 100000
set_option maxHeartbeats 1000000
namespace K73
open Ev
variable {w : Nat} {gs : List G}
/-- numbers at some places of the list found -/
theorem nums_comp {h : EH} {ds : List Nat} {env : Env'} {src : M Src} {ns : List Nat} {k : Nat} {own : List Nat} {f q : Nat} (hq : h[q]? = some (.lst (ri ds))) (hs : src env h = .ok (.seq (ri ns)) h) (hn : ∀ n, n ∈ ns → n < ds.length) (hl : ns.length ≤ 16777216)
    (ef : ∀ x, ((wipeE env own).set k x)[f]? = some (some (.r q))) (ek : ∀ x, ((wipeE env own).set k x)[k]? = some x) :
    mComp wd src (.one k) mYes (mIdx (mVar f) (mVar k)) own env h = .ok (.r h.length) (h ++ [.lst (ri (ns.map fun n => ds.getD n 0))]) := by
  have ec : compL (.one k) mYes (mIdx (mVar f) (mVar k)) (wipeE env own) (ri ns) h = .ok (ri (ns.map fun n => ds.getD n 0)) h := by
    have q1 := compL_pure (k := k) (e := mIdx (mVar f) (mVar k)) (env := wipeE env own) (h := h) (fun x => match x with
      | .d (.int i) => .d (.int ((ds.getD i.toNat 0 : Nat) : Int))
      | x => x) (xs := ri ns) (fun x m => by
      obtain ⟨n, mn, e⟩ := List.mem_map.mp m
      subst e
      have v1 : mVar f ((wipeE env own).set k (some (.d (.int (n : Int))))) h = .ok (.r q) h := by
        unfold mVar
        rw [ef]
      have v2 : mVar k ((wipeE env own).set k (some (.d (.int (n : Int))))) h = .ok (.d (.int (n : Int))) h := by
        unfold mVar
        rw [ek]
      refine m2_ok v1 v2 ?_
      rw [opIdx_l hq]
      have hl := hn n mn
      have z : atV (ri ds) (n : Int) = some (.d (.int ((ds.getD n 0 : Nat) : Int))) := by
        unfold atV L2.ixN
        rw [if_pos (by omega), if_pos (by rw [ri_len]; omega)]
        show (ri ds)[n]? = _
        simp [ri, List.getD_eq_getElem?_getD, hl]
      rw [z]
      rfl)
    rw [q1]
    congr 1
    simp [ri]
  exact mComp_seq (w := wd) hs ec (by simp; exact hl)
end K73

set_option Elab.async false
set_option linter.all false
set_option maxRecDepth 100000
set_option maxHeartbeats 1000000
namespace K73
open Ev
variable {w : Nat} {gs : List G}
theorem Ri0 (n : Nat) (ns : List Nat) : .d (.int (0 : Int)) :: ri ns = ri (0 :: ns) := rfl
abbrev dpIn (src : M Src) : M Val := mOp bMax (mCons (mLst (mCons (mCst (.d (.int 0))) (mStar (mComp wd src (.one 3) mYes (mIdx (mVar 1) (mVar 3)) [3]) mNil))) mNil)
theorem dpIn_ok {h : EH} {ds : List Nat} {env : Env'} {src : M Src} {ns : List Nat} {b : Nat} (hq : h[1]? = some (.lst (ri ds))) (hs : src env h = .ok (.seq (ri ns)) h) (hn : ∀ n, n ∈ ns → n < ds.length) (hl : ns.length ≤ 16000000)
    (ef : ∀ x, ((wipeE env [3]).set 3 x)[1]? = some (some (.r 1))) (ek : ∀ x, ((wipeE env [3]).set 3 x)[3]? = some x) (hb : ∀ d, d ∈ ds → d ≤ b) :
    ∃ (m : Nat) (j : EH), dpIn src env h = .ok (.d (.int (m : Int))) (h ++ j) ∧ m ≤ b := by
  have fc := nums_comp (k := 3) (own := [3]) (f := 1) hq hs hn (by omega) ef ek
  have ms : (mCons (mCst (.d (.int 0))) (mStar (mComp wd src (.one 3) mYes (mIdx (mVar 1) (mVar 3)) [3]) mNil)) env h = .ok (ri (0 :: ns.map fun n => ds.getD n 0)) (h ++ [.lst (ri (ns.map fun n => ds.getD n 0))]) := by
    refine mCons_ok (x := .d (.int 0)) rfl ?_
    unfold mStar
    rw [fc, bind_mk, getS_new]
    show R.ok (ri (ns.map fun n => ds.getD n 0) ++ []) _ = _
    rw [List.append_nil]
    rfl
  have ml := mLst_ok ms (by simp; omega)
  obtain ⟨m, e, l⟩ := bMax_ri (h := (h ++ [Ob.lst (ri (ns.map fun n => ds.getD n 0))]) ++ [Ob.lst (ri (0 :: ns.map fun n => ds.getD n 0))]) (n := (h ++ [Ob.lst (ri (ns.map fun n => ds.getD n 0))]).length) (ns := 0 :: ns.map fun n => ds.getD n 0) (b := b) (by simp) (fun x hx => by
    rcases List.mem_cons.mp hx with z | z
    · omega
    · obtain ⟨n, mn, e⟩ := List.mem_map.mp z
      rw [← e, List.getD_eq_getElem?_getD, List.getElem?_eq_getElem (hn n mn)]
      exact hb _ (List.getElem_mem _)) (by simp)
  refine ⟨m, [.lst (ri (ns.map fun n => ds.getD n 0)), .lst (ri (0 :: ns.map fun n => ds.getD n 0))], ?_, l⟩
  have q := mOp_ok (mCons_ok ml mNil_ok) e
  rw [List.append_assoc] at q
  exact q
end K73

set_option Elab.async false
set_option linter.all false
set_option maxRecDepth 100000
set_option maxHeartbeats 1000000
namespace K73
open Ev
variable {w : Nat} {gs : List G}
abbrev dpBody : MS := sSeq (sExpr (mBM 4 lAppend (mVar 1) (mCons (m2 opAdd (mCst (.d (.int 1))) (dpIn (iVal (mSlice (mVar 2) (mPart (some (mCst (.d (.int 1))))) (mPart none))))) mNil))) sNext
theorem depth_ok (wf : WF w gs) {es : List Nat} (he : ∀ n, n ∈ es → n < w + gs.length) (hl : es.length ≤ 16000000) (hg : w + gs.length ≤ 16000000) (h : EH) : ∃ m : Nat, callFn m_depth [.d (netD w gs es)] h = .ok (.d (.int (m : Int))) h ∧ m ≤ gs.length := by
  have z0 : (List.replicate w [Val.d (.int 0)]).flatten = ri (List.replicate w 0) := by
    rw [List.eq_replicate_iff.mpr (show (ri (List.replicate w 0)).length = w ∧ ∀ b, b ∈ ri (List.replicate w 0) → b = Val.d (.int 0) from ⟨by simp, fun b m => by
      obtain ⟨n, mn, e⟩ := List.mem_map.mp m
      rw [(List.mem_replicate.mp mn).2] at e
      exact e.symm⟩)]
    simp [List.flatten_replicate_singleton]
  have m0 : m2 opMul (mLst (mCons (mCst (.d (.int 0))) mNil)) (mIdx (mVar 0) (mCst (.d (.int 0)))) [some (.d (netD w gs es)), none, none, none] [] = .ok (.r 1) [.lst [.d (.int 0)], .lst (ri (List.replicate w 0))] := by
    refine m2_ok (mLst_ok (mCons_ok rfl mNil_ok) (by simp)) (m2_ok rfl rfl (netD0 w gs es _)) ?_
    show (if Nat.ble (w : Int).toNat 16777216 = true ∧ 0 ≤ (w : Int) then newL (List.replicate (w : Int).toNat [Val.d (.int 0)]).flatten [.lst [.d (.int 0)]] else .bad) = _
    rw [if_pos ⟨Nat.ble_eq_true_of_le (by omega), by omega⟩, Int.toNat_natCast, z0, newL_ok (by simp; omega)]
    rfl
  have es1 : iVal (mIdx (mVar 0) (mCst (.d (.int 1)))) [some (.d (netD w gs es)), some (.r 1), none, none] [.lst [.d (.int 0)], .lst (ri (List.replicate w 0))] = .ok (.seq (gl gs)) [.lst [.d (.int 0)], .lst (ri (List.replicate w 0))] := by
    have e : (gs.map G.d).map Val.d = gl gs := by simp [gl]
    rw [← e]
    exact iVal_tup (b := true) (m2_ok rfl rfl (netD1 w gs es _))
  have nl : (gl gs).length = gs.length := by simp [gl]
  have loop := loopL_inv (t := tgName 2) (b := dpBody) (xs := gl gs)
    (fun i env h' => ∃ x2 x3 ds, env = [some (.d (netD w gs es)), some (.r 1), x2, x3] ∧ h'[1]? = some (.lst (ri ds)) ∧ ds.length = w + i ∧ ∀ d, d ∈ ds → d ≤ i)
    (fun i env h' hi ⟨x2, x3, ds, e1, hq, ld, hd⟩ => by
      subst e1
      have hi2 : i < gs.length := by rw [nl] at hi; exact hi
      have gi : (gl gs)[i] = .d gs[i].d := by simp [gl]
      rw [gi]
      have lt := wf i gs[i] (List.getElem?_eq_getElem hi2)
      obtain ⟨m, j, e, lm⟩ := dpIn_ok (env := [some (.d (netD w gs es)), some (.r 1), some (.d gs[i].d), x3]) (src := iVal (mSlice (mVar 2) (mPart (some (mCst (.d (.int 1))))) (mPart none))) (ns := gargs gs[i]) (b := i) hq (iVal_rl (mSlice_ok rfl (mPart_s rfl) mPart_n (g_args gs[i] _))) (fun n mn => by rw [ld]; exact gargs_lt lt n mn) (by have := gargs_len gs[i]; omega) (fun x => rfl) (fun x => rfl) hd
      have l1 := (List.getElem?_eq_some_iff.mp hq).1
      have et : tyNo (.r 1) h' = some 4 := by simp [tyNo, hq]
      have hq2 : (h' ++ j)[1]? = some (.lst (ri ds)) := by rw [List.getElem?_append_left l1]; exact hq
      have ap := mBM_at (mo := mVar 1) (ma := mCons (m2 opAdd (mCst (.d (.int 1))) (dpIn (iVal (mSlice (mVar 2) (mPart (some (mCst (.d (.int 1))))) (mPart none))))) mNil) (env := [some (.d (netD w gs es)), some (.r 1), some (.d gs[i].d), x3]) (h1 := h') (n := 1) (xs := ri ds) rfl et (mCons_ok (m2_ok rfl e (add_i _ _ _)) mNil_ok) hq2 (by rw [ri_len]; omega)
      refine ⟨[some (.d (netD w gs es)), some (.r 1), some (.d gs[i].d), x3], _, sSeq_nx (sExpr_ok ap) rfl, _, _, ds ++ [1 + m], rfl, ?_, by simp [ld]; omega, fun d hd' => ?_⟩
      · rw [List.getElem?_set_self (by rw [List.length_append]; omega)]
        simp [ri]
      · rcases List.mem_append.mp hd' with q | q
        · have := hd d q; omega
        · simp at q; omega)
    (env := [some (.d (netD w gs es)), some (.r 1), none, none]) (h := [.lst [.d (.int 0)], .lst (ri (List.replicate w 0))]) ⟨none, none, List.replicate w 0, rfl, rfl, by simp, fun d m => by rw [(List.mem_replicate.mp m).2]; omega⟩
  obtain ⟨env', h', el, x2, x3, ds, e1, hq, ld, hd⟩ := loop
  subst e1
  rw [nl] at ld hd
  obtain ⟨m, j, e, lm⟩ := dpIn_ok (env := [some (.d (netD w gs es)), some (.r 1), x2, x3]) (src := iVal (mIdx (mVar 0) (mCst (.d (.int 2))))) (ns := es) (b := gs.length) hq (iVal_rl (m2_ok rfl rfl (netD2 w gs es _))) (fun n mn => by rw [ld]; exact he n mn) hl (fun x => rfl) (fun x => rfl) hd
  refine ⟨m, callFn_d (h' := h' ++ j) rfl ?_, lm⟩
  exact fn_rt' rfl (sSeq_nx (sAsg_n m0) (sSeq_nx (sFor_ok es1 el) (sSeq_rt (sRet_ok e))))
end K73

set_option Elab.async false
set_option linter.all false
set_option maxRecDepth 100000
set_option maxHeartbeats 1000000
namespace K73
open Ev
/-! ### the bag of draws -/
abbrev bagO (a b p : Int) : Ob := .lst [.d (.int a), .d (.int b), .d (.int p), .r 1]
def hb (h : EH) (a b p : Int) (j : EH) : EH := h.set 2 (bagO a b p) ++ j
theorem hb2 {h : EH} (l : 2 < h.length) (a b p : Int) (j : EH) : (hb h a b p j)[2]? = some (bagO a b p) := by
  unfold hb
  rw [List.getElem?_append_left (by simpa using l), List.getElem?_set_self l]
theorem hb1 {h : EH} (l : 2 < h.length) (a b p : Int) (j : EH) : (hb h a b p j)[1]? = h[1]? := by
  unfold hb
  rw [List.getElem?_append_left (by simp; omega), List.getElem?_set_ne (by decide)]
theorem hbs {h : EH} (l : 2 < h.length) (a b p a' b' p' : Int) (j : EH) : (hb h a b p j).set 2 (bagO a' b' p') = hb h a' b' p' j := by
  unfold hb
  rw [List.set_append_left _ _ (by simpa using l), List.set_set]
theorem hbj {h : EH} (a b p : Int) (j k : EH) : hb h a b p j ++ k = hb h a b p (j ++ k) := by
  unfold hb
  rw [List.append_assoc]
end K73

set_option Elab.async false
set_option linter.all false
set_option maxRecDepth 100000
set_option maxHeartbeats 1000000
namespace K73
open Ev
variable {h : EH} {a b p : Int} {j : EH}
theorem bag0 (l : 2 < h.length) : opIdx (.r 2) (.d (.int 0)) (hb h a b p j) = .ok (.d (.int a)) (hb h a b p j) := by
  rw [opIdx_l (hb2 l a b p j)]
  rfl
theorem bag1 (l : 2 < h.length) : opIdx (.r 2) (.d (.int 1)) (hb h a b p j) = .ok (.d (.int b)) (hb h a b p j) := by
  rw [opIdx_l (hb2 l a b p j)]
  rfl
theorem bag2 (l : 2 < h.length) : opIdx (.r 2) (.d (.int 2)) (hb h a b p j) = .ok (.d (.int p)) (hb h a b p j) := by
  rw [opIdx_l (hb2 l a b p j)]
  rfl
theorem bag3 (l : 2 < h.length) : opIdx (.r 2) (.d (.int 3)) (hb h a b p j) = .ok (.r 1) (hb h a b p j) := by
  rw [opIdx_l (hb2 l a b p j)]
  rfl
theorem bset0 (l : 2 < h.length) (x : Int) : opSet (.r 2) (.d (.int 0)) (.d (.int x)) (hb h a b p j) = .ok () (hb h x b p j) := by
  have e := hb2 l a b p j
  unfold opSet
  simp only [e]
  show R.ok () ((hb h a b p j).set 2 (bagO x b p)) = _
  rw [hbs l]
theorem bset1 (l : 2 < h.length) (x : Int) : opSet (.r 2) (.d (.int 1)) (.d (.int x)) (hb h a b p j) = .ok () (hb h a x p j) := by
  have e := hb2 l a b p j
  unfold opSet
  simp only [e]
  show R.ok () ((hb h a b p j).set 2 (bagO a x p)) = _
  rw [hbs l]
theorem bset2 (l : 2 < h.length) (x : Int) : opSet (.r 2) (.d (.int 2)) (.d (.int x)) (hb h a b p j) = .ok () (hb h a b x j) := by
  have e := hb2 l a b p j
  unfold opSet
  simp only [e]
  show R.ok () ((hb h a b p j).set 2 (bagO a b x)) = _
  rw [hbs l]
theorem mSub_ok {o i : M Val} {v ov iv : Val} {env : Env'} {h h1 h2 h3 : EH} (eo : o env h = .ok ov h1) (ei : i env h1 = .ok iv h2) (es : opSet ov iv v h2 = .ok () h3) : mSub o i v env h = .ok env h3 := by
  unfold mSub
  rw [eo, bind_mk, ei, bind_mk, es, bind_mk]
theorem gt_i (i j : Int) (h : EH) {k : Bool} (e : decide (j < i) = k) : opGt (.d (.int i)) (.d (.int j)) h = .ok (.d (.bl k)) h := by
  show okB (decide (j < i)) h = _
  rw [e]
  rfl
theorem eq_i (i j : Int) (h : EH) {k : Bool} (e : decide (i = j) = k) : opEq (.d (.int i)) (.d (.int j)) h = .ok (.d (.bl k)) h := by
  show okB (decide (i = j)) h = _
  rw [e]
  rfl
theorem mod_i (i : Int) {j : Int} (hj : 0 < j) (h : EH) : opMod (.d (.int i)) (.d (.int j)) h = .ok (.d (.int (i % j))) h := if_pos hj
theorem fdiv_i (i : Int) {j : Int} (hj : 0 < j) (hs : j < 1073741824) (h : EH) : opFdiv (.d (.int i)) (.d (.int j)) h = .ok (.d (.int (i / j))) h := if_pos ⟨hj, .inl hs⟩
end K73

set_option Elab.async false
set_option linter.all false
set_option maxRecDepth 100000
set_option maxHeartbeats 1000000
namespace K73
open Ev
def iz (ns : List Int) : List Val := ns.map fun i => .d (.int i)
@[simp] theorem iz_len (ns : List Int) : (iz ns).length = ns.length := by simp [iz]
theorem cut_iz (ns : List Int) (lo hi : Option Int) : cutL (iz ns) lo hi = iz (cutL ns lo hi) := by
  unfold cutL iz
  rw [List.length_map, List.map_take, List.map_drop]
theorem cut_len (ns : List Int) (lo hi : Option Int) : (cutL ns lo hi).length ≤ ns.length := by
  unfold cutL
  simp
  omega
/-- the next cell of the script, or 0 -/
theorem cell_ok {h : EH} {a b p : Int} {j : EH} (l : 2 < h.length) {ns : List Int} (hc : h[1]? = some (.lst (iz ns))) (hn : ns.length ≤ 1000) {env : Env'} (e0 : env[0]? = some (some (.r 2))) :
    ∃ c j', mIdx (m2 opAdd (mSlice (mIdx (mVar 0) (mCst (.d (.int 3)))) (mPart (some (mIdx (mVar 0) (mCst (.d (.int 2)))))) (mPart none)) (mLst (mCons (mCst (.d (.int 0))) mNil))) (mCst (.d (.int 0))) env (hb h a b p j) = .ok (.d (.int c)) (hb h a b p j') := by
  have v0 : mVar 0 env (hb h a b p j) = .ok (.r 2) (hb h a b p j) := by
    unfold mVar
    rw [e0]
  have g1 : getL (.r 1) (hb h a b p j) = some (iz ns) := by
    show (match (hb h a b p j)[1]? with
      | some (Ob.lst xs) => some xs
      | _ => none) = _
    rw [hb1 l, hc]
  have sl : opSlice (.r 1) (some p) none (hb h a b p j) = .ok (.r (hb h a b p j).length) (hb h a b p j ++ [Ob.lst (iz (cutL ns (some p) none))]) := by
    have t : asT (.r 1) = none := rfl
    have g : getS (.r 1) (hb h a b p j) = some (iz ns) := by
      unfold getS
      simp only [t, g1]
    have cl := cut_len ns (some p) none
    unfold opSlice
    simp only [t, g]
    rw [cut_iz, newL_ok (by rw [iz_len]; omega)]
  have s := mSlice_ok (m2_ok (op := opIdx) (a := mVar 0) (b := mCst (.d (.int 3))) v0 rfl (bag3 l)) (mPart_s (m2_ok (op := opIdx) (a := mVar 0) (b := mCst (.d (.int 2))) v0 rfl (bag2 l))) mPart_n sl
  have cl := cut_len ns (some p) none
  generalize cutL ns (some p) none = cs at s cl
  rw [hbj] at s
  have ad : opAdd (.r (hb h a b p j).length) (.r (hb h a b p (j ++ [Ob.lst (iz cs)])).length) (hb h a b p (j ++ [Ob.lst (iz cs)]) ++ [Ob.lst (iz [0])]) = .ok (.r (hb h a b p (j ++ [Ob.lst (iz cs)]) ++ [Ob.lst (iz [0])]).length) (hb h a b p (j ++ [Ob.lst (iz cs)]) ++ [Ob.lst (iz [0])] ++ [Ob.lst (iz (cs ++ [0]))]) := by
    have q1 : getL (.r (hb h a b p j).length) (hb h a b p (j ++ [Ob.lst (iz cs)]) ++ [Ob.lst (iz [0])]) = some (iz cs) := by
      rw [← hbj, List.append_assoc]
      simp [getL]
    have q2 : getL (.r (hb h a b p (j ++ [Ob.lst (iz cs)])).length) (hb h a b p (j ++ [Ob.lst (iz cs)]) ++ [Ob.lst (iz [0])]) = some (iz [0]) := getL_new _ _
    have t : ∀ n, asT (.r n) = none := fun n => rfl
    have e : iz cs ++ iz [0] = iz (cs ++ [0]) := by simp [iz]
    unfold opAdd
    simp only [t, q1, q2]
    rw [e, newL_ok (by rw [iz_len]; simp; omega)]
  have ml : mLst (mCons (mCst (.d (.int 0))) mNil) env (hb h a b p (j ++ [Ob.lst (iz cs)])) = .ok (.r (hb h a b p (j ++ [Ob.lst (iz cs)])).length) (hb h a b p (j ++ [Ob.lst (iz cs)]) ++ [Ob.lst (iz [0])]) := mLst_ok (mCons_ok rfl mNil_ok) (by simp)
  have m := m2_ok s ml ad
  have ix : ∃ c, opIdx (.r (hb h a b p (j ++ [Ob.lst (iz cs)]) ++ [Ob.lst (iz [0])]).length) (.d (.int 0)) (hb h a b p (j ++ [Ob.lst (iz cs)]) ++ [Ob.lst (iz [0])] ++ [Ob.lst (iz (cs ++ [0]))]) = .ok (.d (.int c)) (hb h a b p (j ++ [Ob.lst (iz cs)]) ++ [Ob.lst (iz [0])] ++ [Ob.lst (iz (cs ++ [0]))]) := by
    rw [opIdx_l (xs := iz (cs ++ [0])) (by simp)]
    cases cs with
    | nil => exact ⟨0, rfl⟩
    | cons c r => exact ⟨c, by
        have z : atV (iz (c :: r ++ [0])) 0 = some (.d (.int c)) := by
          unfold atV L2.ixN
          rw [if_pos (by omega), if_pos (by simp; omega)]
          rfl
        rw [z]⟩
  obtain ⟨c, ix⟩ := ix
  refine ⟨c, j ++ [Ob.lst (iz cs)] ++ [Ob.lst (iz [0])] ++ [Ob.lst (iz (cs ++ [0]))], ?_⟩
  have f := m2_ok (op := opIdx) (b := mCst (.d (.int 0))) m rfl ix
  rw [hbj, hbj] at f
  exact f
end K73

set_option Elab.async false
set_option linter.all false
set_option maxRecDepth 100000
set_option maxHeartbeats 1000000
namespace K73
open Ev
theorem ge_i' (i j : Int) (h : EH) {k : Bool} (e : decide (j ≤ i) = k) : opGe (.d (.int i)) (.d (.int j)) h = .ok (.d (.bl k)) h := ge_i i j h e
theorem pow_18 (h : EH) : opPow (.d (.int 10)) (.d (.int 18)) h = .ok (.d (.int 1000000000000000000)) h := by
  have e : (10 : Int) ^ (18 : Int).toNat = 1000000000000000000 := by decide
  show (if (0 : Int) ≤ 18 ∧ (18 : Int) ≤ 1000000 ∧ (10 : Int).natAbs < 18446744073709551616 then R.ok (Val.d (.int ((10 : Int) ^ (18 : Int).toNat))) h else .bad) = _
  rw [if_pos (by decide), e]
theorem mulOk_l {i : Int} (j : Int) (h : i.natAbs < 18446744073709551616) : mulOk i j = true := by
  unfold mulOk
  rw [show Nat.blt i.natAbs 18446744073709551616 = true from Nat.ble_eq_true_of_le h]
  rfl
theorem opGet2 {h : EH} {a b p : Int} {j : EH} (l : 2 < h.length) : opGet (.r 2) (.d (.int 2)) (hb h a b p j) = .ok (.d (.int p)) (hb h a b p j) := by
  have g : getL (.r 2) (hb h a b p j) = some [.d (.int a), .d (.int b), .d (.int p), .r 1] := by
    show (match (hb h a b p j)[2]? with
      | some (Ob.lst xs) => some xs
      | _ => none) = _
    rw [hb2 l]
  unfold opGet
  simp only [g]
  rfl
theorem sAugS_ok {o i : M Val} {op : Val → Val → EH → R Val} {me : M Val} {env : Env'} {h h1 h2 h3 h4 h5 h6 : EH} {ov iv x y z : Val} (eo : o env h = .ok ov h1) (ei : i env h1 = .ok iv h2) (eg : opGet ov iv h2 = .ok x h3) (em : me env h3 = .ok y h4) (ep : op x y h4 = .ok z h5) (es : opSet ov iv z h5 = .ok () h6) : sAugS o i op me env h = .nx env h6 := by
  unfold sAugS
  rw [eo, run_ok, ei, run_ok, eg]
  show (R.ok x h3).run env _ = _
  rw [run_ok, em, run_ok, ep]
  show (R.ok z h5).run env _ = _
  rw [run_ok, es]
  rfl
end K73

set_option Elab.async false
set_option linter.all false
set_option maxRecDepth 100000
set_option maxHeartbeats 1000000
namespace K73
open Ev
/-- a heap that holds a bag -/
structure Bag (h : EH) (ns : List Int) : Prop where
  l : 2 < h.length
  c : h[1]? = some (.lst (iz ns))
  n : ns.length ≤ 1000
  b : ∃ a b p, h[2]? = some (bagO a b p)
  k : allLt h.length h = true
abbrev tkIf : MS := sSeq (sAsg (mIdx (m2 opAdd (mSlice (mIdx (mVar 0) (mCst (.d (.int 3)))) (mPart (some (mIdx (mVar 0) (mCst (.d (.int 2)))))) (mPart none)) (mLst (mCons (mCst (.d (.int 0))) mNil))) (mCst (.d (.int 0)))) (tgName 2)) (sSeq (sAugS (mVar 0) (mCst (.d (.int 2))) ipAdd (mCst (.d (.int 1)))) (sSeq (sIf (mB (m2 opGe (mVar 2) (m2 opPow (mCst (.d (.int 10))) (mCst (.d (.int 18)))))) (sSeq (sAsg (mVar 2) (mSub (mVar 0) (mCst (.d (.int 0))))) sNext) sNext) (sSeq (sAsg (m2 opAdd (m2 opAdd (m2 opMul (mIdx (mVar 0) (mCst (.d (.int 1)))) (mCst (.d (.int 48271)))) (m2 opMod (mOp bInt (mCons (mVar 2) mNil)) (mCst (.d (.int 2147483647))))) (m2 opMul (mCst (.d (.int 7919))) (mIdx (mVar 0) (mCst (.d (.int 2)))))) (tgName 3)) (sSeq (sAsg (m2 opMod (mOp bInt (mCons (mVar 3) mNil)) (mCst (.d (.int 2147483647)))) (mSub (mVar 0) (mCst (.d (.int 1))))) sNext))))
theorem tk_if {h : EH} {a b p : Int} {j : EH} (l : 2 < h.length) {ns : List Int} (hc : h[1]? = some (.lst (iz ns))) (hn : ns.length ≤ 1000) (many : Int) : ∃ a' b' p' j' x2 x3, tkIf [some (.r 2), some (.d (.int many)), none, none, none, none, none] (hb h a b p j) = .nx [some (.r 2), some (.d (.int many)), x2, x3, none, none, none] (hb h a' b' p' j') := by
  obtain ⟨c, j1, e1⟩ := cell_ok (a := a) (b := b) (p := p) (j := j) l hc hn (env := [some (.r 2), some (.d (.int many)), none, none, none, none, none]) rfl
  have tail : ∀ a', ∃ x3 b', (sSeq (sAsg (m2 opAdd (m2 opAdd (m2 opMul (mIdx (mVar 0) (mCst (.d (.int 1)))) (mCst (.d (.int 48271)))) (m2 opMod (mOp bInt (mCons (mVar 2) mNil)) (mCst (.d (.int 2147483647))))) (m2 opMul (mCst (.d (.int 7919))) (mIdx (mVar 0) (mCst (.d (.int 2)))))) (tgName 3)) (sSeq (sAsg (m2 opMod (mOp bInt (mCons (mVar 3) mNil)) (mCst (.d (.int 2147483647)))) (mSub (mVar 0) (mCst (.d (.int 1))))) sNext)) [some (.r 2), some (.d (.int many)), some (.d (.int c)), none, none, none, none] (hb h a' b (p + 1) j1) = .nx [some (.r 2), some (.d (.int many)), some (.d (.int c)), x3, none, none, none] (hb h a' b' (p + 1) j1) := fun a' =>
    ⟨_, _, sSeq_nx (sAsg_n (m2_ok (m2_ok (m2_ok (m2_ok rfl rfl (bag1 l)) rfl (mul_i _ _ _ (mulOk_r _ (by decide)))) (m2_ok (mOp_ok (mCons_ok rfl mNil_ok) (bInt_i _ _)) rfl (mod_i _ (by decide) _)) (add_i _ _ _)) (m2_ok rfl (m2_ok rfl rfl (bag2 l)) (mul_i _ _ _ (mulOk_l _ (by decide)))) (add_i _ _ _)))
      (sSeq_nx (sAsg_ok (m2_ok (mOp_ok (mCons_ok rfl mNil_ok) (bInt_i _ _)) rfl (mod_i _ (by decide) _)) (mSub_ok rfl rfl (bset1 l _))) rfl)⟩
  by_cases big : (1000000000000000000 : Int) ≤ c
  · obtain ⟨x3, b', t⟩ := tail c
    exact ⟨c, b', p + 1, j1, some (.d (.int c)), x3, sSeq_nx (sAsg_n e1) (sSeq_nx (sAugS_ok rfl rfl (opGet2 l) rfl rfl (bset2 l _)) (sSeq_nx (sIf_t (mB_ok (m2_ok rfl (m2_ok rfl rfl (pow_18 _)) (ge_i' _ _ _ (decide_eq_true big)))) (sSeq_nx (sAsg_ok rfl (mSub_ok rfl rfl (bset0 l _))) rfl)) t))⟩
  · obtain ⟨x3, b', t⟩ := tail a
    exact ⟨a, b', p + 1, j1, some (.d (.int c)), x3, sSeq_nx (sAsg_n e1) (sSeq_nx (sAugS_ok rfl rfl (opGet2 l) rfl rfl (bset2 l _)) (sSeq_nx (sIf_f (mB_ok (m2_ok rfl (m2_ok rfl rfl (pow_18 _)) (ge_i' _ _ _ (decide_eq_false big)))) rfl) t))⟩
end K73

set_option Elab.async false
set_option linter.all false
set_option maxRecDepth 100000
set_option maxHeartbeats 1000000
namespace K73
open Ev
abbrev tkRest : MS := sSeq (sIf (mB (m2 opGt (mIdx (mVar 0) (mCst (.d (.int 0)))) (mCst (.d (.int 0))))) (sSeq (sAsg (m2 opMod (mOp bInt (mCons (mIdx (mVar 0) (mCst (.d (.int 0)))) mNil)) (mVar 1)) (tgName 4)) (sSeq (sAsg (m2 opFdiv (mOp bInt (mCons (mIdx (mVar 0) (mCst (.d (.int 0)))) mNil)) (mVar 1)) (mSub (mVar 0) (mCst (.d (.int 0))))) (sSeq (sRet (mVar 4)) sNext))) sNext) (sSeq (sAsg (m2 opMod (mOp bInt (mCons (m2 opMul (m2 opAdd (mIdx (mVar 0) (mCst (.d (.int 1)))) (mCst (.d (.int 1)))) (mCst (.d (.int 39373)))) mNil)) (mCst (.d (.int 1000000007)))) (tgName 5)) (sSeq (sAsg (m2 opMod (mOp bInt (mCons (m2 opMul (m2 opMod (mOp bInt (mCons (m2 opMul (mVar 5) (mVar 5)) mNil)) (mCst (.d (.int 998244353)))) (mCst (.d (.int 30011)))) mNil)) (mCst (.d (.int 998244353)))) (tgName 6)) (sSeq (sRet (m2 opMod (mOp bInt (mCons (m2 opFdiv (mVar 6) (mCst (.d (.int 7)))) mNil)) (mVar 1))) sNext)))
theorem tk_rest {h : EH} {a b p : Int} {j : EH} (l : 2 < h.length) {many : Int} (hm : 0 < many) (hs : many < 1073741824) (x2 x3 : Option Val) : ∃ v a', tkRest [some (.r 2), some (.d (.int many)), x2, x3, none, none, none] (hb h a b p j) = .rt (.d (.int v)) (hb h a' b p j) ∧ 0 ≤ v ∧ v < many := by
  by_cases big : 0 < a
  · refine ⟨a % many, a / many, ?_, Int.emod_nonneg _ (by omega), Int.emod_lt_of_pos _ hm⟩
    exact sSeq_rt (sIf_t (mB_ok (m2_ok (m2_ok rfl rfl (bag0 l)) rfl (gt_i _ _ _ (decide_eq_true big))))
      (sSeq_nx (sAsg_n (m2_ok (mOp_ok (mCons_ok (m2_ok rfl rfl (bag0 l)) mNil_ok) (bInt_i _ _)) rfl (mod_i _ hm _)))
        (sSeq_nx (sAsg_ok (m2_ok (mOp_ok (mCons_ok (m2_ok rfl rfl (bag0 l)) mNil_ok) (bInt_i _ _)) rfl (fdiv_i _ hm hs _)) (mSub_ok rfl rfl (bset0 l _)))
          (sSeq_rt (sRet_ok rfl)))))
  · have r1 : ((b + 1) * 39373 % 1000000007).natAbs < 18446744073709551616 := by
      have := Int.emod_nonneg ((b + 1) * 39373) (show (1000000007 : Int) ≠ 0 by decide)
      have := Int.emod_lt_of_pos ((b + 1) * 39373) (show (0 : Int) < 1000000007 by decide)
      omega
    refine ⟨((b + 1) * 39373 % 1000000007) * ((b + 1) * 39373 % 1000000007) % 998244353 * 30011 % 998244353 / 7 % many, a, ?_, Int.emod_nonneg _ (by omega), Int.emod_lt_of_pos _ hm⟩
    exact sSeq_nx (sIf_f (mB_ok (m2_ok (m2_ok rfl rfl (bag0 l)) rfl (gt_i _ _ _ (decide_eq_false big)))) rfl)
      (sSeq_nx (sAsg_n (m2_ok (mOp_ok (mCons_ok (m2_ok (m2_ok (m2_ok rfl rfl (bag1 l)) rfl (add_i _ _ _)) rfl (mul_i _ _ _ (mulOk_r _ (by decide)))) mNil_ok) (bInt_i _ _)) rfl (mod_i _ (by decide) _)))
        (sSeq_nx (sAsg_n (m2_ok (mOp_ok (mCons_ok (m2_ok (m2_ok (mOp_ok (mCons_ok (m2_ok rfl rfl (mul_i _ _ _ (mulOk_l _ r1))) mNil_ok) (bInt_i _ _)) rfl (mod_i _ (by decide) _)) rfl (mul_i _ _ _ (mulOk_r _ (by decide)))) mNil_ok) (bInt_i _ _)) rfl (mod_i _ (by decide) _)))
          (sSeq_rt (sRet_ok (m2_ok (mOp_ok (mCons_ok (m2_ok rfl rfl (fdiv_i _ (by decide) (by decide) _)) mNil_ok) (bInt_i _ _)) rfl (mod_i _ hm _))))))
theorem bag_lt {n : Nat} (l : 2 < n) (a b p : Int) : Ob.lt n (bagO a b p) = true := by
  show Val.lts n [.d (.int a), .d (.int b), .d (.int p), .r 1] = true
  show (true && (true && (true && (Nat.blt 1 n && true)))) = true
  rw [show Nat.blt 1 n = true from Nat.ble_eq_true_of_le (by omega)]
  rfl
theorem hb_self {h : EH} {a b p : Int} (e : h[2]? = some (bagO a b p)) : hb h a b p [] = h := by
  have l := (List.getElem?_eq_some_iff.mp e).1
  unfold hb
  rw [List.append_nil]
  apply List.ext_getElem?
  intro i
  rw [List.getElem?_set]
  by_cases c : 2 = i
  · subst c
    rw [if_pos rfl, if_pos l, e]
  · rw [if_neg c]
/-- a draw -/
theorem take_ok {h : EH} {ns : List Int} (B : Bag h ns) {many : Int} (hm : 0 < many) (hs : many < 1073741824) : ∃ v a b p, callFn m__law_take [.r 2, .d (.int many)] h = .ok (.d (.int v)) (h.set 2 (bagO a b p)) ∧ 0 ≤ v ∧ v < many := by
  obtain ⟨a, b, p, e0⟩ := B.b
  have l := B.l
  obtain ⟨a1, b1, p1, j1, x2, x3, e1⟩ : ∃ a' b' p' j' x2 x3, sIf (mB (m2 opEq (mIdx (mVar 0) (mCst (.d (.int 0)))) (mCst (.d (.int 0))))) tkIf sNext [some (.r 2), some (.d (.int many)), none, none, none, none, none] (hb h a b p []) = .nx [some (.r 2), some (.d (.int many)), x2, x3, none, none, none] (hb h a' b' p' j') := by
    by_cases c : a = 0
    · obtain ⟨a', b', p', j', x2, x3, e⟩ := tk_if (a := a) (b := b) (p := p) (j := []) l B.c B.n many
      exact ⟨a', b', p', j', x2, x3, sIf_t (mB_ok (m2_ok (m2_ok rfl rfl (bag0 l)) rfl (eq_i _ _ _ (decide_eq_true c)))) e⟩
    · exact ⟨a, b, p, [], none, none, sIf_f (mB_ok (m2_ok (m2_ok rfl rfl (bag0 l)) rfl (eq_i _ _ _ (decide_eq_false c)))) rfl⟩
  obtain ⟨v, a2, e2, h0, h1⟩ := tk_rest (a := a1) (b := b1) (p := p1) (j := j1) l hm hs x2 x3
  refine ⟨v, a2, b1, p1, ?_, h0, h1⟩
  show callSh m__law_take [.r 2, .d (.int many)] h = _
  have key : m__law_take [.r 2, .d (.int many)] h = .ok (.d (.int v)) (h.set 2 (bagO a2 b1 p1) ++ j1) := by
    refine fn_rt' (n := 2) (m := 7) (b := b__law_take) rfl ?_
    have := sSeq_nx e1 e2
    rw [hb_self e0] at this
    exact this
  exact call_end key (by simp) rfl (allLt_set B.k (bag_lt l _ _ _))
theorem Bag.set {h : EH} {ns : List Int} (B : Bag h ns) (a b p : Int) : Bag (h.set 2 (bagO a b p)) ns := by
  have l := B.l
  refine ⟨by simpa using l, by rw [List.getElem?_set_ne (by decide)]; exact B.c, B.n, ⟨a, b, p, List.getElem?_set_self l⟩, ?_⟩
  rw [List.length_set]
  exact allLt_set B.k (bag_lt l _ _ _)
theorem Bag.junk {h : EH} {ns : List Int} (B : Bag h ns) {j : EH} (hj : allLt (h.length + j.length) j = true) : Bag (h ++ j) ns := by
  have l := B.l
  obtain ⟨a, b, p, e⟩ := B.b
  refine ⟨by simp; omega, by rw [List.getElem?_append_left (by omega)]; exact B.c, B.n, ⟨a, b, p, by rw [List.getElem?_append_left l]; exact e⟩, ?_⟩
  rw [List.length_append]
  exact all_app (all_mono (Nat.le_add_right _ _) B.k) hj
theorem Bag.up {h : EH} {ns : List Int} (B : Bag h ns) {w : Nat} {gs gs' : List G} (D : Bd w gs h) : Bag (upB h w gs') ns := by
  obtain ⟨a, b, p, e⟩ := B.b
  have D' := D.up (gs' := gs')
  refine ⟨by rw [upB_len]; exact B.l, ?_, B.n, ⟨a, b, p, ?_⟩, D'.c⟩
  · unfold upB
    rw [List.getElem?_set_ne (by decide), List.getElem?_set_ne (by decide)]
    exact B.c
  · unfold upB
    rw [List.getElem?_set_ne (by decide), List.getElem?_set_ne (by decide)]
    exact e
theorem Bd.setB {w : Nat} {gs : List G} {h : EH} (D : Bd w gs h) (l : 2 < h.length) (a b p : Int) : Bd w gs (h.set 2 (bagO a b p)) := by
  refine ⟨by rw [List.getElem?_set_ne (by decide)]; exact D.b, by rw [List.getElem?_set_ne (by decide)]; exact D.g, by rw [List.getElem?_set_ne (by decide)]; exact D.k, ?_⟩
  rw [List.length_set]
  exact allLt_set D.c (bag_lt l _ _ _)
end K73

set_option Elab.async false
set_option linter.all false
set_option maxRecDepth 100000
set_option maxHeartbeats 1000000
namespace Ev
/-- over a list that stands in the heap -/
theorem live_at {h : EH} {L : Nat} {xs : List Val} (e : h[L]? = some (.lst xs)) (i : Nat) : (Src.live (.r L)).at i h = some xs[i]? := by
  show (getS (.r L) h).map _ = _
  simp [getS, asT, getL, e]
theorem compG_pure {k : Nat} {e : M Val} {env : Env'} {h : EH} {L : Nat} {xs : List Val} (f : Val → Val) (hL : h[L]? = some (.lst xs)) (p : ∀ x, x ∈ xs → e (env.set k (some x)) h = .ok (f x) h) : ∀ w i, xs.length - i < w → compG (.live (.r L)) (.one k) mYes e env w i h = .ok ((xs.drop i).map f) h
  | 0, i, z => absurd z (Nat.not_lt_zero _)
  | w + 1, i, z => by
    unfold compG
    rw [live_at hL]
    by_cases hi : i < xs.length
    · rw [List.getElem?_eq_getElem hi, List.drop_eq_getElem_cons hi]
      show ((e (env.set k (some xs[i])) h).bind fun y h3 => (compG (.live (.r L)) (.one k) mYes e env w (i + 1) h3).bind fun ys h4 => .ok (y :: ys) h4) = _
      rw [p _ (List.getElem_mem hi), bind_mk, compG_pure f hL p w (i + 1) (by omega)]
      rfl
    · rw [List.getElem?_eq_none (by omega), List.drop_eq_nil_of_le (by omega)]
      rfl
theorem mItems_live {w k : Nat} {src : M Src} {e : M Val} {own : List Nat} {env : Env'} {h h1 : EH} {L : Nat} {xs : List Val} (f : Val → Val) (es : src env h = .ok (.live (.r L)) h1) (hL : h1[L]? = some (.lst xs)) (p : ∀ x, x ∈ xs → e ((wipeE env own).set k (some x)) h1 = .ok (f x) h1) (hw : xs.length < w) : mItems w src (.one k) mYes e own env h = .ok (xs.map f) h1 := by
  unfold mItems
  rw [es, bind_mk]
  show noX (compG (.live (.r L)) (.one k) mYes e (wipeE env own) w 0 h1) = _
  rw [compG_pure f hL p w 0 (by omega)]
  rfl
theorem mComp_live {w k : Nat} {src : M Src} {e : M Val} {own : List Nat} {env : Env'} {h h1 : EH} {L : Nat} {xs : List Val} (f : Val → Val) (es : src env h = .ok (.live (.r L)) h1) (hL : h1[L]? = some (.lst xs)) (p : ∀ x, x ∈ xs → e ((wipeE env own).set k (some x)) h1 = .ok (f x) h1) (hw : xs.length < w) (hf : xs.length ≤ 16777216) : mComp w src (.one k) mYes e own env h = .ok (.r h1.length) (h1 ++ [.lst (xs.map f)]) := by
  unfold mComp
  rw [mItems_live f es hL p hw, bind_mk, newL_ok (by rw [List.length_map]; exact hf)]
theorem loopG_inv {t : MT} {b : MS} {L : Nat} {xs : List Val} (I : Nat → Env' → EH → Prop) (live : ∀ i env h, I i env h → h[L]? = some (.lst xs)) (step : ∀ i env h (hi : i < xs.length), I i env h → ∃ env' h', ((t xs[i] env h).run env fun env1 h1 => b env1 h1) = .nx env' h' ∧ I (i + 1) env' h') : ∀ (w i : Nat) (env : Env') (h : EH), xs.length - i < w → i ≤ xs.length → I i env h → ∃ env' h', loopG (.live (.r L)) t b w i env h = .nx env' h' ∧ I xs.length env' h'
  | 0, i, env, h, z, _, _ => absurd z (Nat.not_lt_zero _)
  | w + 1, i, env, h, z, le, hI => by
    unfold loopG
    rw [live_at (live i env h hI)]
    by_cases hi : i < xs.length
    · rw [List.getElem?_eq_getElem hi]
      obtain ⟨env1, h1, e1, z1⟩ := step i env h hi hI
      obtain ⟨env2, h2, e2, z2⟩ := loopG_inv I live step w (i + 1) env1 h1 (by omega) hi z1
      refine ⟨env2, h2, ?_, z2⟩
      show ((t xs[i] env h).run env fun env1 h1 => (b env1 h1).turn fun env2 h2 => loopG (.live (.r L)) t b w (i + 1) env2 h2) = _
      cases q : t xs[i] env h with
      | bad => rw [q] at e1; cases e1
      | exc c fs h' => rw [q] at e1; cases e1
      | ok en h' =>
        rw [q] at e1
        have e1 : b en h' = .nx env1 h1 := e1
        show (b en h').turn _ = _
        rw [e1]
        exact e2
    · have : i = xs.length := by omega
      subst this
      rw [List.getElem?_eq_none (by omega)]
      exact ⟨env, h, rfl, hI⟩
theorem sFor_live {w : Nat} {src : M Src} {t : MT} {b : MS} {env : Env'} {h h1 : EH} {L : Nat} {xs : List Val} (I : Nat → Env' → EH → Prop) (es : src env h = .ok (.live (.r L)) h1) (hw : xs.length < w) (live : ∀ i env h, I i env h → h[L]? = some (.lst xs)) (step : ∀ i env h (hi : i < xs.length), I i env h → ∃ env' h', ((t xs[i] env h).run env fun env1 h1 => b env1 h1) = .nx env' h' ∧ I (i + 1) env' h') (h0 : I 0 env h1) : ∃ env' h', sFor w src t b env h = .nx env' h' ∧ I xs.length env' h' := by
  obtain ⟨env', h', e, z⟩ := loopG_inv I live step w 0 env h1 (by omega) (Nat.zero_le _) h0
  refine ⟨env', h', ?_, z⟩
  unfold sFor
  rw [es, run_ok]
  exact e
end Ev
namespace K73
open Ev
theorem law_bag (ns : List Int) (hn : ns.length ≤ 63) : ∃ c0 cs a b p, callFn m__law_bag [.z ns] [] = .ok (.r 2) [c0, .lst (iz cs), bagO a b p] ∧ Bag [c0, .lst (iz cs), bagO a b p] cs := by
  have cl := cut_len ns none (some 63)
  have sl : opSlice (.z ns) none (some 63) [] = .ok (.r 0) [.lst (iz (cutL ns none (some 63)))] := by
    have t : asT (.z ns) = none := rfl
    have g : getS (.z ns) [] = some (iz ns) := rfl
    unfold opSlice
    simp only [t, g]
    rw [cut_iz, newL_ok (by rw [iz_len]; omega)]
    rfl
  generalize cutL ns none (some 63) = cs at sl cl
  have si : iVal (mSlice (mVar 0) (mPart none) (mPart (some (mCst (.d (.int 63)))))) [some (.z ns), none] [] = .ok (.live (.r 0)) [.lst (iz cs)] := iVal_l (mSlice_ok rfl mPart_n (mPart_s rfl) sl) rfl
  have em := mComp_live (w := wd) (k := 1) (own := [1]) (e := mOp bAbs (mCons (mVar 1) mNil)) (fun v => match v with
    | .d (.int i) => .d (.int (if i < 0 then -i else i))
    | v => v) si (xs := iz cs) rfl (fun x m => by
    obtain ⟨i, _, rfl⟩ := List.mem_map.mp m
    exact mOp_ok (mCons_ok rfl mNil_ok) rfl) (by rw [iz_len]; show cs.length < 1000000; omega) (by rw [iz_len]; omega)
  have ee : (iz cs).map (fun v => match v with
    | .d (.int i) => Val.d (.int (if i < 0 then -i else i))
    | v => v) = iz (cs.map fun i => if i < 0 then -i else i) := by simp [iz]
  rw [ee] at em
  refine ⟨.lst (iz cs), cs.map fun i => if i < 0 then -i else i, 0, 1234567891, 0, ?_, ⟨by simp, rfl, by rw [List.length_map]; omega, ⟨_, _, _, rfl⟩, ?_⟩⟩
  · show callSh m__law_bag [.z ns] [] = _
    have key : m__law_bag [.z ns] [] = .ok (.r 2) [.lst (iz cs), .lst (iz (cs.map fun i => if i < 0 then -i else i)), bagO 0 1234567891 0] :=
      fn_rt' (n := 1) (m := 2) (b := b__law_bag) rfl (sSeq_rt (sRet_ok (mLst_ok (mCons_ok rfl (mCons_ok rfl (mCons_ok rfl (mCons_ok em mNil_ok)))) (by simp))))
    unfold callSh
    rw [key]
    rfl
  · have iz_lt : ∀ (n : Nat) (cs : List Int), Val.lts n (iz cs) = true := fun n cs => by
      induction cs with
      | nil => rfl
      | cons c r ih => exact ih
    show (Val.lts 3 (iz cs) && (Val.lts 3 (iz (cs.map fun i => if i < 0 then -i else i)) && (Ob.lt 3 (bagO 0 1234567891 0) && true))) = true
    rw [iz_lt, iz_lt]
    rfl
/-- one of a list -/
theorem some_ok {h : EH} {ns : List Int} (B : Bag h ns) {L : Nat} {xs : List Int} (e : h[L]? = some (.lst (iz xs))) (hL : L ≠ 2) (hx : xs ≠ []) (hs : xs.length < 1000000) : ∃ x a b p, callFn m__law_some [.r 2, .r L] h = .ok (.d (.int x)) (h.set 2 (bagO a b p)) ∧ x ∈ xs := by
  have lp : 0 < xs.length := List.length_pos_iff.mpr hx
  obtain ⟨v, a, b, p, et, h0, h1⟩ := take_ok B (many := (xs.length : Int)) (by omega) (by omega)
  obtain ⟨i, rfl⟩ : ∃ i : Nat, v = (i : Int) := ⟨v.toNat, by omega⟩
  have hi : i < xs.length := by omega
  refine ⟨xs[i], a, b, p, ?_, List.getElem_mem hi⟩
  have gl : (h.set 2 (bagO a b p))[L]? = some (.lst (iz xs)) := by
    rw [List.getElem?_set_ne (Ne.symm hL)]
    exact e
  have ix : opIdx (.r L) (.d (.int (i : Int))) (h.set 2 (bagO a b p)) = .ok (.d (.int xs[i])) (h.set 2 (bagO a b p)) := by
    rw [opIdx_l gl]
    have z : atV (iz xs) (i : Int) = some (.d (.int xs[i])) := by
      unfold atV L2.ixN
      rw [if_pos (by omega), if_pos (by rw [iz_len]; omega)]
      simp [iz, hi]
    rw [z]
  have ln : bLen [.r L] h = .ok (.d (.int (xs.length : Int))) h := by
    have g : getS (.r L) h = some (iz xs) := by simp [getS, asT, getL, e]
    unfold bLen
    simp only [g]
    rw [iz_len]
    rfl
  have key : m__law_some [.r 2, .r L] h = .ok (.d (.int xs[i])) (h.set 2 (bagO a b p) ++ []) := by
    rw [List.append_nil]
    exact fn_rt' (n := 2) (m := 2) (b := b__law_some) rfl (sSeq_rt (sRet_ok (m2_ok rfl (mCall_ok (mCons_ok rfl (mCons_ok (mOp_ok (mCons_ok rfl mNil_ok) ln) mNil_ok)) et) ix)))
  show callSh m__law_some [.r 2, .r L] h = _
  have S := B.set a b p
  have k := S.k
  rw [List.length_set] at k
  exact call_end key (by simp) rfl k
/-- a new board behind three objects -/
theorem board_ok {h : EH} (hl : h.length = 3) (hc : allLt 3 h = true) (w : Nat) : ∃ h', mMake C_Board m_Board___init__ [] (mCons (m2 opAdd (mVar 2) (mVar 3)) mNil) = mMake C_Board m_Board___init__ [] (mCons (m2 opAdd (mVar 2) (mVar 3)) mNil) ∧ makeFn C_Board m_Board___init__ [.d (.int (w : Int))] h = .ok (.r 3) h' ∧ Bd w [] h' ∧ h' = h ++ [.ins 0 (flds w), .lst [], .dt []] := by
  match h, hl with
  | [o0, o1, o2], _ =>
    refine ⟨_, rfl, ?_, ⟨rfl, rfl, rfl, ?_⟩, rfl⟩
    · have key : m_Board___init__ (.r 3 :: [.d (.int (w : Int))]) ([o0, o1, o2] ++ [.ins C_Board []]) = .ok (.d .non) [o0, o1, o2, .ins 0 (flds w), .lst [], .dt []] := rfl
      unfold makeFn
      show (match m_Board___init__ (.r 3 :: [.d (.int (w : Int))]) ([o0, o1, o2] ++ [.ins C_Board []]) with
        | .ok (.d .non) h' => gc 4 (.r 3) h'
        | .ok _ _ => .bad
        | .exc c fs h' => .exc c fs h'
        | .bad => .bad) = _
      rw [key]
      show gc 4 (.r 3) _ = _
      unfold gc
      have z : allLt 4 (List.take 4 [o0, o1, o2, .ins 0 (flds w), .lst [], .dt []]) = false := by
        show (Ob.lt 4 o0 && (Ob.lt 4 o1 && (Ob.lt 4 o2 && (false && true)))) = false
        simp
      rw [z, Bool.and_false, if_neg (by decide)]
      rfl
    · have m : allLt 6 [o0, o1, o2] = true := all_mono (by decide) hc
      exact all_app (a := [o0, o1, o2]) m rfl
theorem gate_not_ok {w : Nat} {gs : List G} {h : EH} (B : Bd w gs h) (wf : WF w gs) {r : Nat} {b : List Bool → Bool} (hr : Wi w gs r b) (hl : gs.length + 1 ≤ 16000000) :
    Rs w h gs 1 (callFn m_Board_gate [.r 3, .d (.str k2_not), .d (.int (r : Int)), .d .non] h) (fun gs' n => Wi w gs' n fun xs => !b xs) := by
  have f1 : getF F_turned (flds w) = none := rfl
  refine Rs.fwd B ?_ (turned_ok B wf hr hl)
  have m := meth_B B f1 (f := m_Board_turned) (ma := mCons (mVar 2) mNil) (env := startE 8 [.r 3, .d (.str k2_not), .d (.int (r : Int)), .d .non]) (xs := [.d (.int (r : Int))]) rfl rfl
  obtain ⟨gs', n, e, _⟩ := turned_ok B wf hr hl
  rw [e] at m ⊢
  exact fn_rt' (n := 4) (m := 8) (b := b_Board_gate) rfl (sSeq_rt (sIf_t (mB_ok (m2_ok rfl rfl rfl)) (sSeq_rt (sRet_ok m))))
end K73

set_option Elab.async false
set_option linter.all false
set_option maxRecDepth 100000
set_option maxHeartbeats 1000000
namespace K73
open Ev
/-! ### where the law stands -/
structure St (w : Nat) (gs : List G) (ns : List Int) (h : EH) : Prop where
  D : Bd w gs h
  wf : WF w gs
  B : Bag h ns
/-- the lists stand -/
def Kp (h h' : EH) : Prop := h.length ≤ h'.length ∧ ∀ L, 6 ≤ L → L < h.length → h'[L]? = h[L]?
theorem Kp.refl (h : EH) : Kp h h := ⟨Nat.le_refl _, fun _ _ _ => rfl⟩
theorem Kp.trans {a b c : EH} (x : Kp a b) (y : Kp b c) : Kp a c := ⟨Nat.le_trans x.1 y.1, fun L l1 l2 => (y.2 L l1 (Nat.lt_of_lt_of_le l2 x.1)).trans (x.2 L l1 l2)⟩
theorem Kp.at {a b : EH} (x : Kp a b) {L : Nat} {o : Ob} (l : 6 ≤ L) (e : a[L]? = some o) : b[L]? = some o := (x.2 L l (List.getElem?_eq_some_iff.mp e).1).trans e
theorem Kp.app (h j : EH) : Kp h (h ++ j) := ⟨by simp, fun L _ l => List.getElem?_append_left l⟩
theorem Kp.up (h : EH) (w : Nat) (gs : List G) : Kp h (upB h w gs) := ⟨by rw [upB_len]; exact Nat.le_refl _, fun L l _ => by
  unfold upB
  rw [List.getElem?_set_ne (by omega), List.getElem?_set_ne (by omega)]⟩
theorem Kp.bag (h : EH) (o : Ob) : Kp h (h.set 2 o) := ⟨by simp, fun L l _ => by rw [List.getElem?_set_ne (by omega)]⟩
variable {w : Nat} {gs : List G} {ns : List Int} {h : EH}
theorem St.l (S : St w gs ns h) : 5 < h.length := (List.getElem?_eq_some_iff.mp S.D.k).1
theorem St.up (S : St w gs ns h) {gs' : List G} (wf : WF w gs') : St w gs' ns (upB h w gs') := ⟨S.D.up, wf, S.B.up S.D⟩
theorem St.app (S : St w gs ns h) {j : EH} (hj : allLt (h.length + j.length) j = true) : St w gs ns (h ++ j) := ⟨S.D.junk j hj, S.wf, S.B.junk hj⟩
theorem St.bag (S : St w gs ns h) (a b p : Int) : St w gs ns (h.set 2 (bagO a b p)) := ⟨S.D.setB S.B.l a b p, S.wf, S.B.set a b p⟩
theorem St.set (S : St w gs ns h) {L : Nat} {o : Ob} (l : 6 ≤ L) (ho : Ob.lt h.length o = true) : St w gs ns (h.set L o) := by
  obtain ⟨a, b, p, eb⟩ := S.B.b
  have k : allLt (h.set L o).length (h.set L o) = true := by
    rw [List.length_set]
    exact allLt_set S.D.c ho
  refine ⟨⟨?_, ?_, ?_, k⟩, S.wf, ⟨by rw [List.length_set]; exact S.B.l, ?_, S.B.n, ⟨a, b, p, ?_⟩, k⟩⟩
  · rw [List.getElem?_set_ne (by omega)]; exact S.D.b
  · rw [List.getElem?_set_ne (by omega)]; exact S.D.g
  · rw [List.getElem?_set_ne (by omega)]; exact S.D.k
  · rw [List.getElem?_set_ne (by omega)]; exact S.B.c
  · rw [List.getElem?_set_ne (by omega)]; exact eb
theorem Rt.st {c : Nat} {r : R Val} {f : List Bool → List Bool} (S : St w gs ns h) (x : Rt w h gs c r f) : ∃ gs' rs h', r = .ok (.d (rl rs)) h' ∧ St w gs' ns h' ∧ gs <+: gs' ∧ gs'.length ≤ gs.length + c ∧ Ri w gs' rs f ∧ Kp h h' ∧ h'.length = h.length := by
  obtain ⟨gs', rs, e, p, wf, l, q⟩ := x
  exact ⟨gs', rs, _, e, S.up wf, p, l, q, Kp.up _ _ _, upB_len _ _ _⟩
theorem Rs.st {c : Nat} {r : R Val} {f : List Bool → Bool} (S : St w gs ns h) (x : Rs w h gs c r fun gs' n => Wi w gs' n f) : ∃ gs' n h', r = .ok (.d (.int ((n : Nat) : Int))) h' ∧ St w gs' ns h' ∧ gs <+: gs' ∧ gs'.length ≤ gs.length + c ∧ Wi w gs' n f ∧ Kp h h' ∧ h'.length = h.length := by
  obtain ⟨gs', n, e, p, wf, l, q⟩ := x
  exact ⟨gs', n, _, e, S.up wf, p, l, q, Kp.up _ _ _, upB_len _ _ _⟩
/-- a method of the board, at whatever slot -/
theorem meth_v {h' : EH} {i : Nat} {f : Fn} {ma : M (List Val)} {env : Env'} {q : Nat} {ds : List D} {r : R Val} {xs : List Val} (B : Bd w gs h) (hq : getF q (flds w) = none) (e0 : env[i]? = some (some (.r 3))) (ea : ma env h = .ok xs h') (er : callFn f (.r 3 :: (xs ++ ds.map .d)) h' = r) : mMeth C_Board q f ds (mVar i) ma env h = r := by
  have b : Nat.beq 0 C_Board = true := rfl
  simp [mMeth, mVar, e0, ins_at B, b, hq, ea, er]
/-- lists of rails -/
def rv (rs : List (List Nat)) : List Val := rs.map fun r => .d (rl r)
@[simp] theorem rv_len (rs : List (List Nat)) : (rv rs).length = rs.length := by simp [rv]
theorem rv_lts (n : Nat) : ∀ rs : List (List Nat), Val.lts n (rv rs) = true
  | [] => rfl
  | r :: rs => rv_lts n rs
theorem rv_all (n : Nat) (rs : List (List Nat)) : allLt n [.lst (rv rs)] = true := by
  show (Val.lts n (rv rs) && true) = true
  rw [rv_lts]
  rfl
theorem iz_lts (n : Nat) : ∀ rs : List Int, Val.lts n (iz rs) = true
  | [] => rfl
  | r :: rs => iz_lts n rs
theorem iz_all (n : Nat) (rs : List Int) : allLt n [.lst (iz rs)] = true := by
  show (Val.lts n (iz rs) && true) = true
  rw [iz_lts]
  rfl
/-- two lists one behind another -/
theorem add_ll {h : EH} {m n : Nat} {xs ys : List Val} (e1 : h[m]? = some (.lst xs)) (e2 : h[n]? = some (.lst ys)) (hl : xs.length + ys.length ≤ 16777216) : opAdd (.r m) (.r n) h = .ok (.r h.length) (h ++ [.lst (xs ++ ys)]) := by
  have t : ∀ n, asT (.r n) = none := fun n => rfl
  have q1 : getL (.r m) h = some xs := by simp [getL, e1]
  have q2 : getL (.r n) h = some ys := by simp [getL, e2]
  unfold opAdd
  simp only [t, q1, q2]
  exact newL_ok (by rw [List.length_append]; exact hl)
theorem add_rr (as bs : List Nat) (h : EH) (hl : as.length + bs.length ≤ 16777216) : opAdd (.d (rl as)) (.d (rl bs)) h = .ok (.d (rl (as ++ bs))) h := by
  have e : ∀ ns : List Nat, (ns.map fun (n : Nat) => D.int (n : Int)).map Val.d = ri ns := fun ns => by simp [ri]
  show newT ((as.map fun (n : Nat) => D.int (n : Int)).map Val.d ++ (bs.map fun (n : Nat) => D.int (n : Int)).map Val.d) h = _
  rw [e, e, newT_ok (by rw [List.length_append, ri_len, ri_len]; exact hl), show ri as ++ ri bs = ri (as ++ bs) by simp [ri], mkT_ri]
theorem tup_ri {h : EH} {n : Nat} {rs : List Nat} (e : h[n]? = some (.lst (ri rs))) (hl : rs.length ≤ 16777216) : bTuple [.r n] h = .ok (.d (rl rs)) h := by
  have t : asT (.r n) = none := rfl
  have g : getS (.r n) h = some (ri rs) := by simp [getS, asT, getL, e]
  unfold bTuple
  simp only [t, g]
  rw [newT_ok (by rw [ri_len]; exact hl), mkT_ri]
theorem get_last (h : EH) (o : Ob) : (h ++ [o])[h.length]? = some o := by simp
theorem tyNo_l {h : EH} {n : Nat} {xs : List Val} (e : h[n]? = some (.lst xs)) : tyNo (.r n) h = some 4 := by simp [tyNo, e]
theorem max_i (i j : Nat) (h : EH) : bMax [.d (.int (i : Int)), .d (.int (j : Int))] h = .ok (.d (.int ((max i j : Nat) : Int))) h := bMax_2 i j h
end K73

set_option Elab.async false
set_option linter.all false
set_option maxRecDepth 100000
set_option maxHeartbeats 1000000
namespace K73
open Ev
/-! ### the law's statements, by name -/
abbrev ls0 : MS := (sAsg (mCall m__law_bag [] (mCons (mVar 0) mNil)) (tgName 1))
abbrev ls1 : MS := (sPar [2, 3] (mCons (m2 opAdd (mCst (.d (.int 8))) (mCall m__law_take [] (mCons (mVar 1) (mCons (mCst (.d (.int 7))) mNil)))) (mCons (m2 opAdd (mCst (.d (.int 8))) (mCall m__law_take [] (mCons (mVar 1) (mCons (mCst (.d (.int 13))) mNil)))) mNil)))
abbrev ls2 : MS := (sAsg (mTup (mCons (mMake C_Board m_Board___init__ [] (mCons (m2 opAdd (mVar 2) (mVar 3)) mNil)) (mCons (mCall m__law_take [] (mCons (mVar 1) (mCons (mCst (.d (.int 12))) mNil))) (mCons (mCall m__law_take [] (mCons (mVar 1) (mCons (mCst (.d (.int 12))) mNil))) (mCons (m2 opSub (mCall m__law_take [] (mCons (mVar 1) (mCons (mCst (.d (.int 2000))) mNil))) (mCst (.d (.int 1000)))) mNil))))) (tgTup 4 (tgCons (tgName 4) (tgCons (tgName 5) (tgCons (tgName 6) (tgCons (tgName 7) tgNil))))))
abbrev ls3 : MS := (sPar [8, 9] (mCons (mRg newT (mCons (mVar 2) mNil)) (mCons (mRg newT (mCons (mVar 2) (mCons (m2 opAdd (mVar 2) (mVar 3)) mNil))) mNil)))
abbrev ls4 : MS := (sPar [10, 11, 12] (mCons (mMeth C_Board F_added m_Board_added [] (mVar 4) (mCons (mVar 8) (mCons (mVar 9) mNil))) (mCons (mMeth C_Board F_less m_Board_less [] (mVar 4) (mCons (mVar 8) (mCons (mVar 9) mNil))) (mCons (mMeth C_Board F_product m_Board_product [] (mVar 4) (mCons (mVar 8) (mCons (mVar 9) mNil))) mNil))))
abbrev ls5 : MS := (sPar [13, 14] (mCons (mMeth C_Board F_is_below m_Board_is_below [] (mVar 4) (mCons (mVar 8) (mCons (mVar 9) mNil))) (mCons (mMeth C_Board F_number m_Board_number [] (mVar 4) (mCons (mVar 7) (mCons (mCst (.d (.int 12))) mNil))) mNil)))
abbrev ls6 : MS := (sAsg (mOp bMax (mCons (mVar 2) (mCons (mVar 3) mNil))) (tgName 15))
abbrev ls7 : MS := (sPar [16, 17] (mCons (mMeth C_Board F_stretched m_Board_stretched [] (mVar 4) (mCons (mVar 8) (mCons (m2 opAdd (mVar 15) (mCst (.d (.int 2)))) mNil))) (mCons (mMeth C_Board F_stretched m_Board_stretched [] (mVar 4) (mCons (mVar 9) (mCons (m2 opAdd (mVar 15) (mCst (.d (.int 2)))) mNil))) mNil)))
abbrev ls8 : MS := (sAsg (mLst (mCons (mVar 10) (mCons (mVar 11) (mCons (mVar 12) (mCons (mMeth C_Board F_halved m_Board_halved [] (mVar 4) (mCons (mVar 8) (mCons (mVar 5) mNil))) (mCons (mMeth C_Board F_doubled m_Board_doubled [] (mVar 4) (mCons (mVar 9) (mCons (mVar 6) mNil))) mNil)))))) (tgName 18))
abbrev ls9 : MS := (sAsg (m2 opAdd (mVar 18) (mLst (mCons (mMeth C_Board F_chosen m_Board_chosen [] (mVar 4) (mCons (mVar 13) (mCons (mVar 16) (mCons (mVar 17) mNil)))) (mCons (mVar 14) mNil)))) (tgName 18))
abbrev ls10 : MS := (sExpr (mBM 4 lAppend (mVar 18) (mCons (mMeth C_Board F_added m_Board_added [] (mVar 4) (mCons (mMeth C_Board F_product m_Board_product [] (mVar 4) (mCons (mVar 8) (mCons (mVar 14) mNil))) (mCons (mMeth C_Board F_halved m_Board_halved [] (mVar 4) (mCons (mVar 10) (mCons (mCst (.d (.int 1))) mNil))) mNil))) mNil)))
abbrev ls11 : MS := (sAsg (m2 opAdd (mVar 18) (mLst (mCons (mMeth C_Board F_less m_Board_less [] (mVar 4) (mCons (mVar 14) (mCons (mVar 11) mNil))) (mCons (mVar 16) mNil)))) (tgName 18))
abbrev ls12 : MS := (sAsg (mLst (mCons (mVar 13) (mCons (mMeth C_Board F_is_wide m_Board_is_wide [] (mVar 4) (mCons (mVar 10) (mCons (mCst (.d (.int 10))) mNil))) (mCons (mMeth C_Board F_is_wide m_Board_is_wide [] (mVar 4) (mCons (mVar 12) (mCons (mVar 15) mNil))) mNil)))) (tgName 19))
abbrev ls13 : MS := (sAsg (m2 opAdd (mVar 19) (mLst (mCons (mMeth C_Board F_gate m_Board_gate [.non] (mVar 4) (mCons (mCst (.d (.str k2_not))) (mCons (mVar 13) mNil))) (mCons (mMeth C_Board F_constant m_Board_constant [] (mVar 4) (mCons (mCst (.d (.int 1))) mNil)) mNil)))) (tgName 19))
abbrev ls14 : MS := (sAsg (mTup mNil) (tgName 20))
abbrev ls15 : MS := (sFor wd (iVal (mVar 18)) (tgName 21) (sSeq (sAsg (m2 opAdd (mVar 20) (mOp bTuple (mCons (mVar 21) mNil))) (tgName 20)) sNext))
abbrev ls16 : MS := (sAsg (mMeth C_Board F_net m_Board_net [] (mVar 4) (mCons (m2 opAdd (mVar 20) (mOp bTuple (mCons (mVar 19) mNil))) mNil)) (tgName 22))
abbrev ls17 : MS := (sIf ((mOr (mNot (mTruth (mCall m__law_alike [] (mCons (mCall m_checked_net [] (mCons (mVar 22) mNil)) (mCons (mVar 22) mNil))))) (mB (m2 opGt (mCall m_depth [] (mCons (mVar 22) mNil)) (mOp bLen (mCons (mIdx (mVar 22) (mCst (.d (.int 1)))) mNil)))))) (sSeq (sRet (mCst (.d (.bl false)))) sNext) sNext)
abbrev ls18 : MS := (sPar [23, 24] (mCons (mIdx (mCall m__law_two [] (mCons (m2 opSub (mVar 2) (mCst (.d (.int 1)))) mNil)) (mCst (.d (.int 0)))) (mCons (mIdx (mCall m__law_two [] (mCons (m2 opSub (mVar 3) (mCst (.d (.int 1)))) mNil)) (mCst (.d (.int 0)))) mNil)))
abbrev ls19 : MS := (sFor wd (iRange1 (mCons (mCst (.d (.int 10))) mNil)) (tgName 25) (sSeq (sAsg (mCall m__law_some [] (mCons (mVar 1) (mCons (mLst (mCons (m2 opSub (mVar 23) (mCst (.d (.int 1)))) (mCons (m1 opNeg (mVar 23)) (mCons (mCst (.d (.int 0))) (mCons (m1 opNeg (mCst (.d (.int 1)))) (mCons (m2 opSub (mCall m__law_take [] (mCons (mVar 1) (mCons (m2 opMul (mCst (.d (.int 2))) (mVar 23)) mNil))) (mVar 23)) mNil)))))) mNil))) (tgName 26)) (sSeq (sAsg (mCall m__law_some [] (mCons (mVar 1) (mCons (mLst (mCons (m2 opSub (mVar 24) (mCst (.d (.int 1)))) (mCons (m1 opNeg (mVar 24)) (mCons (mCst (.d (.int 0))) (mCons (mCst (.d (.int 1))) (mCons (m2 opSub (mCall m__law_take [] (mCons (mVar 1) (mCons (m2 opMul (mCst (.d (.int 2))) (mVar 24)) mNil))) (mVar 24)) (mCons (mVar 26) mNil))))))) mNil))) (tgName 27)) (sSeq (sAsg (mIf (mB (mChain opLe opLt (m1 opNeg (mVar 24)) (mVar 27) (mVar 24))) (mVar 27) (mCst (.d (.int 5)))) (tgName 27)) (sSeq (sAsg (mCall m_flow [] (mCons (mVar 22) (mCons (mOp bTuple (mCons (m2 opAdd (mCall m__law_bits [] (mCons (mVar 26) (mCons (mVar 2) mNil))) (mCall m__law_bits [] (mCons (mVar 27) (mCons (mVar 3) mNil)))) mNil)) mNil))) (tgName 28)) (sSeq (sPar [29, 30] (mCons (mLst mNil) (mCons (mCst (.d (.int 0))) mNil))) (sSeq (sFor wd (iVal (mVar 18)) (tgName 21) (sSeq (sExpr (mBM 4 lAppend (mVar 29) (mCons (mCall m__law_integer [] (mCons (mSlice (mVar 28) (mPart (some (mVar 30))) (mPart (some (m2 opAdd (mVar 30) (mOp bLen (mCons (mVar 21) mNil)))))) mNil)) mNil))) (sSeq (sAug 30 ipAdd (mOp bLen (mCons (mVar 21) mNil))) sNext))) (sSeq (sAsg (mLst (mCons (m2 opAdd (mVar 26) (mVar 27)) (mCons (m2 opSub (mVar 26) (mVar 27)) (mCons (m2 opMul (mVar 26) (mVar 27)) (mCons (m2 opFdiv (mOp bInt (mCons (mVar 26) mNil)) (mIdx (mCall m__law_two [] (mCons (mVar 5) mNil)) (mCst (.d (.int 0))))) (mCons (m2 opMul (mVar 27) (mIdx (mCall m__law_two [] (mCons (mVar 6) mNil)) (mCst (.d (.int 0))))) (mCons (mOp bMin (mCons (mVar 26) (mCons (mVar 27) mNil))) (mCons (mVar 7) mNil)))))))) (tgName 31)) (sSeq (sAsg (m2 opAdd (mVar 31) (mLst (mCons (m2 opAdd (m2 opMul (mVar 26) (mVar 7)) (m2 opFdiv (mOp bInt (mCons (m2 opAdd (mVar 26) (mVar 27)) mNil)) (mCst (.d (.int 2))))) (mCons (m2 opSub (mVar 7) (m2 opSub (mVar 26) (mVar 27))) (mCons (mVar 26) mNil))))) (tgName 31)) (sSeq (sIf (mNot (mTruth (mCall m__law_alike [] (mCons (mVar 29) (mCons (mVar 31) mNil))))) (sSeq (sRet (mCst (.d (.bl false)))) sNext) sNext) (sSeq (sAsg (mIdx (mCall m__law_two [] (mCons (m2 opSub (mVar 15) (mCst (.d (.int 1)))) mNil)) (mCst (.d (.int 0)))) (tgName 32)) (sSeq (sAsg (mLst (mCons (m2 opLt (mVar 26) (mVar 27)) (mCons (mNotV (mChain opLe opLt (m1 opNeg (mCst (.d (.int 512)))) (m2 opAdd (mVar 26) (mVar 27)) (mCst (.d (.int 512))))) (mCons (mNotV (mChain opLe opLt (m1 opNeg (mVar 32)) (m2 opMul (mVar 26) (mVar 27)) (mVar 32))) (mCons (m2 opGe (mVar 26) (mVar 27)) (mCons (mCst (.d (.bl true))) mNil)))))) (tgName 33)) (sSeq (sIf (mB (m2 opNe (mOp bList (mCons (mSlice (mVar 28) (mPart (some (mVar 30))) (mPart none)) mNil)) (mComp wd (iVal (mVar 33)) (.one 34) mYes (mOp bInt (mCons (mVar 34) mNil)) [34]))) (sSeq (sRet (mCst (.d (.bl false)))) sNext) sNext) sNext)))))))))))))
abbrev ls20 : MS := (sRet (mCst (.d (.bl true))))
abbrev lb0 : MS := (sAsg (mCall m__law_some [] (mCons (mVar 1) (mCons (mLst (mCons (m2 opSub (mVar 23) (mCst (.d (.int 1)))) (mCons (m1 opNeg (mVar 23)) (mCons (mCst (.d (.int 0))) (mCons (m1 opNeg (mCst (.d (.int 1)))) (mCons (m2 opSub (mCall m__law_take [] (mCons (mVar 1) (mCons (m2 opMul (mCst (.d (.int 2))) (mVar 23)) mNil))) (mVar 23)) mNil)))))) mNil))) (tgName 26))
abbrev lb1 : MS := (sAsg (mCall m__law_some [] (mCons (mVar 1) (mCons (mLst (mCons (m2 opSub (mVar 24) (mCst (.d (.int 1)))) (mCons (m1 opNeg (mVar 24)) (mCons (mCst (.d (.int 0))) (mCons (mCst (.d (.int 1))) (mCons (m2 opSub (mCall m__law_take [] (mCons (mVar 1) (mCons (m2 opMul (mCst (.d (.int 2))) (mVar 24)) mNil))) (mVar 24)) (mCons (mVar 26) mNil))))))) mNil))) (tgName 27))
abbrev lb2 : MS := (sAsg (mIf (mB (mChain opLe opLt (m1 opNeg (mVar 24)) (mVar 27) (mVar 24))) (mVar 27) (mCst (.d (.int 5)))) (tgName 27))
abbrev lb3 : MS := (sAsg (mCall m_flow [] (mCons (mVar 22) (mCons (mOp bTuple (mCons (m2 opAdd (mCall m__law_bits [] (mCons (mVar 26) (mCons (mVar 2) mNil))) (mCall m__law_bits [] (mCons (mVar 27) (mCons (mVar 3) mNil)))) mNil)) mNil))) (tgName 28))
abbrev lb4 : MS := (sPar [29, 30] (mCons (mLst mNil) (mCons (mCst (.d (.int 0))) mNil)))
abbrev lb5 : MS := (sFor wd (iVal (mVar 18)) (tgName 21) (sSeq (sExpr (mBM 4 lAppend (mVar 29) (mCons (mCall m__law_integer [] (mCons (mSlice (mVar 28) (mPart (some (mVar 30))) (mPart (some (m2 opAdd (mVar 30) (mOp bLen (mCons (mVar 21) mNil)))))) mNil)) mNil))) (sSeq (sAug 30 ipAdd (mOp bLen (mCons (mVar 21) mNil))) sNext)))
abbrev lb6 : MS := (sAsg (mLst (mCons (m2 opAdd (mVar 26) (mVar 27)) (mCons (m2 opSub (mVar 26) (mVar 27)) (mCons (m2 opMul (mVar 26) (mVar 27)) (mCons (m2 opFdiv (mOp bInt (mCons (mVar 26) mNil)) (mIdx (mCall m__law_two [] (mCons (mVar 5) mNil)) (mCst (.d (.int 0))))) (mCons (m2 opMul (mVar 27) (mIdx (mCall m__law_two [] (mCons (mVar 6) mNil)) (mCst (.d (.int 0))))) (mCons (mOp bMin (mCons (mVar 26) (mCons (mVar 27) mNil))) (mCons (mVar 7) mNil)))))))) (tgName 31))
abbrev lb7 : MS := (sAsg (m2 opAdd (mVar 31) (mLst (mCons (m2 opAdd (m2 opMul (mVar 26) (mVar 7)) (m2 opFdiv (mOp bInt (mCons (m2 opAdd (mVar 26) (mVar 27)) mNil)) (mCst (.d (.int 2))))) (mCons (m2 opSub (mVar 7) (m2 opSub (mVar 26) (mVar 27))) (mCons (mVar 26) mNil))))) (tgName 31))
abbrev lb8 : MS := (sIf (mNot (mTruth (mCall m__law_alike [] (mCons (mVar 29) (mCons (mVar 31) mNil))))) (sSeq (sRet (mCst (.d (.bl false)))) sNext) sNext)
abbrev lb9 : MS := (sAsg (mIdx (mCall m__law_two [] (mCons (m2 opSub (mVar 15) (mCst (.d (.int 1)))) mNil)) (mCst (.d (.int 0)))) (tgName 32))
abbrev lb10 : MS := (sAsg (mLst (mCons (m2 opLt (mVar 26) (mVar 27)) (mCons (mNotV (mChain opLe opLt (m1 opNeg (mCst (.d (.int 512)))) (m2 opAdd (mVar 26) (mVar 27)) (mCst (.d (.int 512))))) (mCons (mNotV (mChain opLe opLt (m1 opNeg (mVar 32)) (m2 opMul (mVar 26) (mVar 27)) (mVar 32))) (mCons (m2 opGe (mVar 26) (mVar 27)) (mCons (mCst (.d (.bl true))) mNil)))))) (tgName 33))
abbrev lb11 : MS := (sIf (mB (m2 opNe (mOp bList (mCons (mSlice (mVar 28) (mPart (some (mVar 30))) (mPart none)) mNil)) (mComp wd (iVal (mVar 33)) (.one 34) mYes (mOp bInt (mCons (mVar 34) mNil)) [34]))) (sSeq (sRet (mCst (.d (.bl false)))) sNext) sNext)
theorem rng_ri (n : Nat) : rng 0 n = ri (List.range n) := by
  unfold rng ri
  apply List.map_congr_left
  intro i _
  rw [Int.zero_add]
theorem rng_ri2 (m n : Nat) : rng (m : Int) n = ri (List.range' m n) := by
  unfold rng ri
  rw [List.range'_eq_map_range, List.map_map]
  apply List.map_congr_left
  intro i _
  show Val.d (.int _) = Val.d (.int _)
  congr 2
theorem mRg1_ok {ma : M (List Val)} {env : Env'} {h h1 : EH} {j : Nat} (ea : ma env h = .ok [.d (.int (j : Int))] h1) (hj : j ≤ 1000000) : mRg newT ma env h = .ok (.d (rl (List.range j))) h1 := by
  unfold mRg
  rw [ea, bind_mk]
  show (if rgOk 0 (j : Int) = true then newT (rng 0 ((j : Int) - 0).toNat) h1 else .bad) = _
  rw [if_pos (rgOk_of (by omega) (by omega) (by omega) (by omega)), show ((j : Int) - 0).toNat = j by omega, rng_ri, newT_ok (by simp; omega), mkT_ri]
theorem mRg2_ok {ma : M (List Val)} {env : Env'} {h h1 : EH} {i j : Nat} (ea : ma env h = .ok [.d (.int (i : Int)), .d (.int ((i : Int) + (j : Int)))] h1) (hi : i ≤ 1000000) (hj : j ≤ 1000000) : mRg newT ma env h = .ok (.d (rl (List.range' i j))) h1 := by
  unfold mRg
  rw [ea, bind_mk]
  show (if rgOk (i : Int) ((i : Int) + (j : Int)) = true then newT (rng (i : Int) ((i : Int) + (j : Int) - (i : Int)).toNat) h1 else .bad) = _
  rw [if_pos (rgOk_of (by omega) (by omega) (by omega) (by omega)), show ((i : Int) + (j : Int) - (i : Int)).toNat = j by omega, rng_ri2, newT_ok (by simp; omega), mkT_ri]
theorem nat_of {v : Int} (h : 0 ≤ v) : ∃ n : Nat, v = (n : Int) := ⟨v.toNat, by omega⟩
/-- the draws, the board -/
theorem partA (ns : List Int) (hn : ns.length ≤ 63) (rest : MS) : ∃ (W1 W2 a b : Nat) (c : Int) (cs : List Int) (h : EH),
    sSeq ls0 (sSeq ls1 (sSeq ls2 (sSeq ls3 rest))) (startE 35 [.z ns]) [] = rest [some (.z ns), some (.r 2), some (.d (.int (W1 : Int))), some (.d (.int (W2 : Int))), some (.r 3), some (.d (.int (a : Int))), some (.d (.int (b : Int))), some (.d (.int c)), some (.d (rl (List.range W1))), some (.d (rl (List.range' W1 W2))), none, none, none, none, none, none, none, none, none, none, none, none, none, none, none, none, none, none, none, none, none, none, none, none, none] h ∧
    St (W1 + W2) [] cs h ∧ 6 ≤ h.length ∧ 8 ≤ W1 ∧ W1 < 15 ∧ 8 ≤ W2 ∧ W2 < 21 ∧ a < 12 ∧ b < 12 ∧ -1000 ≤ c ∧ c < 1000 := by
  obtain ⟨c0, cs, x, y, z, e0, B0⟩ := law_bag ns hn
  obtain ⟨v1, x1, y1, z1, e1, p1, q1⟩ := take_ok B0 (many := 7) (by decide) (by decide)
  have B1 := B0.set x1 y1 z1
  obtain ⟨v2, x2, y2, z2, e2, p2, q2⟩ := take_ok B1 (many := 13) (by decide) (by decide)
  have B2 := B1.set x2 y2 z2
  obtain ⟨n1, rfl⟩ := nat_of p1
  obtain ⟨n2, rfl⟩ := nat_of p2
  obtain ⟨h3, -, e3, D3, eh3⟩ := board_ok (h := [c0, .lst (iz cs), bagO x2 y2 z2]) rfl B2.k (8 + n1 + (8 + n2))
  have B3 : Bag h3 cs := by
    rw [eh3]
    exact B2.junk (j := [.ins 0 (flds (8 + n1 + (8 + n2))), .lst [], .dt []]) rfl
  have S3 : St (8 + n1 + (8 + n2)) [] cs h3 := ⟨D3, fun i g e => by simp at e, B3⟩
  obtain ⟨v4, x4, y4, z4, e4, p4, q4⟩ := take_ok S3.B (many := 12) (by decide) (by decide)
  have S4 := S3.bag x4 y4 z4
  obtain ⟨v5, x5, y5, z5, e5, p5, q5⟩ := take_ok S4.B (many := 12) (by decide) (by decide)
  have S5 := S4.bag x5 y5 z5
  obtain ⟨v6, x6, y6, z6, e6, p6, q6⟩ := take_ok S5.B (many := 2000) (by decide) (by decide)
  have S6 := S5.bag x6 y6 z6
  obtain ⟨n4, rfl⟩ := nat_of p4
  obtain ⟨n5, rfl⟩ := nat_of p5
  refine ⟨8 + n1, 8 + n2, n4, n5, v6 - 1000, cs, _, ?_, S6, ?_, by omega, by omega, by omega, by omega, by omega, by omega, by omega, by omega⟩
  · refine sSeq_nx (sAsg_n (mCall_ok (mCons_ok rfl mNil_ok) e0)) ?_
    refine sSeq_nx (sPar_ok (xs := [.d (.int ((8 + n1 : Nat) : Int)), .d (.int ((8 + n2 : Nat) : Int))]) (mCons_ok (m2_ok rfl (mCall_ok (mCons_ok rfl (mCons_ok rfl mNil_ok)) e1) (by rw [add_i]; push_cast; rfl)) (mCons_ok (m2_ok rfl (mCall_ok (mCons_ok rfl (mCons_ok rfl mNil_ok)) e2) (by rw [add_i]; push_cast; rfl)) mNil_ok)) rfl) ?_
    have mk : mMake C_Board m_Board___init__ [] (mCons (m2 opAdd (mVar 2) (mVar 3)) mNil) [some (.z ns), some (.r 2), some (.d (.int ((8 + n1 : Nat) : Int))), some (.d (.int ((8 + n2 : Nat) : Int))), none, none, none, none, none, none, none, none, none, none, none, none, none, none, none, none, none, none, none, none, none, none, none, none, none, none, none, none, none, none, none] [c0, .lst (iz cs), bagO x2 y2 z2] = .ok (.r 3) h3 := by
      unfold mMake
      rw [mCons_ok (m2_ok rfl rfl (add_i _ _ _)) mNil_ok, bind_mk]
      rw [show ((8 + n1 + (8 + n2) : Nat) : Int) = ((8 + n1 : Nat) : Int) + ((8 + n2 : Nat) : Int) by push_cast; rfl] at e3
      exact e3
    refine sSeq_nx (sAsg_ok (mTup_ok (mCons_ok mk (mCons_ok (mCall_ok (mCons_ok rfl (mCons_ok rfl mNil_ok)) e4) (mCons_ok (mCall_ok (mCons_ok rfl (mCons_ok rfl mNil_ok)) e5) (mCons_ok (m2_ok (mCall_ok (mCons_ok rfl (mCons_ok rfl mNil_ok)) e6) rfl (sub_i _ _ _)) mNil_ok)))) (by simp)) rfl) ?_
    exact sSeq_nx (sPar_ok (mCons_ok (mRg1_ok (mCons_ok rfl mNil_ok) (by omega)) (mCons_ok (mRg2_ok (mCons_ok rfl (mCons_ok (m2_ok rfl rfl (add_i _ _ _)) mNil_ok)) (by omega) (by omega)) mNil_ok)) rfl) rfl
  · rw [List.length_set, List.length_set, List.length_set, eh3]
    simp
end K73

set_option Elab.async false
set_option linter.all false
set_option maxRecDepth 100000
set_option maxHeartbeats 1000000
namespace K73
open Ev
theorem prodB_len {a b : List Bool} (h : a ≠ []) : (prodB a b).length = a.length + b.length := prodS_len h (Nat.le_refl _)
theorem halfB_pos {a : List Bool} (h : a ≠ []) (k : Nat) : 0 < (halfB a k).length ∧ (halfB a k).length ≤ a.length := by
  have := List.length_pos_iff.mpr h
  unfold halfB
  split
  · simp; omega
  · simp; omega
theorem muxB_len {c : Bool} {a b : List Bool} (l : a.length = b.length) : (muxB c a b).length = a.length := by
  rw [mux_t l]
  split
  · rfl
  · exact l.symm
theorem ne_of {α : Type} {l : List α} (h : 0 < l.length) : l ≠ [] := List.length_pos_iff.mp h
/-- the rails from outside -/
theorem rail1 (W1 W2 : Nat) : Ri (W1 + W2) [] (List.range W1) fun xs => xs.take W1 := by
  refine ⟨fun n m => by have := List.mem_range.mp m; simp; omega, fun xs hx => ?_⟩
  apply List.ext_getElem
  · simp [bv]; omega
  · intro i h1 h2
    simp [bv] at h1
    simp [bv, V, runG, at', List.getD_eq_getElem?_getD, show i < xs.length by omega]
theorem rail2 (W1 W2 : Nat) : Ri (W1 + W2) [] (List.range' W1 W2) fun xs => xs.drop W1 := by
  refine ⟨fun n m => by have := List.mem_range'_1.mp m; simp; omega, fun xs hx => ?_⟩
  apply List.ext_getElem
  · simp [bv]; omega
  · intro i h1 h2
    simp [bv] at h1
    simp [bv, V, runG, at', List.getD_eq_getElem?_getD, show W1 + i < xs.length by omega]
/-- what each rail, each wire tells -/
def fA (W1 W2 : Nat) (xs : List Bool) : List Bool := sumB (xs.take W1) (xs.drop W1) false (1 + max W1 W2)
def fL (W1 W2 : Nat) (xs : List Bool) : List Bool := subB (xs.take W1) (xs.drop W1) (1 + max W1 W2)
def fP (W1 W2 : Nat) (xs : List Bool) : List Bool := prodB (xs.take W1) (xs.drop W1)
def fH (W1 a : Nat) (xs : List Bool) : List Bool := halfB (xs.take W1) a
def fD (W1 b : Nat) (xs : List Bool) : List Bool := List.replicate b false ++ xs.drop W1
def fS1 (W1 W2 : Nat) (xs : List Bool) : List Bool := stretchB (xs.take W1) (max W1 W2 + 2)
def fS2 (W1 W2 : Nat) (xs : List Bool) : List Bool := stretchB (xs.drop W1) (max W1 W2 + 2)
def fC (W1 W2 : Nat) (xs : List Bool) : List Bool := muxB (lastB (fL W1 W2 xs)) (stretchB (fS1 W1 W2 xs) (max W1 W2 + 2)) (stretchB (fS2 W1 W2 xs) (max W1 W2 + 2))
def fN (c : Int) (xs : List Bool) : List Bool := bitsC c 12
def fM (W1 : Nat) (c : Int) (xs : List Bool) : List Bool := prodB (xs.take W1) (fN c xs)
def fG (W1 W2 : Nat) (xs : List Bool) : List Bool := halfB (fA W1 W2 xs) 1
def fT (W1 W2 : Nat) (c : Int) (m : Nat) (xs : List Bool) : List Bool := sumB (fM W1 c xs) (fG W1 W2 xs) false m
def fU (W1 W2 : Nat) (c : Int) (m : Nat) (xs : List Bool) : List Bool := subB (fN c xs) (fL W1 W2 xs) m
section
variable {W1 W2 : Nat} {xs : List Bool} (hx : xs.length = W1 + W2)
include hx
theorem t1_len : (xs.take W1).length = W1 := by rw [List.length_take]; omega
theorem t2_len : (xs.drop W1).length = W2 := by rw [List.length_drop]; omega
theorem fA_len : (fA W1 W2 xs).length = 1 + max W1 W2 := sumB_len (by rw [t1_len hx]; omega) (by rw [t2_len hx]; omega)
theorem fL_len : (fL W1 W2 xs).length = 1 + max W1 W2 := subB_len (by rw [t1_len hx]; omega) (by rw [t2_len hx]; omega)
theorem fP_len (h : 0 < W1) : (fP W1 W2 xs).length = W1 + W2 := by
  unfold fP
  rw [prodB_len (ne_of (by rw [t1_len hx]; exact h)), t1_len hx, t2_len hx]
theorem fS1_len : (fS1 W1 W2 xs).length = max W1 W2 + 2 := stretch_len (by rw [t1_len hx]; omega)
theorem fS2_len : (fS2 W1 W2 xs).length = max W1 W2 + 2 := stretch_len (by rw [t2_len hx]; omega)
theorem fM_len (c : Int) (h : 0 < W1) : (fM W1 c xs).length = W1 + 12 := by
  unfold fM fN
  rw [prodB_len (ne_of (by rw [t1_len hx]; exact h)), t1_len hx, bitsC_len]
theorem fG_len : 0 < (fG W1 W2 xs).length ∧ (fG W1 W2 xs).length ≤ 1 + max W1 W2 := by
  have := halfB_pos (a := fA W1 W2 xs) (ne_of (by rw [fA_len hx]; omega)) 1
  rw [fA_len hx] at this
  exact this
end
end K73

set_option Elab.async false
set_option linter.all false
set_option maxRecDepth 100000
set_option maxHeartbeats 4000000
namespace K73
open Ev
/-- the slots of the law, up to other -/
abbrev E0 (ns : List Int) (W1 W2 a b : Nat) (c : Int) : Env' := [some (.z ns), some (.r 2), some (.d (.int (W1 : Int))), some (.d (.int (W2 : Int))), some (.r 3), some (.d (.int (a : Int))), some (.d (.int (b : Int))), some (.d (.int c)), some (.d (rl (List.range W1))), some (.d (rl (List.range' W1 W2))), none, none, none, none, none, none, none, none, none, none, none, none, none, none, none, none, none, none, none, none, none, none, none, none, none]
abbrev E1 (ns : List Int) (W1 W2 a b : Nat) (c : Int) (r1 r2 r3 : List Nat) (n4 : Nat) (r5 : List Nat) : Env' := [some (.z ns), some (.r 2), some (.d (.int (W1 : Int))), some (.d (.int (W2 : Int))), some (.r 3), some (.d (.int (a : Int))), some (.d (.int (b : Int))), some (.d (.int c)), some (.d (rl (List.range W1))), some (.d (rl (List.range' W1 W2))), some (.d (rl r1)), some (.d (rl r2)), some (.d (rl r3)), some (.d (.int (n4 : Int))), some (.d (rl r5)), some (.d (.int ((max W1 W2 : Nat) : Int))), some (.d (rl (stretchN (List.range W1) (max W1 W2 + 2)))), some (.d (rl (stretchN (List.range' W1 W2) (max W1 W2 + 2)))), none, none, none, none, none, none, none, none, none, none, none, none, none, none, none, none, none]
variable {W1 W2 a b : Nat} {c : Int} {cs ns : List Int} {h : EH}
theorem partB1 (S : St (W1 + W2) [] cs h) (w1 : 8 ≤ W1) (w2 : W1 < 15) (w3 : 8 ≤ W2) (w4 : W2 < 21) (rest : MS) : ∃ (r1 r2 r3 : List Nat) (n4 : Nat) (r5 : List Nat) (gs : List G) (h' : EH),
    sSeq ls4 (sSeq ls5 (sSeq ls6 (sSeq ls7 rest))) (E0 ns W1 W2 a b c) h = rest (E1 ns W1 W2 a b c r1 r2 r3 n4 r5) h' ∧ St (W1 + W2) gs cs h' ∧ Kp h h' ∧ gs.length ≤ 8000 ∧
    Ri (W1 + W2) gs r1 (fA W1 W2) ∧ Ri (W1 + W2) gs r2 (fL W1 W2) ∧ Ri (W1 + W2) gs r3 (fP W1 W2) ∧ Wi (W1 + W2) gs n4 (fun xs => lastB (fL W1 W2 xs)) ∧ Ri (W1 + W2) gs r5 (fN c) := by
  have R1 := rail1 W1 W2
  have R2 := rail2 W1 W2
  have ne1 : List.range W1 ≠ [] := ne_of (by simp; omega)
  have ne2 : List.range' W1 W2 ≠ [] := ne_of (by simp; omega)
  have l1 : (List.range W1).length = W1 := by simp
  have l2 : (List.range' W1 W2).length = W2 := by simp
  have cc : W2 * (9 * (W1 + W2)) ≤ 20 * (9 * 34) := Nat.mul_le_mul (by omega) (by omega)
  generalize hc : W2 * (9 * (W1 + W2)) = pc at cc
  obtain ⟨g1, r1, h1, e1, S1, p1, c1, q1, k1, -⟩ := Rt.st S (added_ok S.D S.wf R1 R2 ne1 ne2 (many := 1 + max W1 W2) (by rw [l1, l2]) (by omega) (by simp; omega))
  obtain ⟨g2, r2, h2, e2, S2, p2, c2, q2, k2, -⟩ := Rt.st S1 (less_ok S1.D S1.wf (R1.ext p1) (R2.ext p1) ne1 ne2 (many := 1 + max W1 W2) (by rw [l1, l2]) (by omega) (by simp at c1; omega))
  have p12 := p1.trans p2
  obtain ⟨g3, r3, h3, e3, S3, p3, c3, q3, k3, -⟩ := Rt.st S2 (product_ok S2.D S2.wf (R1.ext p12) (R2.ext p12) ne1 ne2 (many := W1 + W2) (cc := W1 + W2 + pc) (by rw [l1, l2]) (by omega) (by rw [l2, hc]) (by simp at c1; omega))
  have p13 := p12.trans p3
  obtain ⟨g4, n4, h4, e4, S4, p4, c4, q4, k4, -⟩ := Rs.st S3 (is_below_ok S3.D S3.wf (R1.ext p13) (R2.ext p13) ne1 ne2 (many := 1 + max W1 W2) (by rw [l1, l2]) (by omega) (by simp at c1; omega))
  have p14 := p13.trans p4
  obtain ⟨g5, r5, h5, e5, S5, p5, c5, q5, k5, -⟩ := Rt.st S4 (number_ok S4.D S4.wf c (many := 12) (by omega) (by simp at c1; omega))
  have p15 := p14.trans p5
  have e6 := stretched_ok S5.D ne1 (many := max W1 W2 + 2) (by omega) (by rw [l1]; omega)
  have e7 := stretched_ok S5.D ne2 (many := max W1 W2 + 2) (by omega) (by rw [l2]; omega)
  refine ⟨r1, r2, r3, n4, r5, g5, h5, ?_, S5, (((k1.trans k2).trans k3).trans k4).trans k5, by simp at c1; omega, q1.ext (((p2.trans p3).trans p4).trans p5), q2.ext ((p3.trans p4).trans p5), q3.ext (p4.trans p5), q4.ext p5, q5⟩
  have mw : ∀ env : Env', env[15]? = some (some (.d (.int ((max W1 W2 : Nat) : Int)))) → ∀ h, m2 opAdd (mVar 15) (mCst (.d (.int 2))) env h = .ok (.d (.int ((max W1 W2 + 2 : Nat) : Int))) h := fun env e h => m2_ok (x := .d (.int ((max W1 W2 : Nat) : Int))) (by unfold mVar; rw [e]) rfl (by rw [add_i]; push_cast; rfl)
  refine sSeq_nx (sPar_ok (mCons_ok (meth_v S.D rfl rfl (mCons_ok rfl (mCons_ok rfl mNil_ok)) e1) (mCons_ok (meth_v S1.D rfl rfl (mCons_ok rfl (mCons_ok rfl mNil_ok)) e2) (mCons_ok (meth_v S2.D rfl rfl (mCons_ok rfl (mCons_ok rfl mNil_ok)) e3) mNil_ok))) rfl) ?_
  refine sSeq_nx (sPar_ok (mCons_ok (meth_v S3.D rfl rfl (mCons_ok rfl (mCons_ok rfl mNil_ok)) e4) (mCons_ok (meth_v S4.D rfl rfl (mCons_ok rfl (mCons_ok rfl mNil_ok)) e5) mNil_ok)) rfl) ?_
  refine sSeq_nx (sAsg_n (mOp_ok (mCons_ok rfl (mCons_ok rfl mNil_ok)) (max_i W1 W2 _))) ?_
  exact sSeq_nx (sPar_ok (mCons_ok (meth_v S5.D rfl rfl (mCons_ok rfl (mCons_ok (mw _ rfl _) mNil_ok)) e6) (mCons_ok (meth_v S5.D rfl rfl (mCons_ok rfl (mCons_ok (mw _ rfl _) mNil_ok)) e7) mNil_ok)) rfl) rfl
end K73

set_option Elab.async false
set_option linter.all false
set_option maxRecDepth 100000
set_option maxHeartbeats 4000000
namespace K73
open Ev
abbrev E2 (ns : List Int) (W1 W2 a b : Nat) (c : Int) (r1 r2 r3 : List Nat) (n4 : Nat) (r5 : List Nat) (L : Nat) : Env' := [some (.z ns), some (.r 2), some (.d (.int (W1 : Int))), some (.d (.int (W2 : Int))), some (.r 3), some (.d (.int (a : Int))), some (.d (.int (b : Int))), some (.d (.int c)), some (.d (rl (List.range W1))), some (.d (rl (List.range' W1 W2))), some (.d (rl r1)), some (.d (rl r2)), some (.d (rl r3)), some (.d (.int (n4 : Int))), some (.d (rl r5)), some (.d (.int ((max W1 W2 : Nat) : Int))), some (.d (rl (stretchN (List.range W1) (max W1 W2 + 2)))), some (.d (rl (stretchN (List.range' W1 W2) (max W1 W2 + 2)))), some (.r L), none, none, none, none, none, none, none, none, none, none, none, none, none, none, none, none]
variable {W1 W2 a b : Nat} {c : Int} {cs ns : List Int} {h : EH} {gs : List G}
theorem Ri.len1 {w : Nat} {r : List Nat} {f : List Bool → List Bool} (q : Ri w gs r f) : r.length = (f (List.replicate w false)).length := (q.len (by simp)).symm
theorem x0_len (W1 W2 : Nat) : (List.replicate (W1 + W2) false).length = W1 + W2 := by simp
theorem partB2 (S : St (W1 + W2) gs cs h) (w1 : 8 ≤ W1) (w2 : W1 < 15) (w3 : 8 ≤ W2) (w4 : W2 < 21) (ha : a < 12) (hb : b < 12) (hl : gs.length ≤ 8000) (h6 : 6 ≤ h.length) {r1 r2 r3 r5 : List Nat} {n4 : Nat}
    (q1 : Ri (W1 + W2) gs r1 (fA W1 W2)) (q2 : Ri (W1 + W2) gs r2 (fL W1 W2)) (q3 : Ri (W1 + W2) gs r3 (fP W1 W2)) (q4 : Wi (W1 + W2) gs n4 (fun xs => lastB (fL W1 W2 xs))) (q5 : Ri (W1 + W2) gs r5 (fN c))
    (R1 : Ri (W1 + W2) gs (List.range W1) fun xs => xs.take W1) (R2 : Ri (W1 + W2) gs (List.range' W1 W2) fun xs => xs.drop W1) (rest : MS) : ∃ (r6 r7 r8 r13 r15 : List Nat) (gs' : List G) (h' : EH) (L m m' : Nat),
    sSeq ls8 (sSeq ls9 (sSeq ls10 (sSeq ls11 rest))) (E1 ns W1 W2 a b c r1 r2 r3 n4 r5) h = rest (E2 ns W1 W2 a b c r1 r2 r3 n4 r5 L) h' ∧ St (W1 + W2) gs' cs h' ∧ gs <+: gs' ∧ gs'.length ≤ 13000 ∧ 6 ≤ L ∧ h'[L]? = some (.lst (rv [r1, r2, r3, r6, r7, r8, r5, r13, r15, stretchN (List.range W1) (max W1 W2 + 2)])) ∧
    Ri (W1 + W2) gs' r6 (fH W1 a) ∧ Ri (W1 + W2) gs' r7 (fD W1 b) ∧ Ri (W1 + W2) gs' r8 (fC W1 W2) ∧ Ri (W1 + W2) gs' r13 (fT W1 W2 c m) ∧ Ri (W1 + W2) gs' r15 (fU W1 W2 c m') ∧
    (∀ xs, xs.length = W1 + W2 → (fM W1 c xs).length < m ∧ (fG W1 W2 xs).length < m) ∧ m ≤ 100 ∧ m' = 1 + max 12 (1 + max W1 W2) := by
  have x0 := x0_len W1 W2
  have ne1 : List.range W1 ≠ [] := ne_of (by simp; omega)
  have ne2 : List.range' W1 W2 ≠ [] := ne_of (by simp; omega)
  have l1 : (List.range W1).length = W1 := by simp
  have l2 : (List.range' W1 W2).length = W2 := by simp
  have L1 : r1.length = 1 + max W1 W2 := q1.len1.trans (fA_len x0)
  have L2 : r2.length = 1 + max W1 W2 := q2.len1.trans (fL_len x0)
  have L5 : r5.length = 12 := q5.len1.trans (bitsC_len _ _)
  have nr1 : r1 ≠ [] := ne_of (by omega)
  have nr2 : r2 ≠ [] := ne_of (by omega)
  have nr5 : r5 ≠ [] := ne_of (by omega)
  have T1 := R1.stretch ne1 (max W1 W2 + 2)
  have T2 := R2.stretch ne2 (max W1 W2 + 2)
  have lT1 : (stretchN (List.range W1) (max W1 W2 + 2)).length = max W1 W2 + 2 := by rw [stretchN_len, l1]; omega
  have lT2 : (stretchN (List.range' W1 W2) (max W1 W2 + 2)).length = max W1 W2 + 2 := by rw [stretchN_len, l2]; omega
  -- halved, doubled
  obtain ⟨g6, r6, h6', e6, S6, p6, c6, q6, k6, j6⟩ := Rt.st S (halved_ok S.D S.wf R1 ne1 a (by omega))
  obtain ⟨g7, r7, h7, e7, S7, p7, c7, q7, k7, j7⟩ := Rt.st S6 (doubled_ok S6.D S6.wf (R2.ext p6) (many := b) (by omega) (by omega) (by omega))
  have p67 := p6.trans p7
  have k67 := k6.trans k7
  have S7a := S7.app (j := [.lst (rv [r1, r2, r3, r6, r7])]) (rv_all _ _)
  have hL1 : 6 ≤ h7.length := Nat.le_trans h6 k67.1
  -- chosen
  obtain ⟨g8, r8, h8, e8, S8, p8, c8, q8, k8, j8⟩ := Rt.st S7a (chosen_ok S7a.D S7a.wf (T1.ext p67) (T2.ext p67) (q4.ext p67) (many := max W1 W2 + 2) (ne_of (by omega)) (ne_of (by omega)) (by rw [lT1, lT2]; omega) (by omega) (by omega))
  have p68 := p67.trans p8
  have S8a := S8.app (j := [.lst (rv [r8, r5])]) (rv_all _ _)
  have a1 : (h8 ++ [Ob.lst (rv [r8, r5])])[h7.length]? = some (.lst (rv [r1, r2, r3, r6, r7])) := (k8.trans (Kp.app _ _)).at hL1 (get_last _ _)
  have a2 := add_ll a1 (get_last h8 (.lst (rv [r8, r5]))) (by simp)
  have a3 : rv [r1, r2, r3, r6, r7] ++ rv [r8, r5] = rv [r1, r2, r3, r6, r7, r8, r5] := by simp [rv]
  rw [a3] at a2
  have S9 := S8a.app (j := [.lst (rv [r1, r2, r3, r6, r7, r8, r5])]) (rv_all _ _)
  generalize eh9 : h8 ++ [Ob.lst (rv [r8, r5])] = h9 at a2 S9 S8a a1
  have hL2 : 6 ≤ h9.length := by
    rw [← eh9]
    have := k8.1
    simp at this ⊢
    omega
  have g9 := get_last h9 (.lst (rv [r1, r2, r3, r6, r7, r8, r5]))
  -- the sum of a product and a half
  have cc : 12 * (9 * (W1 + 12)) ≤ 12 * (9 * 26) := Nat.mul_le_mul (by omega) (by omega)
  generalize hpc : 12 * (9 * (W1 + 12)) = pc at cc
  obtain ⟨g11, r11, h11, e11, S11, p11, c11, q11, k11, j11⟩ := Rt.st S9 (product_ok S9.D S9.wf (R1.ext p68) (q5.ext p68) ne1 nr5 (many := W1 + 12) (cc := W1 + 12 + pc) (by omega) (by omega) (by rw [L5, hpc]) (by omega))
  obtain ⟨g12, r12, h12, e12, S12, p12, c12, q12, k12, j12⟩ := Rt.st S11 (halved_ok S11.D S11.wf ((q1.ext p68).ext p11) nr1 1 (by omega))
  have L11 : r11.length = W1 + 12 := q11.len1.trans (fM_len x0 c (by omega))
  have L12 := q12.len1
  have L12' := fG_len (W1 := W1) (W2 := W2) x0
  have L12a : 0 < r12.length ∧ r12.length ≤ 1 + max W1 W2 := by rw [L12]; exact L12'
  obtain ⟨g13, r13, h13, e13, S13, p13, c13, q13, k13, j13⟩ := Rt.st S12 (added_ok S12.D S12.wf (q11.ext p12) q12 (ne_of (by omega)) (ne_of L12a.1) (many := 1 + max r11.length r12.length) rfl (by omega) (by omega))
  have g13' : h13[h9.length]? = some (.lst (rv [r1, r2, r3, r6, r7, r8, r5])) := ((k11.trans k12).trans k13).at hL2 g9
  have S14 := S13.set (L := h9.length) (o := .lst (rv [r1, r2, r3, r6, r7, r8, r5, r13])) hL2 (rv_lts _ _)
  have g14 : (h13.set h9.length (.lst (rv [r1, r2, r3, r6, r7, r8, r5, r13])))[h9.length]? = some (.lst (rv [r1, r2, r3, r6, r7, r8, r5, r13])) := List.getElem?_set_self (List.getElem?_eq_some_iff.mp g13').1
  have p6d := ((p68.trans p11).trans p12).trans p13
  generalize eh14 : h13.set h9.length (.lst (rv [r1, r2, r3, r6, r7, r8, r5, r13])) = h14 at S14 g14
  have L14 : h9.length < h14.length := (List.getElem?_eq_some_iff.mp g14).1
  -- a difference
  obtain ⟨g15, r15, h15, e15, S15, p15, c15, q15, k15, j15⟩ := Rt.st S14 (less_ok S14.D S14.wf (q5.ext p6d) (q2.ext p6d) nr5 nr2 (many := 1 + max 12 (1 + max W1 W2)) (by rw [L5, L2]) (by omega) (by omega))
  have S15a := S15.app (j := [.lst (rv [r15, stretchN (List.range W1) (max W1 W2 + 2)])]) (rv_all _ _)
  have b1 : (h15 ++ [Ob.lst (rv [r15, stretchN (List.range W1) (max W1 W2 + 2)])])[h9.length]? = some (.lst (rv [r1, r2, r3, r6, r7, r8, r5, r13])) := (k15.trans (Kp.app _ _)).at hL2 g14
  have b2 := add_ll b1 (get_last h15 (.lst (rv [r15, stretchN (List.range W1) (max W1 W2 + 2)]))) (by simp)
  have b3 : rv [r1, r2, r3, r6, r7, r8, r5, r13] ++ rv [r15, stretchN (List.range W1) (max W1 W2 + 2)] = rv [r1, r2, r3, r6, r7, r8, r5, r13, r15, stretchN (List.range W1) (max W1 W2 + 2)] := by simp [rv]
  rw [b3] at b2
  have S16 := S15a.app (j := [.lst (rv [r1, r2, r3, r6, r7, r8, r5, r13, r15, stretchN (List.range W1) (max W1 W2 + 2)])]) (rv_all _ _)
  refine ⟨r6, r7, r8, r13, r15, g15, _, _, 1 + max r11.length r12.length, 1 + max 12 (1 + max W1 W2), ?_, S16, p6d.trans p15, by omega, ?_, get_last _ _, q6.ext ((((p7.trans p8).trans p11).trans (p12.trans p13)).trans p15), q7.ext (((p8.trans p11).trans (p12.trans p13)).trans p15), q8.ext ((p11.trans (p12.trans p13)).trans p15), q13.ext p15, q15, fun xs hx => ⟨?_, ?_⟩, by omega, rfl⟩
  · refine sSeq_nx (sAsg_n (mLst_ok (mCons_ok rfl (mCons_ok rfl (mCons_ok rfl (mCons_ok (meth_v S.D rfl rfl (mCons_ok rfl (mCons_ok rfl mNil_ok)) e6) (mCons_ok (meth_v S6.D rfl rfl (mCons_ok rfl (mCons_ok rfl mNil_ok)) e7) mNil_ok))))) (by simp))) ?_
    refine sSeq_nx (sAsg_n (m2_ok (x := .r h7.length) (y := .r h8.length) (h1 := h7 ++ [.lst (rv [r1, r2, r3, r6, r7])]) (h2 := h9) rfl (by
      rw [← eh9]
      exact mLst_ok (mCons_ok (meth_v S7a.D rfl rfl (mCons_ok rfl (mCons_ok rfl (mCons_ok rfl mNil_ok))) e8) (mCons_ok rfl mNil_ok)) (by simp)) a2)) ?_
    refine sSeq_nx (sExpr_ok (mBM_at (h1 := h9 ++ [.lst (rv [r1, r2, r3, r6, r7, r8, r5])]) (n := h9.length) rfl (tyNo_l g9) (mCons_ok (meth_v S9.D rfl rfl (mCons_ok (meth_v S9.D rfl rfl (mCons_ok rfl (mCons_ok rfl mNil_ok)) e11) (mCons_ok (meth_v S11.D rfl rfl (mCons_ok rfl (mCons_ok rfl mNil_ok)) e12) mNil_ok)) e13) mNil_ok) g13' (by simp))) ?_
    have e14 : h13.set h9.length (.lst (rv [r1, r2, r3, r6, r7, r8, r5] ++ [.d (rl r13)])) = h14 := by
      rw [← eh14]
      rfl
    rw [e14]
    exact sSeq_nx (sAsg_n (m2_ok (x := .r h9.length) (y := .r h15.length) (h1 := h14) rfl (mLst_ok (mCons_ok (meth_v S14.D rfl rfl (mCons_ok rfl (mCons_ok rfl mNil_ok)) e15) (mCons_ok rfl mNil_ok)) (by simp)) b2)) rfl
  · have := k15.1
    simp
    omega
  · have z := q11.len hx
    have : (fM W1 c xs).length = r11.length := z
    omega
  · have z := q12.len hx
    have : (fG W1 W2 xs).length = r12.length := z
    omega
end K73

set_option Elab.async false
set_option linter.all false
set_option maxRecDepth 100000
set_option maxHeartbeats 4000000
namespace K73
open Ev
abbrev E3 (ns : List Int) (W1 W2 a b : Nat) (c : Int) (r1 r2 r3 : List Nat) (n4 : Nat) (r5 : List Nat) (L M : Nat) (es : List Nat) (x21 x22 : Option Val) : Env' := [some (.z ns), some (.r 2), some (.d (.int (W1 : Int))), some (.d (.int (W2 : Int))), some (.r 3), some (.d (.int (a : Int))), some (.d (.int (b : Int))), some (.d (.int c)), some (.d (rl (List.range W1))), some (.d (rl (List.range' W1 W2))), some (.d (rl r1)), some (.d (rl r2)), some (.d (rl r3)), some (.d (.int (n4 : Int))), some (.d (rl r5)), some (.d (.int ((max W1 W2 : Nat) : Int))), some (.d (rl (stretchN (List.range W1) (max W1 W2 + 2)))), some (.d (rl (stretchN (List.range' W1 W2) (max W1 W2 + 2)))), some (.r L), some (.r M), some (.d (rl es)), x21, x22, none, none, none, none, none, none, none, none, none, none, none, none]
variable {W1 W2 a b : Nat} {c : Int} {cs ns : List Int} {h : EH} {gs : List G}
theorem ri_all' (n : Nat) (rs : List Nat) : allLt n [.lst (ri rs)] = true := ri_all n rs
theorem iVal_r {a : M Val} {env : Env'} {h h1 : EH} {n : Nat} {xs : List Val} (ea : a env h = .ok (.r n) h1) (en : h1[n]? = some (.lst xs)) : iVal a env h = .ok (.live (.r n)) h1 := iVal_l ea en
theorem partB3 (S : St (W1 + W2) gs cs h) (w1 : 8 ≤ W1) (w2 : W1 < 15) (w3 : 8 ≤ W2) (w4 : W2 < 21) (hl : gs.length ≤ 13000) (h6 : 6 ≤ h.length) {r1 r2 r3 r5 : List Nat} {n4 : Nat}
    (q1 : Ri (W1 + W2) gs r1 (fA W1 W2)) (q3 : Ri (W1 + W2) gs r3 (fP W1 W2)) (q4 : Wi (W1 + W2) gs n4 (fun xs => lastB (fL W1 W2 xs))) {L : Nat} {rs : List (List Nat)} (hL : 6 ≤ L) (eL : h[L]? = some (.lst (rv rs))) (hrs : rs.length ≤ 100) (hr : ∀ r, r ∈ rs → r.length ≤ 1000) (rest : MS) :
    ∃ (n17 n18 n20 n21 : Nat) (gs' : List G) (h' : EH) (M : Nat) (x21 : Option Val),
    sSeq ls12 (sSeq ls13 (sSeq ls14 (sSeq ls15 (sSeq ls16 rest)))) (E2 ns W1 W2 a b c r1 r2 r3 n4 r5 L) h = rest (E3 ns W1 W2 a b c r1 r2 r3 n4 r5 L M rs.flatten x21 (some (.d (netD (W1 + W2) gs' (rs.flatten ++ [n4, n17, n18, n20, n21]))))) h' ∧ St (W1 + W2) gs' cs h' ∧ gs <+: gs' ∧ gs'.length ≤ 20000 ∧ h'[L]? = some (.lst (rv rs)) ∧
    Wi (W1 + W2) gs' n17 (fun xs => wideB (fA W1 W2 xs) 10) ∧ Wi (W1 + W2) gs' n18 (fun xs => wideB (fP W1 W2 xs) (max W1 W2)) ∧ Wi (W1 + W2) gs' n20 (fun xs => !lastB (fL W1 W2 xs)) ∧ Wi (W1 + W2) gs' n21 (fun _ => true) := by
  have x0 := x0_len W1 W2
  have L1 : r1.length = 1 + max W1 W2 := q1.len1.trans (fA_len x0)
  have L3 : r3.length = W1 + W2 := q3.len1.trans (fP_len x0 (by omega))
  obtain ⟨g17, n17, h17, e17, S17, p17, c17, q17, k17, -⟩ := Rs.st S (is_wide_ok S.D S.wf q1 (wi := 10) (by decide) (by omega) (by omega))
  obtain ⟨g18, n18, h18, e18, S18, p18, c18, q18, k18, -⟩ := Rs.st S17 (is_wide_ok S17.D S17.wf (q3.ext p17) (wi := max W1 W2) (by omega) (by omega) (by omega))
  have p2 := p17.trans p18
  have S19 := S18.app (j := [.lst (ri [n4, n17, n18])]) (ri_all' _ _)
  have hM : 6 ≤ h18.length := Nat.le_trans h6 (k17.trans k18).1
  obtain ⟨g20, n20, h20, e20, S20, p20, c20, q20, k20, -⟩ := Rs.st S19 (gate_not_ok S19.D S19.wf (q4.ext p2) (by omega))
  obtain ⟨g21, n21, h21, e21, S21, p21, c21, q21, k21, -⟩ := Rs.st S20 (constant_ok S20.D S20.wf true (by omega))
  have p4 := (p2.trans p20).trans p21
  have k22 := k20.trans k21
  have S21a := S21.app (j := [.lst (ri [n20, n21])]) (ri_all' _ _)
  have a1 : (h21 ++ [Ob.lst (ri [n20, n21])])[h18.length]? = some (.lst (ri [n4, n17, n18])) := (k22.trans (Kp.app _ _)).at hM (get_last _ _)
  have a2 := add_ll a1 (get_last h21 (.lst (ri [n20, n21]))) (by simp)
  have a3 : ri [n4, n17, n18] ++ ri [n20, n21] = ri [n4, n17, n18, n20, n21] := by simp [ri]
  rw [a3] at a2
  have S23 := S21a.app (j := [.lst (ri [n4, n17, n18, n20, n21])]) (ri_all' _ _)
  generalize eh22 : h21 ++ [Ob.lst (ri [n20, n21])] = h22 at a2 S23 S21a a1
  have g23 := get_last h22 (.lst (ri [n4, n17, n18, n20, n21]))
  have kk : Kp h (h22 ++ [.lst (ri [n4, n17, n18, n20, n21])]) := by
    rw [← eh22]
    exact ((((k17.trans k18).trans (Kp.app _ _)).trans k22).trans (Kp.app _ _)).trans (Kp.app _ _)
  have eL' := kk.at hL eL
  generalize eh23 : h22 ++ [Ob.lst (ri [n4, n17, n18, n20, n21])] = h23 at a2 S23 g23 eL'
  have lf : ∀ i, ((rs.take i).flatten).length ≤ 1000 * rs.length := fun i => by
    have z : ∀ l : List (List Nat), (∀ r, r ∈ l → r.length ≤ 1000) → l.flatten.length ≤ 1000 * l.length := fun l => by
      induction l with
      | nil => intro _; simp
      | cons r l ih =>
        intro q
        have := q r (List.mem_cons_self ..)
        have := ih fun r m => q r (List.mem_cons_of_mem _ m)
        simp only [List.flatten_cons, List.length_append, List.length_cons]
        omega
    have := z (rs.take i) fun r m => hr r (List.mem_of_mem_take m)
    have : (rs.take i).length ≤ rs.length := by simp; omega
    omega
  obtain ⟨env', h', el, x21, ee, eh⟩ := sFor_live (w := wd) (src := iVal (mVar 18)) (t := tgName 21) (b := sSeq (sAsg (m2 opAdd (mVar 20) (mOp bTuple (mCons (mVar 21) mNil))) (tgName 20)) sNext) (env := E3 ns W1 W2 a b c r1 r2 r3 n4 r5 L h22.length [] none none) (h := h23) (xs := rv rs)
    (I := fun i env h' => ∃ x21, env = E3 ns W1 W2 a b c r1 r2 r3 n4 r5 L h22.length (rs.take i).flatten x21 none ∧ h' = h23)
    (iVal_r rfl eL') (by rw [rv_len]; show rs.length < 1000000; omega)
    (fun i env h' ⟨x, e1, e2⟩ => by rw [e2]; exact eL')
    (fun i env h' hi ⟨x, e1, e2⟩ => by
      subst e1 e2
      have hi2 : i < rs.length := by simpa using hi
      have gi : (rv rs)[i] = .d (rl rs[i]) := by simp [rv]
      rw [gi]
      refine ⟨_, _, sSeq_nx (sAsg_n (m2_ok rfl (mOp_ok (mCons_ok rfl mNil_ok) (show bTuple [.d (rl rs[i])] _ = .ok (.d (rl rs[i])) _ from rfl)) (add_rr _ _ _ (by have := lf i; have := hr rs[i] (List.getElem_mem hi2); omega)))) rfl, some (.d (rl rs[i])), ?_, rfl⟩
      have tk : (rs.take (i + 1)).flatten = (rs.take i).flatten ++ rs[i] := by
        rw [List.take_add_one, List.getElem?_eq_getElem hi2]
        show (rs.take i ++ [rs[i]]).flatten = _
        rw [List.flatten_append, List.flatten_cons, List.flatten_nil, List.append_nil]
      rw [tk]
      rfl)
    ⟨none, rfl, rfl⟩
  rw [rv_len, List.take_length] at ee
  subst ee eh
  refine ⟨n17, n18, n20, n21, g21, h', h22.length, x21, ?_, S23, p4, by omega, eL', q17.ext ((p18.trans p20).trans p21), q18.ext (p20.trans p21), q20.ext p21, q21⟩
  have nt := net_ok S23.D (rs.flatten ++ [n4, n17, n18, n20, n21]) (by omega)
  refine sSeq_nx (sAsg_n (mLst_ok (xs := ri [n4, n17, n18]) (mCons_ok rfl (mCons_ok (meth_v S.D rfl rfl (mCons_ok rfl (mCons_ok rfl mNil_ok)) e17) (mCons_ok (meth_v S17.D rfl rfl (mCons_ok rfl (mCons_ok rfl mNil_ok)) e18) mNil_ok))) (by simp))) ?_
  refine sSeq_nx (sAsg_n (m2_ok (x := .r h18.length) (y := .r h21.length) (h2 := h22) rfl (by
    rw [← eh22]
    exact mLst_ok (xs := ri [n20, n21]) (mCons_ok (meth_v S19.D rfl rfl (mCons_ok rfl (mCons_ok rfl mNil_ok)) e20) (mCons_ok (meth_v S20.D rfl rfl (mCons_ok rfl mNil_ok) e21) mNil_ok)) (by simp)) a2)) ?_
  refine sSeq_nx (sAsg_n (mTup_ok mNil_ok (by simp))) ?_
  refine sSeq_nx el ?_
  have lf' := lf rs.length
  rw [List.take_length] at lf'
  exact sSeq_nx (sAsg_n (meth_v S23.D rfl rfl (mCons_ok (m2_ok rfl (mOp_ok (mCons_ok rfl mNil_ok) (tup_ri g23 (by simp))) (add_rr _ _ _ (by show rs.flatten.length + 5 ≤ 16777216; omega))) mNil_ok) nt)) rfl
end K73

set_option Elab.async false
set_option linter.all false
set_option maxRecDepth 100000
set_option maxHeartbeats 4000000
namespace K73
open Ev PySem
/-! ### the net's text -/
theorem log_le {n k : Nat} (h : n < 2 ^ k) : n.log2 ≤ k := by
  by_cases z : n = 0
  · rw [z]
    simp
  · exact Nat.le_of_lt ((Nat.log2_lt z).mpr h)
theorem int_sz {n k : Nat} (h : n < 2 ^ k) : txtSz (.int (n : Int)) ≤ k + 2 := by
  have := log_le h
  show (n : Int).natAbs.log2 + 2 ≤ k + 2
  rw [Int.natAbs_natCast]
  omega
theorem int_okT {n k : Nat} (h : n < 2 ^ k) (hk : k ≤ 1000) : txtOk (.int (n : Int)) = true := by
  have := log_le h
  refine Nat.ble_eq_true_of_le ?_
  rw [Int.natAbs_natCast]
  omega
def flatI : List D → Bool
  | [] => true
  | .int _ :: r => flatI r
  | _ => false
theorem lay_i : ∀ (ds : List D), flatI ds = true → PyData.canLayAll0 (D.pys ds) = true
  | [], _ => by simp only [D.pys, PyData.canLayAll0]
  | .int _ :: r, h => by
    show PyData.canLayAll0 (.int _ :: D.pys r) = true
    simp only [PyData.canLayAll0, PyData.canLay0, lay_i r h, Bool.and_self]
  | .non :: _, h => by cases h
  | .bl _ :: _, h => by cases h
  | .str _ :: _, h => by cases h
  | .tup _ _ :: _, h => by cases h
theorem lay_s {d : D} {k : List Nat} {ds : List D} (e : d = .tup true (.str k :: ds)) (hk : PyData.canLay0 (.str ⟨k.toArray⟩) = true := by (simp only [PyData.canLay0]; decide +kernel)) (h : flatI ds = true := by rfl) : d.py.canLay0 = true := by
  subst e
  show (PyData.tuple (.str ⟨k.toArray⟩ :: D.pys ds)).canLay0 = true
  rw [PyData.canLay0, PyData.canLayAll0, hk, lay_i ds h]
  rfl
theorem g_py (g : G) (h : g.lt (2 ^ 16)) : g.d.py.canLay0 = true ∧ PyData.depth g.d.py = 1 ∧ txtOk g.d.py = true ∧ txtSz g.d.py ≤ 100 := by
  cases g with
  | zero => exact ⟨lay_s rfl, by decide, by decide, by decide⟩
  | one => exact ⟨lay_s rfl, by decide, by decide, by decide⟩
  | not a =>
    have i1 := int_okT (show a < 2 ^ 16 from h) (by decide)
    have i2 := int_sz (show a < 2 ^ 16 from h)
    refine ⟨lay_s rfl, rfl, ?_, ?_⟩
    · show (true && (txtOk (.int (a : Int)) && true)) = true
      rw [i1]
      rfl
    · show 32 + 2 + (txtSz (.int (a : Int)) + 2 + 0) + 3 ≤ 100
      omega
  | and a b =>
    have i1 := int_okT (show a < 2 ^ 16 from h.1) (by decide)
    have i2 := int_sz (show a < 2 ^ 16 from h.1)
    have i3 := int_okT (show b < 2 ^ 16 from h.2) (by decide)
    have i4 := int_sz (show b < 2 ^ 16 from h.2)
    refine ⟨lay_s rfl, rfl, ?_, ?_⟩
    · show (true && (txtOk (.int (a : Int)) && (txtOk (.int (b : Int)) && true))) = true
      rw [i1, i3]
      rfl
    · show 32 + 2 + (txtSz (.int (a : Int)) + 2 + (txtSz (.int (b : Int)) + 2 + 0)) + 3 ≤ 100
      omega
  | or a b =>
    have i1 := int_okT (show a < 2 ^ 16 from h.1) (by decide)
    have i2 := int_sz (show a < 2 ^ 16 from h.1)
    have i3 := int_okT (show b < 2 ^ 16 from h.2) (by decide)
    have i4 := int_sz (show b < 2 ^ 16 from h.2)
    refine ⟨lay_s rfl, rfl, ?_, ?_⟩
    · show (true && (txtOk (.int (a : Int)) && (txtOk (.int (b : Int)) && true))) = true
      rw [i1, i3]
      rfl
    · show 22 + 2 + (txtSz (.int (a : Int)) + 2 + (txtSz (.int (b : Int)) + 2 + 0)) + 3 ≤ 100
      omega
  | xor a b =>
    have i1 := int_okT (show a < 2 ^ 16 from h.1) (by decide)
    have i2 := int_sz (show a < 2 ^ 16 from h.1)
    have i3 := int_okT (show b < 2 ^ 16 from h.2) (by decide)
    have i4 := int_sz (show b < 2 ^ 16 from h.2)
    refine ⟨lay_s rfl, rfl, ?_, ?_⟩
    · show (true && (txtOk (.int (a : Int)) && (txtOk (.int (b : Int)) && true))) = true
      rw [i1, i3]
      rfl
    · show 32 + 2 + (txtSz (.int (a : Int)) + 2 + (txtSz (.int (b : Int)) + 2 + 0)) + 3 ≤ 100
      omega
theorem gs_py : ∀ (gs : List G), (∀ g, g ∈ gs → g.lt (2 ^ 16)) → PyData.canLayAll0 (D.pys (gs.map G.d)) = true ∧ PyData.depthAll (D.pys (gs.map G.d)) ≤ 1 ∧ txtOks (D.pys (gs.map G.d)) = true ∧ txtSzs (D.pys (gs.map G.d)) ≤ 102 * gs.length
  | [], _ => ⟨by simp only [List.map_nil, D.pys, PyData.canLayAll0], Nat.zero_le _, rfl, Nat.zero_le _⟩
  | g :: r, p => by
    obtain ⟨a1, a2, a3, a4⟩ := g_py g (p g (List.mem_cons_self ..))
    obtain ⟨b1, b2, b3, b4⟩ := gs_py r fun q m => p q (List.mem_cons_of_mem _ m)
    refine ⟨?_, ?_, ?_, ?_⟩
    · show PyData.canLayAll0 (g.d.py :: D.pys (r.map G.d)) = true
      simp only [PyData.canLayAll0, a1, b1, Bool.and_self]
    · show max (PyData.depth g.d.py) (PyData.depthAll (D.pys (r.map G.d))) ≤ 1
      omega
    · show (txtOk g.d.py && txtOks (D.pys (r.map G.d))) = true
      rw [a3, b3]
      rfl
    · show txtSz g.d.py + 2 + txtSzs (D.pys (r.map G.d)) ≤ 102 * (r.length + 1)
      omega
theorem ns_py : ∀ (es : List Nat), (∀ n, n ∈ es → n < 2 ^ 16) → PyData.canLayAll0 (D.pys (es.map fun (n : Nat) => .int (n : Int))) = true ∧ PyData.depthAll (D.pys (es.map fun (n : Nat) => .int (n : Int))) = 0 ∧ txtOks (D.pys (es.map fun (n : Nat) => .int (n : Int))) = true ∧ txtSzs (D.pys (es.map fun (n : Nat) => .int (n : Int))) ≤ 20 * es.length
  | [], _ => ⟨by simp only [List.map_nil, D.pys, PyData.canLayAll0], rfl, rfl, Nat.zero_le _⟩
  | g :: r, p => by
    have i1 := int_okT (p g (List.mem_cons_self ..)) (by decide)
    have i2 := int_sz (p g (List.mem_cons_self ..))
    obtain ⟨b1, b2, b3, b4⟩ := ns_py r fun q m => p q (List.mem_cons_of_mem _ m)
    refine ⟨by show PyData.canLayAll0 (.int _ :: D.pys _) = true; simp only [PyData.canLayAll0, PyData.canLay0, b1, Bool.and_self], ?_, ?_, ?_⟩
    · show max 0 (PyData.depthAll (D.pys (r.map fun (n : Nat) => .int (n : Int)))) = 0
      omega
    · show (txtOk (.int (g : Int)) && txtOks (D.pys (r.map fun (n : Nat) => .int (n : Int)))) = true
      rw [i1, b3]
      rfl
    · show txtSz (.int (g : Int)) + 2 + txtSzs (D.pys (r.map fun (n : Nat) => .int (n : Int))) ≤ 20 * (r.length + 1)
      omega
theorem net_alike {w : Nat} {gs : List G} {es : List Nat} (wf : WF w gs) (hw : w + gs.length ≤ 30000) (he : ∀ n, n ∈ es → n < w + gs.length) (hl : es.length ≤ 20000) (h : EH) : callFn m__law_alike [.d (netD w gs es), .d (netD w gs es)] h = .ok (.d (.bl true)) h := by
  obtain ⟨a1, a2, a3, a4⟩ := gs_py gs fun g m => by
    obtain ⟨i, hi, e⟩ := List.mem_iff_getElem.mp m
    have := wf i g (by rw [List.getElem?_eq_getElem hi, e])
    exact G.lt_mono this (by omega)
  obtain ⟨b1, b2, b3, b4⟩ := ns_py es fun n m => Nat.lt_of_lt_of_le (he n m) (by omega)
  have i1 := int_okT (show w < 2 ^ 16 by omega) (by decide)
  have i2 := int_sz (show w < 2 ^ 16 by omega)
  have v : vpy 32 [] (.d (netD w gs es)) = some (netD w gs es).py := rfl
  refine callFn_d (h' := []) rfl (alike_ok (p := (netD w gs es).py) v v ?_ ?_ ?_ ?_)
  · show (PyData.tuple [.int (w : Int), .tuple (D.pys (gs.map G.d)), .tuple (D.pys (es.map fun (n : Nat) => .int (n : Int)))]).canLay0 = true
    simp only [PyData.canLay0, PyData.canLayAll0, a1, b1, Bool.and_self]
  · show max 0 (max (PyData.depthAll (D.pys (gs.map G.d)) + 1) (max (PyData.depthAll (D.pys (es.map fun (n : Nat) => .int (n : Int))) + 1) 0)) + 1 ≤ 60
    omega
  · show (txtOk (.int (w : Int)) && (txtOks (D.pys (gs.map G.d)) && (txtOks (D.pys (es.map fun (n : Nat) => .int (n : Int))) && true))) = true
    rw [i1, a3, b3]
    rfl
  · show txtSz (.int (w : Int)) + 2 + (txtSzs (D.pys (gs.map G.d)) + 3 + 2 + (txtSzs (D.pys (es.map fun (n : Nat) => .int (n : Int))) + 3 + 2 + 0)) + 3 ≤ 16777216
    omega
/-! ### the checks -/
abbrev E4 (ns : List Int) (W1 W2 a b : Nat) (c : Int) (r1 r2 r3 : List Nat) (n4 : Nat) (r5 : List Nat) (L M : Nat) (es : List Nat) (x21 : Option Val) (N : D) (x25 x26 x27 x28 x29 x30 x31 x32 x33 x34 : Option Val) : Env' := [some (.z ns), some (.r 2), some (.d (.int (W1 : Int))), some (.d (.int (W2 : Int))), some (.r 3), some (.d (.int (a : Int))), some (.d (.int (b : Int))), some (.d (.int c)), some (.d (rl (List.range W1))), some (.d (rl (List.range' W1 W2))), some (.d (rl r1)), some (.d (rl r2)), some (.d (rl r3)), some (.d (.int (n4 : Int))), some (.d (rl r5)), some (.d (.int ((max W1 W2 : Nat) : Int))), some (.d (rl (stretchN (List.range W1) (max W1 W2 + 2)))), some (.d (rl (stretchN (List.range' W1 W2) (max W1 W2 + 2)))), some (.r L), some (.r M), some (.d (rl es)), x21, some (.d N), some (.d (.int (2 ^ (W1 - 1)))), some (.d (.int (2 ^ (W2 - 1)))), x25, x26, x27, x28, x29, x30, x31, x32, x33, x34]
variable {W1 W2 a b : Nat} {c : Int} {ns : List Int} {h : EH} {gs : List G}
theorem two_at {i W : Nat} (hW : 0 < W) (hb : W ≤ 1000) {env : Env'} (e : env[i]? = some (some (.d (.int (W : Int))))) (h : EH) : mIdx (mCall m__law_two [] (mCons (m2 opSub (mVar i) (mCst (.d (.int 1)))) mNil)) (mCst (.d (.int 0))) env h = .ok (.d (.int (2 ^ (W - 1)))) h :=
  m2_ok (mCall_ok (mCons_ok (m2_ok (x := .d (.int (W : Int))) (by unfold mVar; rw [e]) rfl (by rw [sub_i, show (W : Int) - 1 = ((W - 1 : Nat) : Int) by omega])) mNil_ok) (two_ok (by omega) h)) rfl (idx_two _ h)
theorem partC (wf : WF (W1 + W2) gs) (w1 : 8 ≤ W1) (w2 : W1 < 15) (w3 : 8 ≤ W2) (w4 : W2 < 21) (hl : gs.length ≤ 20000) {r1 r2 r3 r5 : List Nat} {n4 L M : Nat} {es0 es : List Nat} {x21 : Option Val} (he : ∀ n, n ∈ es → n < W1 + W2 + gs.length) (hs : es.length ≤ 20000) (rest : MS) :
    sSeq ls17 (sSeq ls18 rest) (E3 ns W1 W2 a b c r1 r2 r3 n4 r5 L M es0 x21 (some (.d (netD (W1 + W2) gs es)))) h = rest (E4 ns W1 W2 a b c r1 r2 r3 n4 r5 L M es0 x21 (netD (W1 + W2) gs es) none none none none none none none none none none) h := by
  obtain ⟨m, em, lm⟩ := depth_ok wf he (by omega) (by omega) h
  refine sSeq_nx (sIf_f (mOr_f (mNot_t (mTruth_b (mCall_ok (mCons_ok (mCall_ok (mCons_ok rfl mNil_ok) (checked_ok wf he (by omega) h)) (mCons_ok rfl mNil_ok)) (net_alike wf (by omega) he hs h)))) (mB_ok (m2_ok (mCall_ok (mCons_ok rfl mNil_ok) em) (mOp_ok (mCons_ok (m2_ok rfl rfl (netD1 (W1 + W2) gs es h)) mNil_ok) (gl_len gs h)) (gt_i _ _ _ (decide_eq_false (by omega)))))) rfl) ?_
  exact sSeq_nx (sPar_ok (mCons_ok (two_at (by omega) (by omega) rfl h) (mCons_ok (two_at (by omega) (by omega) rfl h) mNil_ok)) rfl) rfl
end K73

set_option Elab.async false
set_option linter.all false
set_option maxRecDepth 100000
set_option maxHeartbeats 4000000
namespace K73
open Ev
/-! ### what the rails tell -/
def fsV (W1 W2 a b : Nat) (c : Int) (m m' : Nat) (xs : List Bool) : List (List Bool) := [fA W1 W2 xs, fL W1 W2 xs, fP W1 W2 xs, fH W1 a xs, fD W1 b xs, fC W1 W2 xs, fN c xs, fT W1 W2 c m xs, fU W1 W2 c m' xs, fS1 W1 W2 xs]
def wvV (W1 W2 : Nat) (xs : List Bool) : List Bool := [lastB (fL W1 W2 xs), wideB (fA W1 W2 xs) 10, wideB (fP W1 W2 xs) (max W1 W2), !lastB (fL W1 W2 xs), true]
def xsOf (W1 W2 : Nat) (x y : Int) : List Bool := bitsC (wrapC x W1) W1 ++ bitsC (wrapC y W2) W2
theorem xsOf_len (W1 W2 : Nat) (x y : Int) : (xsOf W1 W2 x y).length = W1 + W2 := by
  unfold xsOf
  rw [List.length_append, bitsC_len, bitsC_len]
variable {W1 W2 a b : Nat} {c x y : Int} {m m' : Nat}
theorem fsV_tc (w1 : 8 ≤ W1) (w3 : 8 ≤ W2) (hc : -1000 ≤ c) (hc2 : c < 1000) (hm : ∀ xs, xs.length = W1 + W2 → (fM W1 c xs).length < m ∧ (fG W1 W2 xs).length < m) (hm' : m' = 1 + max 12 (1 + max W1 W2))
    (hx : -(2 ^ (W1 - 1)) ≤ x ∧ x < 2 ^ (W1 - 1)) (hy : -(2 ^ (W2 - 1)) ≤ y ∧ y < 2 ^ (W2 - 1)) :
    (fsV W1 W2 a b c m m' (xsOf W1 W2 x y)).map tc = [x + y, x - y, x * y, x / 2 ^ a, y * 2 ^ b, (if y < x then y else x), c, x * c + (x + y) / 2, c - (x - y), x] ∧
    wvV W1 W2 (xsOf W1 W2 x y) = [decide (x < y), !decide (-512 ≤ x + y ∧ x + y < 512), !decide (-(2 ^ (max W1 W2 - 1)) ≤ x * y ∧ x * y < 2 ^ (max W1 W2 - 1)), decide (y ≤ x), true] := by
  have lx := xsOf_len W1 W2 x y
  have t1 : (xsOf W1 W2 x y).take W1 = bitsC (wrapC x W1) W1 := by
    unfold xsOf
    rw [List.take_left' (bitsC_len _ _)]
  have t2 : (xsOf W1 W2 x y).drop W1 = bitsC (wrapC y W2) W2 := by
    unfold xsOf
    rw [List.drop_left' (bitsC_len _ _)]
  have hm1 := hm _ lx
  generalize xsOf W1 W2 x y = xs at lx t1 t2 hm1
  have A := tc_wrap (n := W1) (by omega) hx
  have B := tc_wrap (n := W2) (by omega) hy
  rw [← t1] at A
  rw [← t2] at B
  have l1 := t1_len lx
  have l2 := t2_len lx
  have n1 : xs.take W1 ≠ [] := ne_of (by omega)
  have n2 : xs.drop W1 ≠ [] := ne_of (by omega)
  have eA : tc (fA W1 W2 xs) = x + y := by
    unfold fA
    rw [tc_sum n1 n2 (by omega) (by omega), A, B]
    show x + y + 0 = _
    omega
  have eL : tc (fL W1 W2 xs) = x - y := by
    unfold fL
    rw [tc_sub n1 n2 (by omega) (by omega), A, B]
  have eP : tc (fP W1 W2 xs) = x * y := by
    unfold fP
    rw [tc_prod n1 n2, A, B]
  have eH : tc (fH W1 a xs) = x / 2 ^ a := by
    unfold fH
    rw [tc_half n1, A]
  have eD : tc (fD W1 b xs) = y * 2 ^ b := by
    unfold fD
    rw [tc_zeros n2, B, Int.mul_comm]
  have e1 : tc (fS1 W1 W2 xs) = x := by
    unfold fS1
    rw [tc_stretch n1, A]
  have e2 : tc (fS2 W1 W2 xs) = y := by
    unfold fS2
    rw [tc_stretch n2, B]
  have ls1 := fS1_len lx
  have ls2 := fS2_len lx
  have nL : fL W1 W2 xs ≠ [] := ne_of (by rw [fL_len lx]; omega)
  have nA : fA W1 W2 xs ≠ [] := ne_of (by rw [fA_len lx]; omega)
  have sg : lastB (fL W1 W2 xs) = decide (x < y) := by
    rw [sign_tc nL, eL]
    exact decide_eq_decide.mpr (by omega)
  have eC : tc (fC W1 W2 xs) = if y < x then y else x := by
    unfold fC
    rw [mux_t (by rw [stretch_len (by omega), stretch_len (by omega)]), sg]
    by_cases q : x < y
    · rw [decide_eq_true q, if_pos rfl, tc_stretch (ne_of (by omega)), e1, if_neg (by omega)]
    · rw [decide_eq_false q, if_neg (by decide), tc_stretch (ne_of (by omega)), e2]
      split <;> omega
  have eN : tc (fN c xs) = c := tc_bitsC (by decide) ⟨by omega, by omega⟩
  have nN : fN c xs ≠ [] := ne_of (by unfold fN; rw [bitsC_len]; decide)
  have eM : tc (fM W1 c xs) = x * c := by
    unfold fM
    rw [tc_prod n1 nN, A, eN]
  have nM : fM W1 c xs ≠ [] := ne_of (by rw [fM_len lx c (by omega)]; omega)
  have eG : tc (fG W1 W2 xs) = (x + y) / 2 := by
    unfold fG
    rw [tc_half nA, eA]
    rfl
  have nG : fG W1 W2 xs ≠ [] := ne_of (fG_len lx).1
  have eT : tc (fT W1 W2 c m xs) = x * c + (x + y) / 2 := by
    unfold fT
    rw [tc_sum nM nG hm1.1 hm1.2, eM, eG]
    show x * c + (x + y) / 2 + 0 = _
    omega
  have eU : tc (fU W1 W2 c m' xs) = c - (x - y) := by
    unfold fU
    rw [tc_sub nN nL (by unfold fN; rw [bitsC_len]; omega) (by rw [fL_len lx]; omega), eN, eL]
  refine ⟨?_, ?_⟩
  · simp only [fsV, List.map_cons, List.map_nil, eA, eL, eP, eH, eD, eC, eN, eT, eU, e1]
  · have wA : wideB (fA W1 W2 xs) 10 = !decide (-512 ≤ x + y ∧ x + y < 512) := by
      rw [wide_tc nA (by decide), eA]
      rfl
    have wP : wideB (fP W1 W2 xs) (max W1 W2) = !decide (-(2 ^ (max W1 W2 - 1)) ≤ x * y ∧ x * y < 2 ^ (max W1 W2 - 1)) := by
      rw [wide_tc (ne_of (by rw [fP_len lx (by omega)]; omega)) (by omega), eP]
    unfold wvV
    rw [wA, wP, sg]
    have z : (!decide (x < y)) = decide (y ≤ x) := by
      by_cases q : x < y
      · rw [decide_eq_true q, decide_eq_false (by omega)]
        rfl
      · rw [decide_eq_false q, decide_eq_true (by omega)]
        rfl
    rw [z]
/-- each is short -/
theorem fsV_len {W1 W2 a b : Nat} {c : Int} {m m' : Nat} {xs : List Bool} (lx : xs.length = W1 + W2) (w1 : 8 ≤ W1) (w2 : W1 < 15) (w3 : 8 ≤ W2) (w4 : W2 < 21) (hb : b < 12) (hm1 : (fM W1 c xs).length < m ∧ (fG W1 W2 xs).length < m) (hm : m ≤ 100) (hm' : m' = 1 + max 12 (1 + max W1 W2)) : ∀ f, f ∈ fsV W1 W2 a b c m m' xs → 0 < f.length ∧ f.length ≤ 200 := by
  have m0 : 0 < m := Nat.lt_of_le_of_lt (Nat.zero_le _) hm1.1
  have dT : 0 < (fT W1 W2 c m xs).length ∧ (fT W1 W2 c m xs).length ≤ 200 := by
    have e : (fT W1 W2 c m xs).length = m := sumB_len (Nat.le_of_lt hm1.1) (Nat.le_of_lt hm1.2)
    rw [e]
    clear e hm1
    omega
  clear hm1
  have dA : 0 < (fA W1 W2 xs).length ∧ (fA W1 W2 xs).length ≤ 200 := by
    clear dT
    rw [fA_len lx]
    omega
  have dL : 0 < (fL W1 W2 xs).length ∧ (fL W1 W2 xs).length ≤ 200 := by
    clear dT dA
    rw [fL_len lx]
    omega
  have dP : 0 < (fP W1 W2 xs).length ∧ (fP W1 W2 xs).length ≤ 200 := by
    clear dT dA dL
    rw [fP_len lx (by omega)]
    omega
  have dN : 0 < (fN c xs).length ∧ (fN c xs).length ≤ 200 := by
    clear dT dA dL dP
    unfold fN
    rw [bitsC_len]
    omega
  have dH : 0 < (fH W1 a xs).length ∧ (fH W1 a xs).length ≤ 200 := by
    clear dT dA dL dP dN
    have l1 := t1_len lx
    have z := halfB_pos (a := xs.take W1) (ne_of (by omega)) a
    rw [l1] at z
    unfold fH
    refine ⟨z.1, Nat.le_trans z.2 ?_⟩
    omega
  have dD : 0 < (fD W1 b xs).length ∧ (fD W1 b xs).length ≤ 200 := by
    clear dT dA dL dP dN dH
    unfold fD
    rw [List.length_append, List.length_replicate, t2_len lx]
    omega
  have dC : 0 < (fC W1 W2 xs).length ∧ (fC W1 W2 xs).length ≤ 200 := by
    clear dT dA dL dP dN dH dD
    have ls1 := fS1_len lx
    have ls2 := fS2_len lx
    unfold fC
    rw [muxB_len (by rw [stretch_len (Nat.le_of_eq ls1), stretch_len (Nat.le_of_eq ls2)]), stretch_len (Nat.le_of_eq ls1)]
    clear ls1 ls2
    omega
  have dS : 0 < (fS1 W1 W2 xs).length ∧ (fS1 W1 W2 xs).length ≤ 200 := by
    clear dT dA dL dP dN dH dD dC
    rw [fS1_len lx]
    omega
  have dU : 0 < (fU W1 W2 c m' xs).length ∧ (fU W1 W2 c m' xs).length ≤ 200 := by
    have e : (fU W1 W2 c m' xs).length = m' := subB_len (by
      clear dT dA dL dP dN dH dD dC dS
      unfold fN
      rw [bitsC_len]
      omega) (by
      clear dT dA dL dP dN dH dD dC dS
      rw [fL_len lx]
      omega)
    rw [e]
    clear e dT dA dL dP dN dH dD dC dS
    omega
  intro f mf
  unfold fsV at mf
  rcases List.mem_cons.mp mf with e | mf
  · rw [e]; exact dA
  rcases List.mem_cons.mp mf with e | mf
  · rw [e]; exact dL
  rcases List.mem_cons.mp mf with e | mf
  · rw [e]; exact dP
  rcases List.mem_cons.mp mf with e | mf
  · rw [e]; exact dH
  rcases List.mem_cons.mp mf with e | mf
  · rw [e]; exact dD
  rcases List.mem_cons.mp mf with e | mf
  · rw [e]; exact dC
  rcases List.mem_cons.mp mf with e | mf
  · rw [e]; exact dN
  rcases List.mem_cons.mp mf with e | mf
  · rw [e]; exact dT
  rcases List.mem_cons.mp mf with e | mf
  · rw [e]; exact dU
  rcases List.mem_cons.mp mf with e | mf
  · rw [e]; exact dS
  cases mf
end K73

set_option Elab.async false
set_option linter.all false
set_option maxRecDepth 100000
set_option maxHeartbeats 4000000
namespace K73
open Ev
variable {w : Nat} {gs : List G} {cs : List Int} {h : EH}
theorem chain_le {env : Env'} {h : EH} {a b c : M Val} {i j k : Int} (ea : a env h = .ok (.d (.int i)) h) (eb : b env h = .ok (.d (.int j)) h) (ec : c env h = .ok (.d (.int k)) h) : mChain opLe opLt a b c env h = .ok (.d (.bl (decide (i ≤ j ∧ j < k)))) h := by
  unfold mChain
  rw [ea, bind_mk, eb, bind_mk]
  show ((okB (decide (i ≤ j)) h).bind _) = _
  unfold okB
  rw [bind_mk]
  show ((R.ok (decide (i ≤ j)) h).bind _) = _
  rw [bind_mk]
  by_cases c1 : i ≤ j
  · rw [decide_eq_true c1, if_pos rfl, ec, bind_mk]
    show okB (decide (j < k)) h = _
    unfold okB
    by_cases c2 : j < k
    · rw [decide_eq_true c2, decide_eq_true ⟨c1, c2⟩]
    · rw [decide_eq_false c2, decide_eq_false (fun z => c2 z.2)]
  · rw [decide_eq_false c1, if_neg (by decide), decide_eq_false (fun z => c1 z.1)]
theorem neg_i (i : Int) (h : EH) : opNeg (.d (.int i)) h = .ok (.d (.int (-i))) h := rfl
/-- a list of ints behind -/
theorem lst_st (S : St w gs cs h) (xs : List Int) : St w gs cs (h ++ [.lst (iz xs)]) := S.app (iz_all _ _)
/-- one of drawn ones -/
theorem draw (S : St w gs cs h) (h6 : 6 ≤ h.length) {H : Int} (hH : 0 < H) (hB : H < 100000000) : ∃ v h1, callFn m__law_take [.r 2, .d (.int (2 * H))] h = .ok (.d (.int v)) h1 ∧ 0 ≤ v ∧ v < 2 * H ∧ St w gs cs h1 ∧ Kp h h1 ∧ h1.length = h.length ∧
    ∀ xs : List Int, xs ≠ [] → xs.length < 1000 → ∃ x h2, callFn m__law_some [.r 2, .r h1.length] (h1 ++ [.lst (iz xs)]) = .ok (.d (.int x)) h2 ∧ x ∈ xs ∧ St w gs cs h2 ∧ Kp h h2 := by
  obtain ⟨v, a, b, p, e, v0, v1⟩ := take_ok S.B (many := 2 * H) (by omega) (by omega)
  have S1 := S.bag a b p
  have k1 := Kp.bag h (bagO a b p)
  refine ⟨v, _, e, v0, v1, S1, k1, by simp, fun xs hx hl => ?_⟩
  have S2 := lst_st S1 xs
  obtain ⟨x, a2, b2, p2, e2, mx⟩ := some_ok S2.B (get_last (h.set 2 (bagO a b p)) (.lst (iz xs))) (by simp; omega) hx (by omega)
  exact ⟨x, _, e2, mx, S2.bag a2 b2 p2, (k1.trans (Kp.app _ _)).trans (Kp.bag _ _)⟩
abbrev E5 (ns : List Int) (W1 W2 a b : Nat) (c : Int) (r1 r2 r3 : List Nat) (n4 : Nat) (r5 : List Nat) (L M : Nat) (es : List Nat) (x21 : Option Val) (N : D) (H1 H2 : Int) (x25 x26 x27 x28 x29 x30 x31 x32 x33 x34 : Option Val) : Env' := [some (.z ns), some (.r 2), some (.d (.int (W1 : Int))), some (.d (.int (W2 : Int))), some (.r 3), some (.d (.int (a : Int))), some (.d (.int (b : Int))), some (.d (.int c)), some (.d (rl (List.range W1))), some (.d (rl (List.range' W1 W2))), some (.d (rl r1)), some (.d (rl r2)), some (.d (rl r3)), some (.d (.int (n4 : Int))), some (.d (rl r5)), some (.d (.int ((max W1 W2 : Nat) : Int))), some (.d (rl (stretchN (List.range W1) (max W1 W2 + 2)))), some (.d (rl (stretchN (List.range' W1 W2) (max W1 W2 + 2)))), some (.r L), some (.r M), some (.d (rl es)), x21, some (.d N), some (.d (.int H1)), some (.d (.int H2)), x25, x26, x27, x28, x29, x30, x31, x32, x33, x34]
variable {W1 W2 a b : Nat} {c : Int} {ns : List Int} {r1 r2 r3 r5 : List Nat} {n4 L M : Nat} {es0 : List Nat} {N : D} {H1 H2 : Int}
theorem draw_tk (env : Env') (i : Nat) (H v : Int) (h h1 : EH) (e1 : env[1]? = some (some (.r 2))) (ei : env[i]? = some (some (.d (.int H)))) (et : callFn m__law_take [.r 2, .d (.int (2 * H))] h = .ok (.d (.int v)) h1) : m2 opSub (mCall m__law_take [] (mCons (mVar 1) (mCons (m2 opMul (mCst (.d (.int 2))) (mVar i)) mNil))) (mVar i) env h = .ok (.d (.int (v - H))) h1 := by
  have vi : ∀ h, mVar i env h = .ok (.d (.int H)) h := fun h => by unfold mVar; rw [ei]
  have v1 : ∀ h, mVar 1 env h = .ok (.r 2) h := fun h => by unfold mVar; rw [e1]
  exact m2_ok (mCall_ok (mCons_ok (v1 _) (mCons_ok (m2_ok rfl (vi _) (mul_i _ _ _ (mulOk_l _ (by decide)))) mNil_ok)) et) (vi _) (sub_i _ _ _)
theorem turn1 (S : St w gs cs h) (h6 : 6 ≤ h.length) (b1 : H1 ≤ 1048576) (b2 : H2 ≤ 1048576) (b3 : 128 ≤ H1) (b4 : 128 ≤ H2) (x21 x25 x26 x27 x28 x29 x30 x31 x32 x33 x34 : Option Val) (rest : MS) : ∃ (x y : Int) (h' : EH),
    sSeq lb0 (sSeq lb1 (sSeq lb2 rest)) (E5 ns W1 W2 a b c r1 r2 r3 n4 r5 L M es0 x21 N H1 H2 x25 x26 x27 x28 x29 x30 x31 x32 x33 x34) h = rest (E5 ns W1 W2 a b c r1 r2 r3 n4 r5 L M es0 x21 N H1 H2 x25 (some (.d (.int x))) (some (.d (.int y))) x28 x29 x30 x31 x32 x33 x34) h' ∧ St w gs cs h' ∧ Kp h h' ∧
    (-H1 ≤ x ∧ x < H1) ∧ (-H2 ≤ y ∧ y < H2) := by
  obtain ⟨v1, h1, e1, v10, v11, S1, k1, l1, q1⟩ := draw S h6 (H := H1) (by omega) (by omega)
  obtain ⟨x, h2, e2, mx, S2, k2⟩ := q1 [H1 - 1, -H1, 0, -1, v1 - H1] (by simp) (by simp)
  have h62 : 6 ≤ h2.length := Nat.le_trans h6 k2.1
  obtain ⟨v2, h3, e3, v20, v21, S3, k3, l3, q3⟩ := draw S2 h62 (H := H2) (by omega) (by omega)
  obtain ⟨y, h4, e4, my, S4, k4⟩ := q3 [H2 - 1, -H2, 0, 1, v2 - H2, x] (by simp) (by simp)
  have bx : -H1 ≤ x ∧ x < H1 := by
    simp only [List.mem_cons, List.not_mem_nil, or_false] at mx
    omega
  have key : ∀ y' : Int, ((-H2 ≤ y ∧ y < H2) → y' = y) → (¬ (-H2 ≤ y ∧ y < H2) → y' = 5) → sSeq lb0 (sSeq lb1 (sSeq lb2 rest)) (E5 ns W1 W2 a b c r1 r2 r3 n4 r5 L M es0 x21 N H1 H2 x25 x26 x27 x28 x29 x30 x31 x32 x33 x34) h = rest (E5 ns W1 W2 a b c r1 r2 r3 n4 r5 L M es0 x21 N H1 H2 x25 (some (.d (.int x))) (some (.d (.int y'))) x28 x29 x30 x31 x32 x33 x34) h4 := fun y' c1 c2 => by
    refine sSeq_nx (sAsg_n (mCall_ok (mCons_ok rfl (mCons_ok (mLst_ok (xs := iz [H1 - 1, -H1, 0, -1, v1 - H1]) (mCons_ok (m2_ok rfl rfl (sub_i _ _ _)) (mCons_ok (m1_ok rfl (neg_i _ _)) (mCons_ok rfl (mCons_ok (m1_ok rfl (neg_i _ _)) (mCons_ok (draw_tk _ 23 H1 v1 h h1 rfl rfl e1) mNil_ok))))) (by simp)) mNil_ok)) e2)) ?_
    refine sSeq_nx (sAsg_n (mCall_ok (mCons_ok rfl (mCons_ok (mLst_ok (xs := iz [H2 - 1, -H2, 0, 1, v2 - H2, x]) (mCons_ok (m2_ok rfl rfl (sub_i _ _ _)) (mCons_ok (m1_ok rfl (neg_i _ _)) (mCons_ok rfl (mCons_ok rfl (mCons_ok (draw_tk _ 24 H2 v2 h2 h3 rfl rfl e3) (mCons_ok rfl mNil_ok)))))) (by simp)) mNil_ok)) e4)) ?_
    refine sSeq_nx (sAsg_n (v := .d (.int y')) ?_) rfl
    have ch := chain_le (a := m1 opNeg (mVar 24)) (b := mVar 27) (c := mVar 24) (env := E5 ns W1 W2 a b c r1 r2 r3 n4 r5 L M es0 x21 N H1 H2 x25 (some (.d (.int x))) (some (.d (.int y))) x28 x29 x30 x31 x32 x33 x34) (h := h4) (i := -H2) (j := y) (k := H2) rfl rfl rfl
    by_cases cc : -H2 ≤ y ∧ y < H2
    · rw [c1 cc]
      rw [decide_eq_true cc] at ch
      exact mIf_t (mB_ok ch) rfl
    · rw [c2 cc]
      rw [decide_eq_false cc] at ch
      exact mIf_f (mB_ok ch) rfl
  by_cases cc : -H2 ≤ y ∧ y < H2
  · exact ⟨x, y, h4, key y (fun _ => rfl) (fun z => absurd cc z), S4, k2.trans k4, bx, cc⟩
  · exact ⟨x, 5, h4, key 5 (fun z => absurd z cc) (fun _ => rfl), S4, k2.trans k4, bx, by omega⟩
end K73

set_option Elab.async false
set_option linter.all false
set_option maxRecDepth 100000
set_option maxHeartbeats 4000000
namespace K73
open Ev
variable {w : Nat} {gs : List G} {cs : List Int} {h : EH}
theorem cut_mid (bs : List Bool) {p q : Nat} (hl : p + q ≤ bs.length) : cutL (iv bs) (some (p : Int)) (some ((p : Int) + (q : Int))) = iv ((bs.drop p).take q) := by
  unfold cutL
  have z1 : HT.sIx (iv bs).length 0 (some (p : Int)) = p := by
    show (if (p : Int) < 0 then ((p : Int) + ((iv bs).length : Int)).toNat else min (p : Int).toNat (iv bs).length) = _
    rw [if_neg (by omega), iv_len]
    omega
  have z2 : HT.sIx (iv bs).length (iv bs).length (some ((p : Int) + (q : Int))) = p + q := by
    show (if (p : Int) + (q : Int) < 0 then ((p : Int) + (q : Int) + ((iv bs).length : Int)).toNat else min ((p : Int) + (q : Int)).toNat (iv bs).length) = _
    rw [if_neg (by omega), iv_len]
    omega
  rw [z1, z2, Nat.add_sub_cancel_left]
  simp [iv]
theorem cut_end (bs : List Bool) {p : Nat} (hl : p ≤ bs.length) : cutL (iv bs) (some (p : Int)) none = iv (bs.drop p) := by
  unfold cutL
  have z1 : HT.sIx (iv bs).length 0 (some (p : Int)) = p := by
    show (if (p : Int) < 0 then ((p : Int) + ((iv bs).length : Int)).toNat else min (p : Int).toNat (iv bs).length) = _
    rw [if_neg (by omega), iv_len]
    omega
  rw [z1, HT.sIx_none]
  unfold iv
  rw [List.length_map, ← List.map_drop, List.take_of_length_le (by simp)]
theorem flat_split {rs : List (List Nat)} {i : Nat} (hi : i < rs.length) : rs.flatten = (rs.take i).flatten ++ (rs[i] ++ (rs.drop (i + 1)).flatten) := by
  conv => lhs; rw [← List.take_append_drop i rs, List.drop_eq_getElem_cons hi]
  rw [List.flatten_append, List.flatten_cons]
theorem flat_take {rs : List (List Nat)} {i : Nat} (hi : i < rs.length) : (rs.take (i + 1)).flatten = (rs.take i).flatten ++ rs[i] := by
  rw [List.take_add_one, List.getElem?_eq_getElem hi]
  show (rs.take i ++ [rs[i]]).flatten = _
  rw [List.flatten_append, List.flatten_cons, List.flatten_nil, List.append_nil]
theorem seg (f : Nat → Bool) (A B C : List Nat) (ws : List Bool) : (((A ++ (B ++ C)).map f ++ ws).drop A.length).take B.length = B.map f := by
  rw [List.map_append, List.map_append, List.append_assoc, List.drop_left' (List.length_map _), List.append_assoc, List.take_left' (List.length_map _)]
theorem iz_app (a b : List Int) : iz (a ++ b) = iz a ++ iz b := by simp [iz]
theorem sAug_ok {i : Nat} {o : Val → Val → EH → R Val} {me : M Val} {env : Env'} {h h1 h2 : EH} {x y z : Val} (e : env[i]? = some (some x)) (em : me env h = .ok y h1) (eo : o x y h1 = .ok z h2) : sAug i o me env h = .nx (env.set i (some z)) h2 := by
  unfold sAug
  rw [e]
  show (me env h).run env _ = _
  rw [em, run_ok, eo]
  rfl
theorem len_d (ns : List Nat) (h : EH) : bLen [.d (rl ns)] h = .ok (.d (.int (ns.length : Int))) h := len_rl ns h
variable {W1 W2 a b : Nat} {c : Int} {ns : List Int} {r1 r2 r3 r5 : List Nat} {n4 L M : Nat} {es0 es : List Nat} {H1 H2 : Int}
theorem turn2 (S : St (W1 + W2) gs cs h) (h6 : 6 ≤ h.length) (w2 : W1 < 15) (w4 : W2 < 21) (hg : gs.length ≤ 20000) {rs : List (List Nat)} {ws : List Nat} (ee : es = rs.flatten ++ ws) (he : ∀ n, n ∈ es → n < W1 + W2 + gs.length) (hl : es.length ≤ 20000) (hL : 6 ≤ L) (eL : h[L]? = some (.lst (rv rs))) (hr : ∀ r, r ∈ rs → 0 < r.length ∧ r.length ≤ 1000) (hrs : rs.length ≤ 100) (x y : Int) (x21 x25 x28 x29 x30 x31 x32 x33 x34 : Option Val) (rest : MS) : ∃ (h' : EH) (F : Nat) (x21' : Option Val),
    sSeq lb3 (sSeq lb4 (sSeq lb5 rest)) (E5 ns W1 W2 a b c r1 r2 r3 n4 r5 L M es0 x21 (netD (W1 + W2) gs es) H1 H2 x25 (some (.d (.int x))) (some (.d (.int y))) x28 x29 x30 x31 x32 x33 x34) h = rest (E5 ns W1 W2 a b c r1 r2 r3 n4 r5 L M es0 x21' (netD (W1 + W2) gs es) H1 H2 x25 (some (.d (.int x))) (some (.d (.int y))) (some (.d (it (es.map (V (xsOf W1 W2 x y) gs))))) (some (.r F)) (some (.d (.int (rs.flatten.length : Int)))) x31 x32 x33 x34) h' ∧ St (W1 + W2) gs cs h' ∧ h'[L]? = some (.lst (rv rs)) ∧ 6 ≤ F ∧ F ≠ L ∧ h'[F]? = some (.lst (iz ((rs.map (bv (xsOf W1 W2 x y) gs)).map tc))) := by
  have B1 := bits_ok x (n := W1) (by omega) h
  have B2 := bits_ok y (n := W2) (by omega) (h ++ [.lst (iv (bitsC (wrapC x W1) W1))])
  have Sa := S.app (j := [.lst (iv (bitsC (wrapC x W1) W1))]) (iv_all _ _)
  have Sb := Sa.app (j := [.lst (iv (bitsC (wrapC y W2) W2))]) (iv_all _ _)
  have g1 : (h ++ [Ob.lst (iv (bitsC (wrapC x W1) W1))] ++ [Ob.lst (iv (bitsC (wrapC y W2) W2))])[h.length]? = some (.lst (iv (bitsC (wrapC x W1) W1))) := (Kp.app _ _).at h6 (get_last _ _)
  have ad := add_ll g1 (get_last (h ++ [Ob.lst (iv (bitsC (wrapC x W1) W1))]) (.lst (iv (bitsC (wrapC y W2) W2)))) (by rw [iv_len, iv_len, bitsC_len, bitsC_len]; omega)
  have ea : iv (bitsC (wrapC x W1) W1) ++ iv (bitsC (wrapC y W2) W2) = iv (xsOf W1 W2 x y) := by simp [iv, xsOf]
  rw [ea] at ad
  have lx := xsOf_len W1 W2 x y
  have Sc := Sb.app (j := [.lst (iv (xsOf W1 W2 x y))]) (iv_all _ _)
  have kc : Kp h (h ++ [Ob.lst (iv (bitsC (wrapC x W1) W1))] ++ [Ob.lst (iv (bitsC (wrapC y W2) W2))] ++ [Ob.lst (iv (xsOf W1 W2 x y))]) := ((Kp.app _ _).trans (Kp.app _ _)).trans (Kp.app _ _)
  generalize xsOf W1 W2 x y = xs at ad lx Sc kc ⊢
  have tu := bTuple_iv (h ++ [Ob.lst (iv (bitsC (wrapC x W1) W1))] ++ [Ob.lst (iv (bitsC (wrapC y W2) W2))] ++ [Ob.lst (iv xs)]) xs (h ++ [Ob.lst (iv (bitsC (wrapC x W1) W1))] ++ [Ob.lst (iv (bitsC (wrapC y W2) W2))]).length (get_last _ _) (by omega)
  generalize eh1 : h ++ [Ob.lst (iv (bitsC (wrapC x W1) W1))] ++ [Ob.lst (iv (bitsC (wrapC y W2) W2))] ++ [Ob.lst (iv xs)] = h1 at ad Sc kc tu
  have fl := flow_ok S.wf he (by omega) (by omega) lx h1
  have told : es.map (V xs gs) = rs.flatten.map (V xs gs) ++ ws.map (V xs gs) := by rw [ee, List.map_append]
  have Sd := Sc.app (j := [.lst (iz [])]) rfl
  have eL1 := (kc.trans (Kp.app h1 [.lst (iz [])])).at hL eL
  have lL1 : L < h1.length := by
    have := (List.getElem?_eq_some_iff.mp (kc.at hL eL)).1
    exact this
  have l61 : 6 ≤ h1.length := Nat.le_trans h6 kc.1
  generalize et : es.map (V xs gs) = td at fl told
  have lt : td.length ≤ 20000 := by
    rw [← et, List.length_map]
    exact hl
  obtain ⟨env', h', el, x21', e1, e2, e3, e4⟩ := sFor_live (w := wd) (src := iVal (mVar 18)) (t := tgName 21) (b := sSeq (sExpr (mBM 4 lAppend (mVar 29) (mCons (mCall m__law_integer [] (mCons (mSlice (mVar 28) (mPart (some (mVar 30))) (mPart (some (m2 opAdd (mVar 30) (mOp bLen (mCons (mVar 21) mNil)))))) mNil)) mNil))) (sSeq (sAug 30 ipAdd (mOp bLen (mCons (mVar 21) mNil))) sNext)) (env := E5 ns W1 W2 a b c r1 r2 r3 n4 r5 L M es0 x21 (netD (W1 + W2) gs es) H1 H2 x25 (some (.d (.int x))) (some (.d (.int y))) (some (.d (it td))) (some (.r h1.length)) (some (.d (.int 0))) x31 x32 x33 x34) (h := h1 ++ [.lst (iz [])]) (xs := rv rs)
    (I := fun i env h' => ∃ x21, env = E5 ns W1 W2 a b c r1 r2 r3 n4 r5 L M es0 x21 (netD (W1 + W2) gs es) H1 H2 x25 (some (.d (.int x))) (some (.d (.int y))) (some (.d (it td))) (some (.r h1.length)) (some (.d (.int ((rs.take i).flatten.length : Int)))) x31 x32 x33 x34 ∧ St (W1 + W2) gs cs h' ∧ h'[L]? = some (.lst (rv rs)) ∧ h'[h1.length]? = some (.lst (iz (((rs.take i).map (bv xs gs)).map tc))))
    (iVal_r rfl eL1) (by rw [rv_len]; show rs.length < 1000000; omega)
    (fun i env h' ⟨_, _, _, e, _⟩ => e)
    (fun i env h' hi ⟨x21, e1, S', eL', eF'⟩ => by
      subst e1
      have hi2 : i < rs.length := by simpa using hi
      have gi : (rv rs)[i] = .d (rl rs[i]) := by simp [rv]
      rw [gi]
      have hri := hr rs[i] (List.getElem_mem hi2)
      have fs := flat_split hi2
      have lf : (rs.take i).flatten.length + rs[i].length ≤ td.length := by
        rw [told, fs, List.length_append, List.length_map, List.length_append, List.length_append]
        omega
      have sl := slice_it td (some (((rs.take i).flatten.length : Nat) : Int)) (some (((rs.take i).flatten.length : Int) + (rs[i].length : Int))) h' (by omega) (cs := bv xs gs rs[i]) (by
        rw [cut_mid td lf, told, fs]
        rw [seg]
        rfl)
      have ig := integer_ok (bs := bv xs gs rs[i]) (ne_of (by simp [bv]; omega)) (by simp [bv]; omega) h'
      have ap := mBM_at (mo := mVar 29) (ma := mCons (mCall m__law_integer [] (mCons (mSlice (mVar 28) (mPart (some (mVar 30))) (mPart (some (m2 opAdd (mVar 30) (mOp bLen (mCons (mVar 21) mNil)))))) mNil)) mNil) (env := E5 ns W1 W2 a b c r1 r2 r3 n4 r5 L M es0 (some (.d (rl rs[i]))) (netD (W1 + W2) gs es) H1 H2 x25 (some (.d (.int x))) (some (.d (.int y))) (some (.d (it td))) (some (.r h1.length)) (some (.d (.int ((rs.take i).flatten.length : Int)))) x31 x32 x33 x34) (h1 := h') (n := h1.length) rfl (tyNo_l eF') (mCons_ok (mCall_ok (mCons_ok (mSlice_ok rfl (mPart_s rfl) (mPart_s (m2_ok rfl (mOp_ok (mCons_ok rfl mNil_ok) (len_d _ _)) (add_i _ _ _))) sl) mNil_ok) ig) mNil_ok) eF' (by simp; omega)
      have e9 : iz (((rs.take i).map (bv xs gs)).map tc) ++ [Val.d (.int (tc (bv xs gs rs[i])))] = iz (((rs.take (i + 1)).map (bv xs gs)).map tc) := by
        have tk : rs.take (i + 1) = rs.take i ++ [rs[i]] := by
          rw [List.take_add_one, List.getElem?_eq_getElem hi2]
          rfl
        rw [tk, List.map_append, List.map_append, iz_app]
        rfl
      rw [e9] at ap
      refine ⟨_, _, sSeq_nx (sExpr_ok ap) (sSeq_nx (sAug_ok rfl (mOp_ok (mCons_ok rfl mNil_ok) (len_d _ _)) rfl) rfl), some (.d (rl rs[i])), ?_, S'.set l61 (iz_lts _ _), ?_, ?_⟩
      · rw [flat_take hi2, List.length_append]
        push_cast
        rfl
      · rw [List.getElem?_set_ne (by omega)]
        exact eL'
      · exact List.getElem?_set_self (List.getElem?_eq_some_iff.mp eF').1)
    ⟨x21, rfl, Sd, eL1, get_last _ _⟩
  rw [rv_len, List.take_length] at e1 e4
  subst e1
  refine ⟨h', h1.length, x21', ?_, e2, e3, l61, by omega, e4⟩
  refine sSeq_nx (sAsg_n (mCall_ok (mCons_ok rfl (mCons_ok (mOp_ok (mCons_ok (m2_ok (mCall_ok (mCons_ok rfl (mCons_ok rfl mNil_ok)) B1) (mCall_ok (mCons_ok rfl (mCons_ok rfl mNil_ok)) B2) ad) mNil_ok) tu) mNil_ok)) fl)) ?_
  refine sSeq_nx (sPar_ok (mCons_ok (mLst_ok (xs := iz []) mNil_ok (by simp)) (mCons_ok rfl mNil_ok)) rfl) ?_
  exact sSeq_nx el rfl
end K73

set_option Elab.async false
set_option linter.all false
set_option maxRecDepth 100000
set_option maxHeartbeats 4000000
namespace K73
open Ev
variable {w : Nat} {gs : List G} {cs : List Int} {h : EH}
def tl (bs : List Bool) : List Val := bs.map fun b => .d (.bl b)
@[simp] theorem tl_len (bs : List Bool) : (tl bs).length = bs.length := by simp [tl]
theorem tl_lts (n : Nat) : ∀ bs : List Bool, Val.lts n (tl bs) = true
  | [] => rfl
  | b :: r => tl_lts n r
theorem tl_all (n : Nat) (bs : List Bool) : allLt n [.lst (tl bs)] = true := by
  show (Val.lts n (tl bs) && true) = true
  rw [tl_lts]
  rfl
theorem iv_iz (bs : List Bool) : iv bs = iz (bs.map ib) := by simp [iv, iz]
theorem mNotV_ok {a : M Val} {env : Env'} {h h1 : EH} {b : Bool} (ea : a env h = .ok (.d (.bl b)) h1) : mNotV a env h = .ok (.d (.bl (!b))) h1 := by
  unfold mNotV
  rw [ea, bind_mk]
  show (R.ok b h1).bind _ = _
  rw [bind_mk]
  rfl
theorem ne_same {m n : Nat} {ns : List Int} (em : h[m]? = some (.lst (iz ns))) (en : h[n]? = some (.lst (iz ns))) : opNe (.r m) (.r n) h = .ok (.d (.bl false)) h := by
  have e := eqAny_same (vpy_ints em) (vpy_ints en) (by simp only [PySem.PyData.canLay0]; exact ints_lay ns) (by
    show PySem.PyData.depthAll (ns.map PySem.PyData.int) + 1 ≤ 60
    rw [ints_depth]
    omega)
  unfold opNe
  simp only [e]
  rfl
theorem alike_sh (S : St w gs cs h) {m n : Nat} {ns : List Int} (em : h[m]? = some (.lst (iz ns))) (en : h[n]? = some (.lst (iz ns))) (hl : ns.length ≤ 10000) (hb : ∀ i, i ∈ ns → i.natAbs < 2 ^ 1000) : callFn m__law_alike [.r m, .r n] h = .ok (.d (.bl true)) h := by
  show callSh m__law_alike [.r m, .r n] h = _
  exact call_end (j := []) (h1 := h) (by rw [List.append_nil]; exact alike_ints em en hl hb) rfl rfl S.D.c
variable {W1 W2 a b : Nat} {c : Int} {ns : List Int} {r1 r2 r3 r5 : List Nat} {n4 L M : Nat} {es0 : List Nat} {H1 H2 : Int} {N : D}
def dueV (a b : Nat) (c x y : Int) : List Int := [x + y, x - y, x * y, x / 2 ^ a, y * 2 ^ b, (if y < x then y else x), c, x * c + (x + y) / 2, c - (x - y), x]
def truV (W1 W2 : Nat) (x y : Int) : List Bool := [decide (x < y), !decide (-512 ≤ x + y ∧ x + y < 512), !decide (-(2 ^ (max W1 W2 - 1)) ≤ x * y ∧ x * y < 2 ^ (max W1 W2 - 1)), decide (y ≤ x), true]
theorem two_v {i n : Nat} (hb : n ≤ 1000) {env : Env'} (e : env[i]? = some (some (.d (.int (n : Int))))) (h : EH) : mIdx (mCall m__law_two [] (mCons (mVar i) mNil)) (mCst (.d (.int 0))) env h = .ok (.d (.int (2 ^ n))) h :=
  m2_ok (mCall_ok (mCons_ok (by unfold mVar; rw [e]) mNil_ok) (two_ok (by omega) h)) rfl (idx_two _ h)
theorem turn3 (S : St w gs cs h) (w1 : 8 ≤ W1) (w2 : W1 < 15) (w3 : 8 ≤ W2) (w4 : W2 < 21) (ha : a < 12) (hb : b < 12) (hL : 6 ≤ L) {rs : List (List Nat)} (eL : h[L]? = some (.lst (rv rs))) {F : Nat} (hF : 6 ≤ F) {x y : Int} (hx : x.natAbs < 10000000) (hy : y.natAbs < 10000000) (hc : c.natAbs < 10000)
    (eF : h[F]? = some (.lst (iz (dueV a b c x y)))) (hd : ∀ i, i ∈ dueV a b c x y → i.natAbs < 2 ^ 1000) {td : List Bool} {p : Nat} (ht : p ≤ td.length) (hl : td.length ≤ 20000) (etd : td.drop p = truV W1 W2 x y) (x21 x25 x31 x32 x33 x34 : Option Val) : ∃ (h' : EH) (y31 y32 y33 : Option Val),
    sSeq lb6 (sSeq lb7 (sSeq lb8 (sSeq lb9 (sSeq lb10 (sSeq lb11 sNext))))) (E5 ns W1 W2 a b c r1 r2 r3 n4 r5 L M es0 x21 N H1 H2 x25 (some (.d (.int x))) (some (.d (.int y))) (some (.d (it td))) (some (.r F)) (some (.d (.int (p : Int)))) x31 x32 x33 x34) h = .nx (E5 ns W1 W2 a b c r1 r2 r3 n4 r5 L M es0 x21 N H1 H2 x25 (some (.d (.int x))) (some (.d (.int y))) (some (.d (it td))) (some (.r F)) (some (.d (.int (p : Int)))) y31 y32 y33 x34) h' ∧ St w gs cs h' ∧ Kp h h' := by
  have pa := p2 a
  have pA : (2 : Int) ^ a ≤ 2 ^ 12 := p2m (by omega)
  have pA' : (2 : Int) ^ a < 1073741824 := Int.lt_of_le_of_lt pA (by decide)
  have S1 := lst_st S [x + y, x - y, x * y, x / 2 ^ a, y * 2 ^ b, (if y < x then y else x), c]
  have S2 := lst_st S1 [x * c + (x + y) / 2, c - (x - y), x]
  have g1 : (h ++ [Ob.lst (iz [x + y, x - y, x * y, x / 2 ^ a, y * 2 ^ b, (if y < x then y else x), c])] ++ [Ob.lst (iz [x * c + (x + y) / 2, c - (x - y), x])])[h.length]? = some (.lst (iz [x + y, x - y, x * y, x / 2 ^ a, y * 2 ^ b, (if y < x then y else x), c])) := (Kp.app _ _).at (by have := S.l; omega) (get_last _ _)
  have ad := add_ll g1 (get_last _ _) (by simp)
  have ee : iz [x + y, x - y, x * y, x / 2 ^ a, y * 2 ^ b, (if y < x then y else x), c] ++ iz [x * c + (x + y) / 2, c - (x - y), x] = iz (dueV a b c x y) := by simp [iz, dueV]
  rw [ee] at ad
  have S3 := lst_st S2 (dueV a b c x y)
  have k3 : Kp h (h ++ [Ob.lst (iz [x + y, x - y, x * y, x / 2 ^ a, y * 2 ^ b, (if y < x then y else x), c])] ++ [Ob.lst (iz [x * c + (x + y) / 2, c - (x - y), x])] ++ [Ob.lst (iz (dueV a b c x y))]) := ((Kp.app _ _).trans (Kp.app _ _)).trans (Kp.app _ _)
  have gD := get_last (h ++ [Ob.lst (iz [x + y, x - y, x * y, x / 2 ^ a, y * 2 ^ b, (if y < x then y else x), c])] ++ [Ob.lst (iz [x * c + (x + y) / 2, c - (x - y), x])]) (.lst (iz (dueV a b c x y)))
  generalize eDn : (h ++ [Ob.lst (iz [x + y, x - y, x * y, x / 2 ^ a, y * 2 ^ b, (if y < x then y else x), c])] ++ [Ob.lst (iz [x * c + (x + y) / 2, c - (x - y), x])]).length = Dn at ad gD
  generalize eh3 : h ++ [Ob.lst (iz [x + y, x - y, x * y, x / 2 ^ a, y * 2 ^ b, (if y < x then y else x), c])] ++ [Ob.lst (iz [x * c + (x + y) / 2, c - (x - y), x])] ++ [Ob.lst (iz (dueV a b c x y))] = h3 at ad S3 k3 gD
  have al := alike_sh S3 (k3.at hF eF) gD (by simp [dueV]) hd
  have lm : ∀ h, mIdx (mCall m__law_two [] (mCons (m2 opSub (mVar 15) (mCst (.d (.int 1)))) mNil)) (mCst (.d (.int 0))) (E5 ns W1 W2 a b c r1 r2 r3 n4 r5 L M es0 x21 N H1 H2 x25 (some (.d (.int x))) (some (.d (.int y))) (some (.d (it td))) (some (.r F)) (some (.d (.int (p : Int)))) (some (.r Dn)) x32 x33 x34) h = .ok (.d (.int (2 ^ (max W1 W2 - 1)))) h := fun h => two_at (i := 15) (W := max W1 W2) (by omega) (by omega) rfl h
  generalize eT : (2 : Int) ^ (max W1 W2 - 1) = T at lm
  have S4 := S3.app (j := [.lst (tl (truV W1 W2 x y))]) (tl_all _ _)
  have eT2 : truV W1 W2 x y = [decide (x < y), !decide (-512 ≤ x + y ∧ x + y < 512), !decide (-T ≤ x * y ∧ x * y < T), decide (y ≤ x), true] := by
    unfold truV
    rw [eT]
  have sl := slice_it td (some (p : Int)) none (h3 ++ [.lst (tl (truV W1 W2 x y))]) (by omega) (cut_end td ht)
  rw [etd] at sl
  have lb : bList [.d (it (truV W1 W2 x y))] (h3 ++ [.lst (tl (truV W1 W2 x y))]) = .ok (.r (h3 ++ [Ob.lst (tl (truV W1 W2 x y))]).length) (h3 ++ [.lst (tl (truV W1 W2 x y))] ++ [.lst (iv (truV W1 W2 x y))]) := by
    have g : getS (.d (it (truV W1 W2 x y))) (h3 ++ [.lst (tl (truV W1 W2 x y))]) = some (iv (truV W1 W2 x y)) := by
      show some (((truV W1 W2 x y).map fun b => D.int (ib b)).map Val.d) = _
      rw [iv_map]
    unfold bList
    simp only [g]
    rw [newL_ok (by simp [truV])]
  have S5 := S4.app (j := [.lst (iv (truV W1 W2 x y))]) (iv_all _ _)
  have gT : (h3 ++ [Ob.lst (tl (truV W1 W2 x y))] ++ [Ob.lst (iv (truV W1 W2 x y))])[h3.length]? = some (.lst (tl (truV W1 W2 x y))) := (Kp.app _ _).at (by have := S3.l; omega) (get_last _ _)
  have cm := mComp_live (w := wd) (k := 34) (own := [34]) (e := mOp bInt (mCons (mVar 34) mNil)) (fun v => match v with
    | .d (.bl b) => .d (.int (ib b))
    | v => v) (src := iVal (mVar 33)) (env := E5 ns W1 W2 a b c r1 r2 r3 n4 r5 L M es0 x21 N H1 H2 x25 (some (.d (.int x))) (some (.d (.int y))) (some (.d (it td))) (some (.r F)) (some (.d (.int (p : Int)))) (some (.r Dn)) (some (.d (.int T))) (some (.r h3.length)) x34) (h := h3 ++ [Ob.lst (tl (truV W1 W2 x y))] ++ [Ob.lst (iv (truV W1 W2 x y))]) (iVal_r rfl gT) gT (fun v m => by
    obtain ⟨b, _, rfl⟩ := List.mem_map.mp m
    refine mOp_ok (mCons_ok rfl mNil_ok) ?_
    cases b <;> rfl) (by rw [tl_len]; show (5 : Nat) < 1000000; decide) (by rw [tl_len]; show (5 : Nat) ≤ _; decide)
  have em : (tl (truV W1 W2 x y)).map (fun v => match v with
    | .d (.bl b) => Val.d (.int (ib b))
    | v => v) = iv (truV W1 W2 x y) := by simp [tl, iv]
  rw [em] at cm
  have S6 := S5.app (j := [.lst (iv (truV W1 W2 x y))]) (iv_all _ _)
  have gA : (h3 ++ [Ob.lst (tl (truV W1 W2 x y))] ++ [Ob.lst (iv (truV W1 W2 x y))] ++ [Ob.lst (iv (truV W1 W2 x y))])[(h3 ++ [Ob.lst (tl (truV W1 W2 x y))]).length]? = some (.lst (iz ((truV W1 W2 x y).map ib))) := by
    rw [← iv_iz]
    exact (Kp.app _ _).at (by have := S4.l; omega) (get_last _ _)
  have gB : (h3 ++ [Ob.lst (tl (truV W1 W2 x y))] ++ [Ob.lst (iv (truV W1 W2 x y))] ++ [Ob.lst (iv (truV W1 W2 x y))])[(h3 ++ [Ob.lst (tl (truV W1 W2 x y))] ++ [Ob.lst (iv (truV W1 W2 x y))]).length]? = some (.lst (iz ((truV W1 W2 x y).map ib))) := by
    rw [← iv_iz]
    exact get_last _ _
  have ne := ne_same gA gB
  have c1 := chain_le (a := m1 opNeg (mCst (.d (.int 512)))) (b := m2 opAdd (mVar 26) (mVar 27)) (c := mCst (.d (.int 512))) (env := E5 ns W1 W2 a b c r1 r2 r3 n4 r5 L M es0 x21 N H1 H2 x25 (some (.d (.int x))) (some (.d (.int y))) (some (.d (it td))) (some (.r F)) (some (.d (.int (p : Int)))) (some (.r Dn)) (some (.d (.int T))) x33 x34) (h := h3) (i := -512) (j := x + y) (k := 512) rfl rfl rfl
  have c2 := chain_le (a := m1 opNeg (mVar 32)) (b := m2 opMul (mVar 26) (mVar 27)) (c := mVar 32) (env := E5 ns W1 W2 a b c r1 r2 r3 n4 r5 L M es0 x21 N H1 H2 x25 (some (.d (.int x))) (some (.d (.int y))) (some (.d (it td))) (some (.r F)) (some (.d (.int (p : Int)))) (some (.r Dn)) (some (.d (.int T))) x33 x34) (h := h3) (i := -T) (j := x * y) (k := T) rfl (m2_ok rfl rfl (mul_i _ _ _ (mulOk_l _ (by omega)))) rfl
  refine ⟨_, some (.r Dn), some (.d (.int T)), some (.r h3.length), ?_, S6, ((k3.trans (Kp.app _ _)).trans (Kp.app _ _)).trans (Kp.app _ _)⟩
  refine sSeq_nx (sAsg_n (mLst_ok (xs := iz [x + y, x - y, x * y, x / 2 ^ a, y * 2 ^ b, (if y < x then y else x), c]) (mCons_ok (m2_ok rfl rfl (add_i _ _ _)) (mCons_ok (m2_ok rfl rfl (sub_i _ _ _)) (mCons_ok (m2_ok rfl rfl (mul_i _ _ _ (mulOk_l _ (by omega)))) (mCons_ok (m2_ok (mOp_ok (mCons_ok rfl mNil_ok) (bInt_i _ _)) (two_v (i := 5) (n := a) (by omega) rfl _) (fdiv_i _ pa pA' _)) (mCons_ok (m2_ok rfl (two_v (i := 6) (n := b) (by omega) rfl _) (mul_i _ _ _ (mulOk_l _ (by omega)))) (mCons_ok (mOp_ok (mCons_ok rfl (mCons_ok rfl mNil_ok)) rfl) (mCons_ok rfl mNil_ok))))))) (by simp))) ?_
  refine sSeq_nx (sAsg_n (m2_ok rfl (mLst_ok (xs := iz [x * c + (x + y) / 2, c - (x - y), x]) (mCons_ok (m2_ok (m2_ok rfl rfl (mul_i _ _ _ (mulOk_l _ (by omega)))) (m2_ok (mOp_ok (mCons_ok (m2_ok rfl rfl (add_i _ _ _)) mNil_ok) (bInt_i _ _)) rfl (fdiv_i _ (by decide) (by decide) _)) (add_i _ _ _)) (mCons_ok (m2_ok rfl (m2_ok rfl rfl (sub_i _ _ _)) (sub_i _ _ _)) (mCons_ok rfl mNil_ok))) (by simp)) ad)) ?_
  refine sSeq_nx (sIf_f (mNot_t (mTruth_b (mCall_ok (mCons_ok rfl (mCons_ok rfl mNil_ok)) al))) rfl) ?_
  refine sSeq_nx (sAsg_n (lm h3)) ?_
  refine sSeq_nx (sAsg_n (mLst_ok (xs := tl (truV W1 W2 x y)) (by rw [eT2]; exact mCons_ok (m2_ok rfl rfl (lt_i _ _ _ rfl)) (mCons_ok (mNotV_ok c1) (mCons_ok (mNotV_ok c2) (mCons_ok (m2_ok rfl rfl (ge_i' _ _ _ rfl)) (mCons_ok rfl mNil_ok))))) (by simp [truV]))) ?_
  exact sSeq_nx (sIf_f (mB_ok (m2_ok (mOp_ok (mCons_ok (mSlice_ok rfl (mPart_s rfl) mPart_n sl) mNil_ok) lb) cm ne)) rfl) rfl
end K73

set_option Elab.async false
set_option linter.all false
set_option maxRecDepth 100000
set_option maxHeartbeats 4000000
namespace K73
open Ev
theorem tc_small {f : List Bool} (h1 : 0 < f.length) (h2 : f.length ≤ 200) : (tc f).natAbs < 2 ^ 1000 := by
  have z := tc_bd (ne_of h1)
  have e : (2 : Int) ^ (f.length - 1) ≤ 2 ^ 999 := p2m (by omega)
  have e3 : (2 : Int) ^ 1000 = 2 * 2 ^ 999 := p2s 999
  have p := p2 999
  generalize (2 : Int) ^ (f.length - 1) = A at z e
  have n : ((tc f).natAbs : Int) < (2 : Int) ^ 1000 := by
    rw [e3]
    generalize (2 : Int) ^ 999 = B at e p
    generalize tc f = t at z
    omega
  have c : ((2 ^ 1000 : Nat) : Int) = (2 : Int) ^ 1000 := Int.natCast_pow 2 1000
  rw [← c] at n
  exact Int.ofNat_lt.mp n
theorem m_law_ok (ns : List Int) (hn : ns.length ≤ 63) : ∃ h, m_law [.z ns] [] = .ok (.d (.bl true)) h := by
  suffices hs : ∃ h, sSeq ls0 (sSeq ls1 (sSeq ls2 (sSeq ls3 (sSeq ls4 (sSeq ls5 (sSeq ls6 (sSeq ls7 (sSeq ls8 (sSeq ls9 (sSeq ls10 (sSeq ls11 (sSeq ls12 (sSeq ls13 (sSeq ls14 (sSeq ls15 (sSeq ls16 (sSeq ls17 (sSeq ls18 (sSeq ls19 (sSeq ls20 sNext)))))))))))))))))))) (startE 35 [.z ns]) [] = .rt (.d (.bl true)) h by
    obtain ⟨h, e⟩ := hs
    exact ⟨h, fn_rt' (n := 1) (m := 35) (b := b_law) rfl e⟩
  obtain ⟨W1, W2, a, b, c, cs, h0, eA, S0, l0, w1, w2, w3, w4, ha, hb, hc1, hc2⟩ := partA ns hn (sSeq ls4 (sSeq ls5 (sSeq ls6 (sSeq ls7 (sSeq ls8 (sSeq ls9 (sSeq ls10 (sSeq ls11 (sSeq ls12 (sSeq ls13 (sSeq ls14 (sSeq ls15 (sSeq ls16 (sSeq ls17 (sSeq ls18 (sSeq ls19 (sSeq ls20 sNext)))))))))))))))))
  rw [eA]
  obtain ⟨r1, r2, r3, n4, r5, g1, h1, eB, S1, k1, c1, q1, q2, q3, q4, q5⟩ := partB1 (a := a) (b := b) (c := c) (ns := ns) S0 w1 w2 w3 w4 (sSeq ls8 (sSeq ls9 (sSeq ls10 (sSeq ls11 (sSeq ls12 (sSeq ls13 (sSeq ls14 (sSeq ls15 (sSeq ls16 (sSeq ls17 (sSeq ls18 (sSeq ls19 (sSeq ls20 sNext)))))))))))))
  rw [eB]
  have l1 := Nat.le_trans l0 k1.1
  have pf : ([] : List G) <+: g1 := List.nil_prefix
  obtain ⟨r6, r7, r8, r13, r15, g2, h2, L, m, m', eC, S2, p2', c2, hL, gL, q6, q7, q8, q13, q15, hm, hm1, hm2⟩ := partB2 (a := a) (b := b) (c := c) (ns := ns) S1 w1 w2 w3 w4 ha hb c1 l1 q1 q2 q3 q4 q5 ((rail1 W1 W2).ext pf) ((rail2 W1 W2).ext pf) (sSeq ls12 (sSeq ls13 (sSeq ls14 (sSeq ls15 (sSeq ls16 (sSeq ls17 (sSeq ls18 (sSeq ls19 (sSeq ls20 sNext)))))))))
  rw [eC]
  have l2 : 6 ≤ h2.length := by
    have := (List.getElem?_eq_some_iff.mp gL).1
    omega
  have T1 : Ri (W1 + W2) g2 (stretchN (List.range W1) (max W1 W2 + 2)) (fS1 W1 W2) := ((rail1 W1 W2).ext (pf.trans p2')).stretch (ne_of (by simp; omega)) _
  -- the rails together
  have R : ∀ gs, g2 <+: gs → ∀ xs, xs.length = W1 + W2 → [r1, r2, r3, r6, r7, r8, r5, r13, r15, stretchN (List.range W1) (max W1 W2 + 2)].map (bv xs gs) = fsV W1 W2 a b c m m' xs := fun gs p xs hx => by
    simp only [List.map_cons, List.map_nil, fsV]
    rw [((q1.ext p2').ext p).v xs hx, ((q2.ext p2').ext p).v xs hx, ((q3.ext p2').ext p).v xs hx, (q6.ext p).v xs hx, (q7.ext p).v xs hx, (q8.ext p).v xs hx, ((q5.ext p2').ext p).v xs hx, (q13.ext p).v xs hx, (q15.ext p).v xs hx, (T1.ext p).v xs hx]
  have RI : ∀ r, r ∈ [r1, r2, r3, r6, r7, r8, r5, r13, r15, stretchN (List.range W1) (max W1 W2 + 2)] → ∀ n, n ∈ r → n < W1 + W2 + g2.length := fun r mr => by
    rcases List.mem_cons.mp mr with e | mr
    · rw [e]; exact (q1.ext p2').i
    rcases List.mem_cons.mp mr with e | mr
    · rw [e]; exact (q2.ext p2').i
    rcases List.mem_cons.mp mr with e | mr
    · rw [e]; exact (q3.ext p2').i
    rcases List.mem_cons.mp mr with e | mr
    · rw [e]; exact q6.i
    rcases List.mem_cons.mp mr with e | mr
    · rw [e]; exact q7.i
    rcases List.mem_cons.mp mr with e | mr
    · rw [e]; exact q8.i
    rcases List.mem_cons.mp mr with e | mr
    · rw [e]; exact (q5.ext p2').i
    rcases List.mem_cons.mp mr with e | mr
    · rw [e]; exact q13.i
    rcases List.mem_cons.mp mr with e | mr
    · rw [e]; exact q15.i
    rcases List.mem_cons.mp mr with e | mr
    · rw [e]; exact T1.i
    cases mr
  have rl10 : [r1, r2, r3, r6, r7, r8, r5, r13, r15, stretchN (List.range W1) (max W1 W2 + 2)].length = 10 := rfl
  generalize ers : [r1, r2, r3, r6, r7, r8, r5, r13, r15, stretchN (List.range W1) (max W1 W2 + 2)] = rs at gL R RI rl10
  have x0 := x0_len W1 W2
  have hr : ∀ r, r ∈ rs → 0 < r.length ∧ r.length ≤ 200 := fun r mr => by
    have z := fsV_len (a := a) (b := b) (c := c) x0 w1 w2 w3 w4 hb (hm _ x0) hm1 hm2 (bv (List.replicate (W1 + W2) false) g2 r) (by
      rw [← R g2 (List.prefix_refl _) _ x0]
      exact List.mem_map_of_mem mr)
    have e : (bv (List.replicate (W1 + W2) false) g2 r).length = r.length := by simp [bv]
    rw [e] at z
    exact z
  obtain ⟨n17, n18, n20, n21, g3, h3, M, x21, eD, S3, p3, c3, gL3, q17, q18, q20, q21⟩ := partB3 (a := a) (b := b) (c := c) (ns := ns) (r2 := r2) (r5 := r5) S2 w1 w2 w3 w4 c2 l2 (q1.ext p2') (q3.ext p2') (q4.ext p2') hL gL (by omega) (fun r mr => Nat.le_trans (hr r mr).2 (by decide)) (sSeq ls17 (sSeq ls18 (sSeq ls19 (sSeq ls20 sNext))))
  rw [eD]
  have fl : rs.flatten.length ≤ 2000 := by
    have z : ∀ l : List (List Nat), (∀ r, r ∈ l → r.length ≤ 200) → l.flatten.length ≤ 200 * l.length := fun l => by
      induction l with
      | nil => intro _; simp
      | cons r l ih =>
        intro q
        have := q r (List.mem_cons_self ..)
        have := ih fun r m => q r (List.mem_cons_of_mem _ m)
        rw [List.flatten_cons, List.length_append, List.length_cons]
        omega
    have := z rs fun r mr => (hr r mr).2
    omega
  have el : (rs.flatten ++ [n4, n17, n18, n20, n21]).length ≤ 20000 := by
    rw [List.length_append]
    show rs.flatten.length + 5 ≤ 20000
    omega
  have pl := p3.length_le
  have he : ∀ n, n ∈ rs.flatten ++ [n4, n17, n18, n20, n21] → n < W1 + W2 + g3.length := fun n mn => by
    rcases List.mem_append.mp mn with z | z
    · obtain ⟨r, mr, mn⟩ := List.mem_flatten.mp z
      have := RI r mr n mn
      omega
    · have i4 := ((q4.ext p2').ext p3).1
      have i17 := q17.1
      have i18 := q18.1
      have i20 := q20.1
      have i21 := q21.1
      simp only [List.mem_cons, List.not_mem_nil, or_false] at z
      rcases z with rfl | rfl | rfl | rfl | rfl <;> assumption
  rw [partC (a := a) (b := b) (c := c) S3.wf w1 w2 w3 w4 c3 he el]
  have wv : ∀ xs, xs.length = W1 + W2 → [n4, n17, n18, n20, n21].map (V xs g3) = wvV W1 W2 xs := fun xs hx => by
    simp only [List.map_cons, List.map_nil, wvV]
    rw [((q4.ext p2').ext p3).2 xs hx, q17.2 xs hx, q18.2 xs hx, q20.2 xs hx, q21.2 xs hx]
  have b1 : (2 : Int) ^ (W1 - 1) ≤ 2 ^ 20 := p2m (by omega)
  have b2 : (2 : Int) ^ (W2 - 1) ≤ 2 ^ 20 := p2m (by omega)
  have b3 : (2 : Int) ^ 7 ≤ 2 ^ (W1 - 1) := p2m (by omega)
  have b4 : (2 : Int) ^ 7 ≤ 2 ^ (W2 - 1) := p2m (by omega)
  rw [show (2 : Int) ^ 20 = 1048576 by decide] at b1 b2
  rw [show (2 : Int) ^ 7 = 128 by decide] at b3 b4
  have es : iRange1 (mCons (mCst (.d (.int 10))) mNil) (E5 ns W1 W2 a b c r1 r2 r3 n4 r5 L M rs.flatten x21 (netD (W1 + W2) g3 (rs.flatten ++ [n4, n17, n18, n20, n21])) (2 ^ (W1 - 1)) (2 ^ (W2 - 1)) none none none none none none none none none none) h3 = .ok (.seq (rng 0 10)) h3 := iRange1_ok (j := 10) (mCons_ok rfl mNil_ok) (by decide) (by decide)
  obtain ⟨env', h', ell, y21, y25, y26, y27, y28, y29, y30, y31, y32, y33, y34, ee, S4, gL4⟩ := loopL_inv (t := tgName 25) (b := sSeq lb0 (sSeq lb1 (sSeq lb2 (sSeq lb3 (sSeq lb4 (sSeq lb5 (sSeq lb6 (sSeq lb7 (sSeq lb8 (sSeq lb9 (sSeq lb10 (sSeq lb11 sNext)))))))))))) (xs := rng 0 10)
    (fun i env h' => ∃ x21 x25 x26 x27 x28 x29 x30 x31 x32 x33 x34, env = E5 ns W1 W2 a b c r1 r2 r3 n4 r5 L M rs.flatten x21 (netD (W1 + W2) g3 (rs.flatten ++ [n4, n17, n18, n20, n21])) (2 ^ (W1 - 1)) (2 ^ (W2 - 1)) x25 x26 x27 x28 x29 x30 x31 x32 x33 x34 ∧ St (W1 + W2) g3 cs h' ∧ h'[L]? = some (.lst (rv rs)))
    (fun i env h' hi ⟨x21, x25, x26, x27, x28, x29, x30, x31, x32, x33, x34, e1, S', gL'⟩ => by
      subst e1
      have l6 : 6 ≤ h'.length := by have := S'.l; omega
      obtain ⟨x, y, hA, t1, SA, kA, bx, bY⟩ := turn1 (W1 := W1) (W2 := W2) (a := a) (b := b) (c := c) (ns := ns) (r1 := r1) (r2 := r2) (r3 := r3) (r5 := r5) (n4 := n4) (L := L) (M := M) (es0 := rs.flatten) (N := netD (W1 + W2) g3 (rs.flatten ++ [n4, n17, n18, n20, n21])) S' l6 b1 b2 b3 b4 x21 (some (rng 0 10)[i]) x26 x27 x28 x29 x30 x31 x32 x33 x34 (sSeq lb3 (sSeq lb4 (sSeq lb5 (sSeq lb6 (sSeq lb7 (sSeq lb8 (sSeq lb9 (sSeq lb10 (sSeq lb11 sNext)))))))))
      have lx := xsOf_len W1 W2 x y
      obtain ⟨vt, vw⟩ := fsV_tc (a := a) (b := b) w1 w3 hc1 hc2 hm hm2 bx bY
      obtain ⟨hB, F, z21, t2, SB, gLB, hF, nF, gF⟩ := turn2 (a := a) (b := b) (c := c) (ns := ns) (r1 := r1) (r2 := r2) (r3 := r3) (r5 := r5) (n4 := n4) (M := M) (es0 := rs.flatten) (H1 := 2 ^ (W1 - 1)) (H2 := 2 ^ (W2 - 1)) SA (Nat.le_trans l6 kA.1) w2 w4 c3 rfl he el hL (kA.at hL gL') (fun r mr => ⟨(hr r mr).1, by have := (hr r mr).2; omega⟩) (by omega) x y x21 (some (rng 0 10)[i]) x28 x29 x30 x31 x32 x33 x34 (sSeq lb6 (sSeq lb7 (sSeq lb8 (sSeq lb9 (sSeq lb10 (sSeq lb11 sNext))))))
      rw [R g3 p3 _ lx, vt] at gF
      have hd : ∀ i, i ∈ dueV a b c x y → i.natAbs < 2 ^ 1000 := fun i mi => by
        have mi : i ∈ (fsV W1 W2 a b c m m' (xsOf W1 W2 x y)).map tc := by rw [vt]; exact mi
        obtain ⟨f, mf, rfl⟩ := List.mem_map.mp mi
        have z := fsV_len (a := a) (b := b) (c := c) lx w1 w2 w3 w4 hb (hm _ lx) hm1 hm2 f mf
        exact tc_small z.1 z.2
      have etd : (rs.flatten ++ [n4, n17, n18, n20, n21]).map (V (xsOf W1 W2 x y) g3) = rs.flatten.map (V (xsOf W1 W2 x y) g3) ++ truV W1 W2 x y := by
        rw [List.map_append, wv _ lx, vw]
        rfl
      obtain ⟨hC, y31, y32, y33, t3, SC, kC⟩ := turn3 (W1 := W1) (W2 := W2) (a := a) (b := b) (c := c) (ns := ns) (r1 := r1) (r2 := r2) (r3 := r3) (r5 := r5) (n4 := n4) (M := M) (es0 := rs.flatten) (H1 := 2 ^ (W1 - 1)) (H2 := 2 ^ (W2 - 1)) (N := netD (W1 + W2) g3 (rs.flatten ++ [n4, n17, n18, n20, n21])) SB w1 w2 w3 w4 ha hb hL gLB hF (x := x) (y := y) (by omega) (by omega) (by omega) gF hd (td := (rs.flatten ++ [n4, n17, n18, n20, n21]).map (V (xsOf W1 W2 x y) g3)) (p := rs.flatten.length) (by rw [List.length_map, List.length_append]; omega) (by rw [List.length_map]; exact el) (by rw [etd, List.drop_left' (List.length_map _)]) z21 (some (rng 0 10)[i]) x31 x32 x33 x34
      refine ⟨E5 ns W1 W2 a b c r1 r2 r3 n4 r5 L M rs.flatten z21 (netD (W1 + W2) g3 (rs.flatten ++ [n4, n17, n18, n20, n21])) (2 ^ (W1 - 1)) (2 ^ (W2 - 1)) (some (rng 0 10)[i]) (some (.d (.int x))) (some (.d (.int y))) (some (.d (it ((rs.flatten ++ [n4, n17, n18, n20, n21]).map (V (xsOf W1 W2 x y) g3))))) (some (.r F)) (some (.d (.int (rs.flatten.length : Int)))) y31 y32 y33 x34, hC, ?_, _, _, _, _, _, _, _, _, _, _, _, rfl, SC, kC.at hL gLB⟩
      show (sSeq lb0 (sSeq lb1 (sSeq lb2 (sSeq lb3 (sSeq lb4 (sSeq lb5 (sSeq lb6 (sSeq lb7 (sSeq lb8 (sSeq lb9 (sSeq lb10 (sSeq lb11 sNext))))))))))) ) (E5 ns W1 W2 a b c r1 r2 r3 n4 r5 L M rs.flatten x21 (netD (W1 + W2) g3 (rs.flatten ++ [n4, n17, n18, n20, n21])) (2 ^ (W1 - 1)) (2 ^ (W2 - 1)) (some (rng 0 10)[i]) x26 x27 x28 x29 x30 x31 x32 x33 x34) h' = _
      rw [t1, t2, t3])
    (env := E5 ns W1 W2 a b c r1 r2 r3 n4 r5 L M rs.flatten x21 (netD (W1 + W2) g3 (rs.flatten ++ [n4, n17, n18, n20, n21])) (2 ^ (W1 - 1)) (2 ^ (W2 - 1)) none none none none none none none none none none) (h := h3) ⟨x21, none, none, none, none, none, none, none, none, none, none, rfl, S3, gL3⟩
  exact ⟨h', sSeq_nx (sFor_ok es ell) (sSeq_rt (sRet_ok rfl))⟩
end K73

set_option Elab.async false
set_option linter.all false
set_option maxRecDepth 100000
set_option maxHeartbeats 0
namespace K73
open PySem PySem.Spec PySem.W PyProof.Rows L2 Ev
abbrev R : PySem.W.OpenRow := PySem.W.OpenLaw.row PySem.Challenge.rw_scaledcode_k73_wide_rails_of_many_wires
abbrev hk : PySem.W.Hook := hookX 6 fa fn ts bs
def ob (s : PySem.W.SharedT) : AlX := obsXG 6 fa fn ts bs (HandSHeadRun.getT s)
theorem ob_eq (s : PySem.W.SharedT) : ob s = hk.obs s.abs := obsXG_eq (HandSHeadRun.getT_eq s)
abbrev loose : List Str := [Str.ofString "ScaledError", Str.ofString "BadPaper", Str.ofString "is_integer", Str.ofString "are_integers", Str.ofString "NOT", Str.ofString "ONE", Str.ofString "ZERO", Str.ofString "SIZES", Str.ofString "PARTS", Str.ofString "is_gate", Str.ofString "checked_net", Str.ofString "driven", Str.ofString "flow", Str.ofString "depth", Str.ofString "bit_at", Str.ofString "Board", Str.ofString "_law_bag", Str.ofString "_law_take", Str.ofString "_law_some", Str.ofString "_law_alike", Str.ofString "_law_two", Str.ofString "_law_bits", Str.ofString "_law_integer"]
theorem run_false (w : World) : HandSHeadRun.RunEq R (PySem.W.view R.prog [27]) hk ob 2200 loose (w.withFollow "special-get-raises" false) := by
  intro os
  kernel_rfl
theorem run_true (w : World) : HandSHeadRun.RunEq R (PySem.W.view R.prog [27]) hk ob 2200 loose (w.withFollow "special-get-raises" true) := by
  intro os
  kernel_rfl
theorem run (w : World) : HandSHeadRun.RunEq R (PySem.W.view R.prog [27]) hk ob 2200 loose w := byRow2 "special-get-raises" (P := fun w => HandSHeadRun.RunEq R (PySem.W.view R.prog [27]) hk ob 2200 loose w) run_false run_true w
end K73
open PySem PySem.W PySem.Calls PyProof.Rows
theorem K73_holds_of (hm : ∀ ns : List Int, ns.length ≤ 63 → ∃ h, K73.m_law [.z ns] [] = .ok (.d (.bl true)) h) : PySem.Challenge.rw_scaledcode_k73_wide_rails_of_many_wires.Holds := by
  w_on; o_law
  refine HandSHeadRun.head_any (r := OpenLaw.row PySem.Challenge.rw_scaledcode_k73_wide_rails_of_many_wires) (q := view (OpenLaw.row PySem.Challenge.rw_scaledcode_k73_wide_rails_of_many_wires).prog [27]) (H := K73.hk) (ob := K73.ob) (M := 2200) (loose := K73.loose) (d := HandSHeadRun.topDef (OpenLaw.row PySem.Challenge.rw_scaledcode_k73_wide_rails_of_many_wires).prog 27) (kwd := []) K73.ob_eq
    (by kernel_rfl) (fun s => by kernel_rfl) K73.run (by kernel_rfl) (by kernel_rfl) (by kernel_rfl) (by rfl) (by first | assumption | decide +kernel) (by decide +kernel) ⟨rfl, rfl, rfl, rfl, rfl, by decide +kernel⟩ ?hw ?hc
  case hw => w_witness2
  case hc =>
    refine Ev.walk_ofG (l := PySem.Challenge.rw_scaledcode_k73_wide_rails_of_many_wires) (n := 63) (k := 10) (x := "script") (f := K73.m_law) rfl (by decide) (by kernel_rfl) ⟨rfl, by decide, by decide⟩ ?F hm
    intro w mg fa h Y G hmg0
    obtain ⟨K, KX, c⟩ := Y
    have hmg : mg ("law" : PySem.Str) = some (.ref fa) := by
      have e : (HandSHeadRun.topDef (OpenLaw.row PySem.Challenge.rw_scaledcode_k73_wide_rails_of_many_wires).prog 27).name = ("law" : PySem.Str) := by kernel_rfl
      rw [← e]
      exact hmg0
    have S : K73.Sx K mg w := ⟨⟨h, KX, G⟩, c⟩
    have e := hmg.symm.trans (S.glo 56 rfl)
    cases e
    obtain ⟨fd, F⟩ := S.d.def_ 35 (d := K73.d_law) rfl
    have b := L2.FunD.bindsA (ps := ["script"]) F fun _ _ _ _ _ _ us hl => match us, hl with | [_], _ => rfl
    exact ⟨K, K73.Gk K, fd, KX, fun s v => b s [v] rfl, fun base _ _ => K73.law_fn S F⟩
set_option maxRecDepth 100000 in
set_option maxHeartbeats 0 in
theorem PySem.Challenge.cw_scaledcode_k73_wide_rails_of_many_wires_holds : PySem.Challenge.rw_scaledcode_k73_wide_rails_of_many_wires.Holds := by
  exact K73_holds_of K73.m_law_ok
