import PyProof.Rows.All
import Wide.All
import OpenK.AllK
import Wide.FinOn
import PyProof.EqAt
import PyProof.EqKinds
import PyProof.TupleCall
import PyProof.NoPylong
import PyProof.Fits
import HandS.Base
import HandS.Call
import HandS.List
import HandS.Comp
import HandS.Ends
import HandS.Iter
import HandS.Exc
import HandS.ExcOwn
import HandS.Flow
import HandS.Wide
import HandS.TupAny
import HandS.Deep
import PyProof.NeKinds
import HandS.Style
import HandS.ExcIs
import HandS.ExcField
import HandS.SortInts
import HandS.IsInst
import HandS.More
import HandS.TryOnly
import HandS.Zip
import HandS.Defaults
import HandS.EndBits
import HandS.Head0
import HandS.Head1
import HandS.Head2
import HandS.HeadHook1
import HandS.HeadHook2
import HandS.Words
import PySem.Challenge.RW_likeshards_k10_places_of_spots
set_option Elab.async false
set_option linter.all false
set_option maxRecDepth 100000
set_option maxHeartbeats 4000000
namespace Sd
open PySem PySem.Spec PyProof.Rows L2
/-- a datum: what a Python value is worth; tuples by what they hold -/
inductive D where
  | non | bl (b : Bool) | int (i : Int) | str (x : Str) | ty (n : String) | ref (a : Addr) | tup (l : List D)
/-- what stands at an address: a list (w: it may be changed), a caught error (class, field) -/
inductive O where
  | lst (w : Bool) (l : List D)
  | exc (k : Nat) (f : Option D)
abbrev DSt := List (Option D)
abbrev Sto := Addr → Option O
abbrev PD := D → Sto → Prop
abbrev AW := Nat → Option D → DSt → Sto → Prop
abbrev FW := Nat → Option D → Sto → Prop
/-- a def's contract: arguments, store, what is wanted of the answer, of an error -/
abbrev Con := List D → Sto → PD → FW → Prop
def Sto.up (S : Sto) (a : Addr) (o : O) : Sto := fun b => if b = a then some o else S b
theorem up_same {S : Sto} {a : Addr} {o : O} : S.up a o a = some o := by unfold Sto.up; rw [if_pos rfl]
theorem up_ne {S : Sto} {a b : Addr} {o : O} (h : b ≠ a) : S.up a o b = S b := by unfold Sto.up; rw [if_neg h]
theorem sne {S : Sto} {a b : Addr} {o : O} (h : S a = some o) (h' : S b = none) : a ≠ b := by
  intro e; subst e; rw [h] at h'; cases h'
/-- less is known -/
def Sto.le (S S' : Sto) : Prop := ∀ a o, S a = some o → S' a = some o
theorem Sto.le.refl (S : Sto) : Sto.le S S := fun _ _ h => h
theorem Sto.le.trans {S S1 S2 : Sto} (a : Sto.le S S1) (b : Sto.le S1 S2) : Sto.le S S2 := fun x o h => b x o (a x o h)
theorem Sto.le.up {S S' : Sto} {p : Addr} {o : O} (h : Sto.le S S') (n : S p = none) : Sto.le S (S'.up p o) := fun a u e => by
  rw [up_ne (sne e n)]; exact h a u e
/-! ### the classes of the text, by numbers -/
def clsN : Nat → Str
  | 0 => "ShardError" | 1 => "NoNumber" | 2 => "NoPrime" | 3 => "NoField" | 4 => "NoCutting" | 5 => "NoLine" | 6 => "NoFrame" | 7 => "NoDoor" | 8 => "NoPaper"
  | 9 => "NoAreas" | 10 => "NoWay" | 11 => "NoSpot" | 12 => "NoMove" | 13 => "NoBend" | 14 => "TooMany" | 15 => "NoText" | 16 => "NoRow" | _ => "NoName"
/-- the field's name -/
def fldN : Nat → Str
  | 4 => "fault" | 15 => "at" | _ => "name"
def subK (i j : Nat) : Bool := i == j || j == 0
def gaK (K : PySem.W.Frag) (x : Str) : Addr := match PySem.W.nsIn K mainGlobals x with
  | some (some (.ref a)) => a
  | _ => 0
/-- the k-th class stands in the text -/
def Kn (K : PySem.W.Frag) (k : Nat) : Prop := k < 18 ∧ PySem.W.nsIn K mainGlobals (clsN k) = some (some (.ref (gaK K (clsN k))))
/-! ### data and values -/
section
variable (K : PySem.W.Frag)
mutual
def Rp (H : Hp) : D → V → Prop
  | .non, v => v = .non
  | .bl b, v => v = .bl b
  | .int i, v => v = .int i
  | .str x, v => v = .str x
  | .ty n, v => v = .ty n
  | .ref a, v => v = .ref a
  | .tup l, v => ∃ a vs, v = .ref a ∧ SqT K H a vs ∧ Rps H l vs
def Rps (H : Hp) : List D → List V → Prop
  | [], vs => vs = []
  | d :: ds, vs => ∃ v r, vs = v :: r ∧ Rp H d v ∧ Rps H ds r
end
/-- tuples and locked things stay -/
structure Kp (H H' : Hp) : Prop where
  tups : ∀ b xs, H b = some (.tup xs) → H' b = some (.tup xs)
  frzs : ∀ b o u, H b = some (.frz o u) → H' b = some (.frz o u)
end
theorem Kp.refl (H : Hp) : Kp H H := ⟨fun _ _ h => h, fun _ _ _ h => h⟩
theorem Kp.trans {H H1 H2 : Hp} (a : Kp H H1) (b : Kp H1 H2) : Kp H H2 := ⟨fun x xs h => b.tups x xs (a.tups x xs h), fun x o u h => b.frzs x o u (a.frzs x o u h)⟩
theorem Kp.new {H : Hp} {p : Addr} {o : HO} (h : H p = none) : Kp H (upd H p o) := ⟨fun b xs e => by rw [upd_ne (ne_of_none e h)]; exact e, fun b o' u e => by rw [upd_ne (ne_of_none e h)]; exact e⟩
theorem Kp.lst {H : Hp} {p : Addr} {o : HO} {xs : List V} (h : H p = some (.lst xs)) : Kp H (upd H p o) :=
  ⟨fun b ys e => by rw [upd_ne (ne_of e h (by intro z; cases z))]; exact e, fun b o' u e => by rw [upd_ne (ne_of e h (by intro z; cases z))]; exact e⟩
theorem SqT.kp {K : PySem.W.Frag} {H H' : Hp} {a : Addr} {xs : List V} (k : Kp H H') (h : SqT K H a xs) : SqT K H' a xs := by
  rcases h with (h | ⟨o, h⟩) | h
  · exact .inl (.inl (k.tups _ _ h))
  · exact .inl (.inr ⟨o, k.frzs _ _ _ h⟩)
  · exact .inr h
mutual
theorem Rp.kp {K : PySem.W.Frag} {H H' : Hp} (k : Kp H H') : ∀ (d : D) {v : V}, Rp K H d v → Rp K H' d v
  | .non, _, h => h
  | .bl _, _, h => h
  | .int _, _, h => h
  | .str _, _, h => h
  | .ty _, _, h => h
  | .ref _, _, h => h
  | .tup l, _, h => by
    obtain ⟨a, vs, e, q, r⟩ := h
    exact ⟨a, vs, e, SqT.kp k q, Rps.kp k l r⟩
theorem Rps.kp {K : PySem.W.Frag} {H H' : Hp} (k : Kp H H') : ∀ (ds : List D) {vs : List V}, Rps K H ds vs → Rps K H' ds vs
  | [], _, h => h
  | d :: ds, _, h => by
    obtain ⟨v, r, e, q, t⟩ := h
    exact ⟨v, r, e, Rp.kp k d q, Rps.kp k ds t⟩
end
section
variable {K : PySem.W.Frag} {H H' : Hp}
theorem Rps.length : ∀ {ds : List D} {vs : List V}, Rps K H ds vs → vs.length = ds.length
  | [], _, h => by rw [show _ = _ from h]; rfl
  | d :: ds, _, h => by
    obtain ⟨v, r, rfl, _, t⟩ := h
    simp [Rps.length t]
theorem Rps.get : ∀ {ds : List D} {vs : List V} {i : Nat} {d : D}, Rps K H ds vs → ds[i]? = some d → ∃ v, vs[i]? = some v ∧ Rp K H d v
  | [], _, _, _, _, e => by simp at e
  | d :: ds, _, 0, _, h, e => by
    obtain ⟨v, r, rfl, q, t⟩ := h
    simp at e; subst e
    exact ⟨v, rfl, q⟩
  | d :: ds, _, i + 1, x, h, e => by
    obtain ⟨v, r, rfl, q, t⟩ := h
    obtain ⟨u, h1, h2⟩ := Rps.get (i := i) (d := x) t (by simpa using e)
    exact ⟨u, by simpa using h1, h2⟩
theorem Rps.getV : ∀ {ds : List D} {vs : List V} {i : Nat} {v : V}, Rps K H ds vs → vs[i]? = some v → ∃ d, ds[i]? = some d ∧ Rp K H d v
  | [], _, _, _, h, e => by rw [show _ = _ from h] at e; simp at e
  | d :: ds, _, 0, _, h, e => by
    obtain ⟨v, r, rfl, q, t⟩ := h
    simp at e; subst e
    exact ⟨d, rfl, q⟩
  | d :: ds, _, i + 1, x, h, e => by
    obtain ⟨v, r, rfl, q, t⟩ := h
    obtain ⟨u, h1, h2⟩ := Rps.getV (i := i) (v := x) t (by simpa using e)
    exact ⟨u, by simpa using h1, h2⟩
theorem Rps.append : ∀ {ds es : List D} {vs us : List V}, Rps K H ds vs → Rps K H es us → Rps K H (ds ++ es) (vs ++ us)
  | [], _, _, _, h, q => by rw [show _ = _ from h]; exact q
  | d :: ds, _, _, _, h, q => by
    obtain ⟨v, r, rfl, a, t⟩ := h
    exact ⟨v, r ++ _, rfl, a, Rps.append t q⟩
theorem Rps.one {d : D} {v : V} (h : Rp K H d v) : Rps K H [d] [v] := ⟨v, [], rfl, h, rfl⟩
theorem Rps.cons {d : D} {v : V} {ds : List D} {vs : List V} (h : Rp K H d v) (t : Rps K H ds vs) : Rps K H (d :: ds) (v :: vs) := ⟨v, vs, rfl, h, t⟩
theorem Rps.set {d : D} {v : V} (h : Rp K H d v) : ∀ {ds : List D} {vs : List V} (i : Nat), Rps K H ds vs → Rps K H (ds.set i d) (vs.set i v)
  | [], _, _, q => by rw [show _ = _ from q]; exact rfl
  | e :: ds, _, 0, q => by
    obtain ⟨u, r, rfl, a, t⟩ := q
    exact ⟨v, r, rfl, h, t⟩
  | e :: ds, _, i + 1, q => by
    obtain ⟨u, r, rfl, a, t⟩ := q
    exact ⟨u, r.set i v, rfl, a, Rps.set h i t⟩
theorem Rps.take : ∀ {ds : List D} {vs : List V} (n : Nat), Rps K H ds vs → Rps K H (ds.take n) (vs.take n)
  | _, _, 0, _ => rfl
  | [], _, _ + 1, h => by rw [show _ = _ from h]; rfl
  | d :: ds, _, n + 1, h => by
    obtain ⟨v, r, rfl, a, t⟩ := h
    exact ⟨v, r.take n, rfl, a, Rps.take n t⟩
theorem Rps.drop : ∀ {ds : List D} {vs : List V} (n : Nat), Rps K H ds vs → Rps K H (ds.drop n) (vs.drop n)
  | _, _, 0, h => h
  | [], _, _ + 1, h => by rw [show _ = _ from h]; rfl
  | d :: ds, _, n + 1, h => by
    obtain ⟨v, r, rfl, a, t⟩ := h
    exact Rps.drop n t
end
/-! ### the store -/
/-- a caught error at a, of the class cls, its own dict d -/
def ExV (cls : Value) (d : Option Addr) (a : Addr) : HO := .ext fun h => ∃ (oe : Obj) (vs : Array Value), h.get? a = some oe ∧ Zc cls d oe ∧ oe.data = .fields vs
/-- what an error of the k-th class carries -/
def FldOk (K : PySem.W.Frag) (H : Hp) (k : Nat) (d : Option Addr) : Option D → Prop
  | none => Kn K k ∧ d = none
  | some x => Kn K k ∧ ∃ da v, d = some da ∧ H da = some (.xd [(fldN k, v)]) ∧ Rp K H x v
def OkO (K : PySem.W.Frag) (H : Hp) (a : Addr) : O → Prop
  | .lst true l => ∃ vs, H a = some (.lst vs) ∧ Rps K H l vs
  | .lst false l => ∃ o vs, H a = some (.frz o (.lst vs)) ∧ Rps K H l vs
  | .exc k f => ∃ d, H a = some (ExV (.ref (gaK K (clsN k))) d a) ∧ FldOk K H k d f
def StoOk (K : PySem.W.Frag) (H : Hp) (S : Sto) : Prop := ∀ a o, S a = some o → OkO K H a o
structure Sees (K : PySem.W.Frag) (H : Hp) (σ : L2.St) (ρ : DSt) (S : Sto) : Prop where
  len : ρ.length = σ.length
  loc : ∀ (i : Nat) (d : D), ρ[i]? = some (some d) → ∃ v, σ[i]? = some (some v) ∧ Rp K H d v
  sto : StoOk K H S
section
variable {K : PySem.W.Frag} {H H' : Hp} {σ : L2.St} {ρ : DSt} {S S' : Sto}
theorem StoOk.le (h : StoOk K H S') (l : Sto.le S S') : StoOk K H S := fun a o e => h a o (l a o e)
theorem OkO.there {a : Addr} {o : O} (h : OkO K H a o) : H a ≠ none := by
  cases o with
  | lst w l =>
    cases w with
    | true => obtain ⟨vs, e, _⟩ := h; rw [e]; simp
    | false => obtain ⟨ob, vs, e, _⟩ := h; rw [e]; simp
  | exc k f => obtain ⟨d, e, _⟩ := h; rw [e]; simp
theorem StoOk.free (h : StoOk K H S) {a : Addr} (e : H a = none) : S a = none := by
  cases q : S a with
  | none => rfl
  | some o => exact absurd e (h a o q).there
/-- every tracked thing kept -/
def Sm (H H' : Hp) : Prop := ∀ b o, H b = some o → H' b = some o
theorem Sm.kp (s : Sm H H') : Kp H H' := ⟨fun b xs e => s b _ e, fun b o u e => s b _ e⟩
theorem Sm.new {p : Addr} {o : HO} (h : H p = none) : Sm H (upd H p o) := fun b u e => by rw [upd_ne (ne_of_none e h)]; exact e
theorem FldOk.sm {k : Nat} {d : Option Addr} {f : Option D} (s : Sm H H') (h : FldOk K H k d f) : FldOk K H' k d f := by
  cases f with
  | none => exact h
  | some x =>
    obtain ⟨kn, da, v, e, q, r⟩ := h
    exact ⟨kn, da, v, e, s _ _ q, Rp.kp s.kp x r⟩
theorem FldOk.kn {k : Nat} {d : Option Addr} {f : Option D} (h : FldOk K H k d f) : Kn K k := by
  cases f with
  | none => exact h.1
  | some x => exact h.1
theorem OkO.sm {a : Addr} {o : O} (s : Sm H H') (h : OkO K H a o) : OkO K H' a o := by
  cases o with
  | lst w l =>
    cases w with
    | true => obtain ⟨vs, e, q⟩ := h; exact ⟨vs, s _ _ e, Rps.kp s.kp l q⟩
    | false => obtain ⟨ob, vs, e, q⟩ := h; exact ⟨ob, vs, s _ _ e, Rps.kp s.kp l q⟩
  | exc k f => obtain ⟨d, e, q⟩ := h; exact ⟨d, s _ _ e, q.sm s⟩
theorem StoOk.sm (s : Sm H H') (h : StoOk K H S) : StoOk K H' S := fun a o e => (h a o e).sm s
theorem StoOk.new {p : Addr} {o : O} {u : HO} (h : StoOk K H S) (hp : H p = none) (ho : OkO K (upd H p u) p o) : StoOk K (upd H p u) (S.up p o) := fun a o' e => by
  by_cases ha : a = p
  · subst ha; rw [up_same] at e; cases e; exact ho
  · rw [up_ne ha] at e
    exact (h a o' e).sm (Sm.new hp)
theorem FldOk.lst {k : Nat} {d : Option Addr} {f : Option D} {p : Addr} {xs ys : List V} (hp : H p = some (.lst xs)) (h : FldOk K H k d f) : FldOk K (upd H p (.lst ys)) k d f := by
  cases f with
  | none => exact h
  | some x =>
    obtain ⟨kn, da, v, e, q, r⟩ := h
    exact ⟨kn, da, v, e, by rw [upd_ne (ne_of q hp (by intro z; cases z))]; exact q, Rp.kp (Kp.lst hp) x r⟩
/-- a list is changed -/
theorem StoOk.lst {p : Addr} {l l' : List D} {xs ys : List V} (h : StoOk K H S) (hp : H p = some (.lst xs)) (hr : Rps K H l' ys) : StoOk K (upd H p (.lst ys)) (S.up p (.lst true l')) := fun a o e => by
  by_cases ha : a = p
  · subst ha; rw [up_same] at e; cases e
    exact ⟨ys, upd_same, Rps.kp (Kp.lst hp) _ hr⟩
  · rw [up_ne ha] at e
    have q := h a o e
    cases o with
    | lst w l =>
      cases w with
      | true => obtain ⟨vs, e1, q1⟩ := q; exact ⟨vs, by rw [upd_ne ha]; exact e1, Rps.kp (Kp.lst hp) l q1⟩
      | false => obtain ⟨ob, vs, e1, q1⟩ := q; exact ⟨ob, vs, by rw [upd_ne ha]; exact e1, Rps.kp (Kp.lst hp) l q1⟩
    | exc k f => obtain ⟨d, e1, q1⟩ := q; exact ⟨d, by rw [upd_ne ha]; exact e1, q1.lst hp⟩
theorem Sees.at (h : Sees K H σ ρ S) (k : Kp H H') (s : StoOk K H' S') : Sees K H' σ ρ S' := ⟨h.len, fun i d e => let ⟨v, a, b⟩ := h.loc i d e; ⟨v, a, Rp.kp k d b⟩, s⟩
theorem Sees.set (h : Sees K H σ ρ S) (i : Nat) {d : D} {v : V} (r : Rp K H d v) : Sees K H (σ.set i (some v)) (ρ.set i (some d)) S := by
  refine ⟨by simp [h.len], fun j e q => ?_, h.sto⟩
  by_cases hj : i = j
  · subst hj
    by_cases hi : i < ρ.length
    · rw [List.getElem?_set_self hi] at q
      cases q
      exact ⟨v, List.getElem?_set_self (by rw [← h.len]; exact hi), r⟩
    · rw [List.getElem?_eq_none (by simpa using hi)] at q; cases q
  · rw [List.getElem?_set_ne hj] at q
    obtain ⟨u, a, b⟩ := h.loc j e q
    exact ⟨u, by rw [List.getElem?_set_ne hj]; exact a, b⟩
theorem Sees.unset (h : Sees K H σ ρ S) (i : Nat) (o : Option V) : Sees K H (σ.set i o) (ρ.set i none) S := by
  refine ⟨by simp [h.len], fun j e q => ?_, h.sto⟩
  by_cases hj : i = j
  · subst hj
    by_cases hi : i < ρ.length
    · rw [List.getElem?_set_self hi] at q; cases q
    · rw [List.getElem?_eq_none (by simpa using hi)] at q; cases q
  · rw [List.getElem?_set_ne hj] at q
    obtain ⟨u, a, b⟩ := h.loc j e q
    exact ⟨u, by rw [List.getElem?_set_ne hj]; exact a, b⟩
end
/-! ### lifts -/
abbrev AE := DSt → Sto → PD → AW → Prop
abbrev AT := DSt → Sto → (Bool → Sto → Prop) → AW → Prop
abbrev AA := DSt → Sto → (List D → Sto → Prop) → AW → Prop
structure DE where
  nx : DSt → Sto → Prop
  rt : PD
  bk : DSt → Sto → Prop := fun _ _ => False
  ct : DSt → Sto → Prop := fun _ _ => False
abbrev AS := DE → DSt → Sto → AW → Prop
/-- the error's wish, seen from H -/
def WLe (K : PySem.W.Frag) (H : Hp) (W : AW) (Wh : WX) : Prop := ∀ k f ρ S, W k f ρ S → ∀ d σ H', Kp H H' → Sees K H' σ ρ S → FldOk K H' k d f → Wh (.ref (gaK K (clsN k))) d σ H'
def PLe (K : PySem.W.Frag) (H : Hp) (P : PD) (Q : VK) : Prop := ∀ d S, P d S → ∀ v H', Kp H H' → StoOk K H' S → Rp K H' d v → Q v H'
def BLe (K : PySem.W.Frag) (H : Hp) (P : Bool → Sto → Prop) (Q : Bool → Hp → Prop) : Prop := ∀ b S, P b S → ∀ H', Kp H H' → StoOk K H' S → Q b H'
def ALe (K : PySem.W.Frag) (H : Hp) (P : List D → Sto → Prop) (Q : List V → Hp → Prop) : Prop := ∀ ds S, P ds S → ∀ vs H', Kp H H' → StoOk K H' S → Rps K H' ds vs → Q vs H'
def NLe (K : PySem.W.Frag) (H : Hp) (P : DSt → Sto → Prop) (Q : L2.St → Hp → Prop) : Prop := ∀ ρ S, P ρ S → ∀ σ H', Kp H H' → Sees K H' σ ρ S → Q σ H'
structure SLe (K : PySem.W.Frag) (H : Hp) (N : DE) (E : Ends) : Prop where
  nx : NLe K H N.nx E.nx
  rt : PLe K H N.rt E.rt
  bk : NLe K H N.bk E.bk
  ct : NLe K H N.ct E.ct
section
variable {K : PySem.W.Frag} {H H' : Hp}
theorem WLe.at {W : AW} {Wh : WX} (h : WLe K H W Wh) (k : Kp H H') : WLe K H' W Wh := fun c f ρ S w d σ H2 k2 => h c f ρ S w d σ H2 (k.trans k2)
theorem PLe.at {P : PD} {Q : VK} (h : PLe K H P Q) (k : Kp H H') : PLe K H' P Q := fun d S w v H2 k2 => h d S w v H2 (k.trans k2)
theorem BLe.at {P : Bool → Sto → Prop} {Q : Bool → Hp → Prop} (h : BLe K H P Q) (k : Kp H H') : BLe K H' P Q := fun d S w H2 k2 => h d S w H2 (k.trans k2)
theorem ALe.at {P : List D → Sto → Prop} {Q : List V → Hp → Prop} (h : ALe K H P Q) (k : Kp H H') : ALe K H' P Q := fun d S w v H2 k2 => h d S w v H2 (k.trans k2)
theorem NLe.at {P : DSt → Sto → Prop} {Q : L2.St → Hp → Prop} (h : NLe K H P Q) (k : Kp H H') : NLe K H' P Q := fun d S w v H2 k2 => h d S w v H2 (k.trans k2)
theorem SLe.at {N : DE} {E : Ends} (h : SLe K H N E) (k : Kp H H') : SLe K H' N E := ⟨h.nx.at k, h.rt.at k, h.bk.at k, h.ct.at k⟩
end
def LE (K : PySem.W.Frag) (Wh : WX) (A : AE) : TE := fun σ H Q => ∃ ρ S W P, Sees K H σ ρ S ∧ WLe K H W Wh ∧ PLe K H P Q ∧ A ρ S P W
def LT (K : PySem.W.Frag) (Wh : WX) (A : AT) : TT := fun σ H Q => ∃ ρ S W P, Sees K H σ ρ S ∧ WLe K H W Wh ∧ BLe K H P Q ∧ A ρ S P W
def LA (K : PySem.W.Frag) (Wh : WX) (A : AA) : TA := fun σ H Q => ∃ ρ S W P, Sees K H σ ρ S ∧ WLe K H W Wh ∧ ALe K H P Q ∧ A ρ S P W
def LS (K : PySem.W.Frag) (Wh : WX) (A : AS) : TS := fun E σ H => ∃ ρ S W N, Sees K H σ ρ S ∧ WLe K H W Wh ∧ SLe K H N E ∧ A N ρ S W
/-- a stronger reading -/
theorem PE.imp {X : Cx} {e : Expr} {t t' : TE} (h : PE X e t) (i : ∀ σ H Q, t' σ H Q → t σ H Q) : PE X e t' := ⟨fun pins s σ H Q I hw => h.run pins s σ H Q I (i σ H Q hw)⟩
theorem PT.imp {X : Cx} {e : Expr} {t t' : TT} (h : PT X e t) (i : ∀ σ H Q, t' σ H Q → t σ H Q) : PT X e t' := ⟨fun pins s σ H Q I hw => h.run pins s σ H Q I (i σ H Q hw)⟩
theorem PW.imp {X : Cx} {e : Expr} {t t' : TT} (h : PW X e t) (i : ∀ σ H Q, t' σ H Q → t σ H Q) : PW X e t' := ⟨fun wh pins s σ H Q I hw => h.run wh pins s σ H Q I (i σ H Q hw)⟩
theorem PA.imp {X : Cx} {e : List Expr} {t t' : TA} (h : PA X e t) (i : ∀ σ H Q, t' σ H Q → t σ H Q) : PA X e t' := ⟨fun pos pins s σ H Q I hw => h.run pos pins s σ H Q I (i σ H Q hw)⟩
theorem PS.imp {X : Cx} {st : Stmt} {t t' : TS} (h : PS X st t) (i : ∀ D σ H, t' D σ H → t D σ H) : PS X st t' := ⟨fun pins s σ H D I hw => h.run pins s σ H D I (i D σ H hw)⟩
theorem PSs.imp {X : Cx} {st : List Stmt} {t t' : TS} (h : PSs X st t) (i : ∀ D σ H, t' D σ H → t D σ H) : PSs X st t' := ⟨fun pins s σ H D I hw => h.run pins s σ H D I (i D σ H hw)⟩
end Sd
namespace Sd
open PySem PySem.Spec PyProof.Rows L2
/-! ### data for == -/
section
variable (g : Addr → Option PyData)
mutual
def pdW : Nat → D → Option PyData
  | _, .non => some .none
  | _, .bl b => some (.bool b)
  | _, .int i => some (.int i)
  | _, .str x => if PyData.strOk x = true then some (.str x) else none
  | _, .ty _ => none
  | _, .ref a => g a
  | 0, .tup _ => none
  | n + 1, .tup l => match pdWs n l with
    | some ps => some (.tuple ps)
    | none => none
def pdWs : Nat → List D → Option (List PyData)
  | _, [] => some []
  | n, d :: ds => match pdW n d, pdWs n ds with
    | some p, some ps => some (p :: ps)
    | _, _ => none
end
end
def gL (S : Sto) : Nat → Addr → Option PyData
  | 0, _ => none
  | n + 1, a => match S a with
    | some (.lst _ l) => (match pdWs (gL S n) 12 l with
      | some ps => some (.list ps)
      | none => none)
    | _ => none
/-- a datum as == sees it: lists three deep -/
def pdS (S : Sto) (d : D) : Option PyData := pdW (gL S 3) 12 d
/-! ### operators -/
def DivOk (j : Int) : Prop := j ≠ 0 ∧ j.natAbs.log2 < 9000
def opS (o : Operator) (x y : D) (S : Sto) (P : PD) : Prop :=
  match o, x, y with
  | .Add, .int i, .int j => P (.int (i + j)) S
  | .Sub, .int i, .int j => P (.int (i - j)) S
  | .Mult, .int i, .int j => IntMulOk i j ∧ P (.int (i * j)) S
  | .Mult, .ref a, .int k => (match S a with
    | some (.lst true l) => (-(2 ^ 63) ≤ k ∧ k < 2 ^ 63 ∧ l.length * k.toNat ≤ sizeLine) ∧ ∀ p, S p = none → P (.ref p) (S.up p (.lst true (List.replicate k.toNat l).flatten))
    | _ => False)
  | .FloorDiv, .int i, .int j => DivOk j ∧ P (.int (i.fdiv j)) S
  | .Mod, .int i, .int j => j ≠ 0 ∧ P (.int (i.fmod j)) S
  | .Pow, .int i, .int j => CPow i j ∧ P (.int (i ^ j.toNat)) S
  | .Add, .str a, .str b => a.length + b.length ≤ sizeLine ∧ P (.str (a ++ b)) S
  | .Add, .tup a, .tup b => a.length + b.length ≤ sizeLine ∧ P (.tup (a ++ b)) S
  | .Add, .ref a, .ref b => (match S a, S b with
    | some (.lst _ l), some (.lst _ m) => l.length + m.length ≤ sizeLine ∧ ∀ p, S p = none → P (.ref p) (S.up p (.lst true (l ++ m)))
    | _, _ => False)
  | _, _, _ => False
def isNo : D → Bool
  | .non => true
  | _ => false
def anyEq (p : PyData) (l : List PyData) : Bool := l.any fun z => PyData.eqv z p
/-- flat data: no list, no tuple -/
def flD : D → Bool
  | .non => true
  | .bl _ => true
  | .int _ => true
  | .str _ => true
  | _ => false
/-- == of flat data -/
def eqFl : D → D → Bool
  | .non, .non => true
  | .bl a, .bl b => a == b
  | .bl a, .int b => (if a then 1 else 0) == b
  | .int a, .bl b => a == (if b then 1 else 0)
  | .int a, .int b => a == b
  | .str a, .str b => a == b
  | _, _ => false
def inFl (x : D) (l : List D) : Bool := l.any fun y => eqFl y x
/-- two lists of unlike lengths -/
def lenS (b : Bool) (x y : D) (S : Sto) (P : PD) : Prop := match x, y with
  | .ref a, .ref c => (match S a, S c with
    | some (.lst _ l), some (.lst _ m) => l.length ≠ m.length ∧ P (.bl b) S
    | _, _ => False)
  | _, _ => False
def cmpS (o : CmpOp) (x y : D) (S : Sto) (P : PD) : Prop :=
  match o, x, y with
  | .Lt, .int i, .int j => P (.bl (decide (i < j))) S
  | .LtE, .int i, .int j => P (.bl (decide (i ≤ j))) S
  | .Gt, .int i, .int j => P (.bl (decide (j < i))) S
  | .GtE, .int i, .int j => P (.bl (decide (j ≤ i))) S
  | .Eq, .int i, .int j => P (.bl (decide (i = j))) S
  | .NotEq, .int i, .int j => P (.bl (!decide (i = j))) S
  | .Is, x, .non => P (.bl (isNo x)) S
  | .IsNot, x, .non => P (.bl (!isNo x)) S
  | .Is, .bl a, .bl b => P (.bl (decide (a = b))) S
  | .IsNot, .bl a, .bl b => P (.bl (!decide (a = b))) S
  | .In, x, .tup l => flD x = true ∧ l.all flD = true ∧ P (.bl (inFl x l)) S
  | .NotIn, x, .tup l => flD x = true ∧ l.all flD = true ∧ P (.bl (!inFl x l)) S
  | .Eq, x, y => (match pdS S x, pdS S y with
    | some p, some q => P (.bl (PyData.eqv p q)) S
    | _, _ => lenS false x y S P)
  | .NotEq, x, y => (match pdS S x, pdS S y with
    | some p, some q => P (.bl (!PyData.eqv p q)) S
    | _, _ => lenS true x y S P)
  | .In, x, .ref a => (match pdS S x, pdS S (.ref a) with
    | some p, some (.list ps) => P (.bl (anyEq p ps)) S
    | _, _ => False)
  | .NotIn, x, .ref a => (match pdS S x, pdS S (.ref a) with
    | some p, some (.list ps) => P (.bl (!anyEq p ps)) S
    | _, _ => False)
  | _, _, _ => False
def truB (S : Sto) : D → Option Bool
  | .non => some false
  | .bl b => some b
  | .int i => some (i != 0)
  | .str x => if x.length ≤ sizeLine then some (x.length != 0) else none
  | .tup l => some (!l.isEmpty)
  | .ref a => match S a with
    | some (.lst _ l) => some (!l.isEmpty)
    | _ => none
  | .ty _ => none
def ixS (x i : D) (S : Sto) (P : PD) : Prop :=
  match x, i with
  | .tup l, .int i => (match atI l i with
    | some d => P d S
    | none => False)
  | .ref a, .int i => (match S a with
    | some (.lst _ l) => (match atI l i with
      | some d => P d S
      | none => False)
    | _ => False)
  | .str z, .int i => z.length ≤ sizeLine ∧ (match atI z.cps.toList i with
    | some c => P (.str ⟨#[c]⟩) S
    | none => False)
  | _, _ => False
def cutD (l : List D) (lo hi : Option Int) : List D := (l.drop (HT.sIx l.length 0 lo)).take (HT.sIx l.length l.length hi - HT.sIx l.length 0 lo)
def slS (x : D) (lo hi : Option Int) (S : Sto) (P : PD) : Prop :=
  match x with
  | .ref a => (match S a with
    | some (.lst _ l) => ∀ p, S p = none → P (.ref p) (S.up p (.lst true (cutD l lo hi)))
    | _ => False)
  | .tup l => P (.tup (cutD l lo hi)) S
  | _ => False
/-- t[lo::k] -/
def pickT {α : Type} (l : List α) (lo : Option Int) (k : Int) : List α :=
  (List.range (Builtin.Slice.slicePlaces (Builtin.Slice.sliceAdjust lo none k l.length).1 (Builtin.Slice.sliceAdjust lo none k l.length).2 k)).filterMap fun (m : Nat) => l[((Builtin.Slice.sliceAdjust lo none k l.length).1 + (m : Int) * k).toNat]?
/-- x[lo::k] -/
def stS (x : D) (lo : Option Int) (k : Int) (S : Sto) (P : PD) : Prop :=
  match x with
  | .ref a => lo = none ∧ k = -1 ∧ (match S a with
    | some (.lst _ l) => ∀ p, S p = none → P (.ref p) (S.up p (.lst true l.reverse))
    | _ => False)
  | .tup l => k ≠ 0 ∧ k ≠ 1 ∧ (pickT l lo k).length ≤ sizeLine ∧ P (.tup (pickT l lo k)) S
  | _ => False
/-! ### how they meet the layer's rules -/
def OpAbs (K : PySem.W.Frag) (r : R2) (a : D → D → Sto → PD → Prop) : Prop := ∀ x y S P, a x y S P → ∀ H v w Q, StoOk K H S → Rp K H x v → Rp K H y w → PLe K H P Q → r v w H Q
section
variable {X : Cx} {K : PySem.W.Frag} {H : Hp} {S : Sto}
theorem PLe.now {P : PD} {Q : VK} {d : D} {v : V} (h : PLe K H P Q) (p : P d S) (s : StoOk K H S) (r : Rp K H d v) : Q v H := h d S p v H (Kp.refl H) s r
/-- a list that is read -/
theorem StoOk.rd {a : Addr} {w : Bool} {l : List D} (s : StoOk K H S) (e : S a = some (.lst w l)) : ∃ vs, SqL K H a vs ∧ Rps K H l vs := by
  have q := s a _ e
  cases w with
  | true => obtain ⟨vs, h, r⟩ := q; exact ⟨vs, .inl (.inl h), r⟩
  | false => obtain ⟨o, vs, h, r⟩ := q; exact ⟨vs, .inl (.inr ⟨o, h⟩), r⟩
/-- a new list -/
theorem PLe.newL {P : PD} {Q : VK} {p : Addr} {l : List D} {vs : List V} (h : PLe K H P Q) (s : StoOk K H S) (r : Rps K H l vs) (hp : H p = none) (q : ∀ p, S p = none → P (.ref p) (S.up p (.lst true l))) : Q (.ref p) (upd H p (.lst vs)) :=
  h _ _ (q p (s.free hp)) _ _ (Kp.new hp) (s.new hp ⟨vs, upd_same, Rps.kp (Kp.new hp) _ r⟩) rfl
theorem PLe.newT {P : PD} {Q : VK} {p : Addr} {l : List D} {vs : List V} (h : PLe K H P Q) (s : StoOk K H S) (r : Rps K H l vs) (hp : H p = none) (q : P (.tup l) S) : Q (.ref p) (upd H p (.tup vs)) :=
  h _ _ q _ _ (Kp.new hp) (s.sm (Sm.new hp)) ⟨p, vs, rfl, .inl (.inl upd_same), Rps.kp (Kp.new hp) _ r⟩
theorem op_fdivA : OpR X (binaryOp .FloorDiv) (rI (fun _ j => DivOk j) fun i j => .int (i.fdiv j)) := opI fun i j _ _ _ _ _ hc q => floordiv_int hc.1 q (.inl (PyProof.noPylong_of_log2 hc.2))
theorem op_mulA : OpR X (binaryOp .Mult) (rI IntMulOk fun i j => .int (i * j)) := opI fun _ _ _ _ _ _ _ hc q => mul_int q hc
/-- two lists, read -/
def rCatL (K : PySem.W.Frag) : R2 := fun x y H Q => ∃ l b xs zs, x = .ref l ∧ y = .ref b ∧ SqL K H l xs ∧ SqL K H b zs ∧ xs.length + zs.length ≤ sizeLine ∧ ∀ p, H p = none → Q (.ref p) (upd H p (.lst (xs ++ zs)))
end
section
variable {X : Cx} {K : PySem.W.Frag} {H : Hp} {S : Sto}
theorem op_catL : OpR X (binaryOp .Add) (rCatL X.K) := by
  intro pins s σ H x y v u Q I rx ry h
  obtain ⟨l, b, xs, zs, rfl, rfl, hH, hB, hz, q⟩ := h
  cases rx
  cases ry
  obtain ⟨its, r, ⟨⟨c1, d1, dt1, sl1⟩, n, e, hc, hd, hdt⟩, _⟩ := I.list hH
  obtain ⟨its2, r2, ⟨⟨c2, d2, dt2, sl2⟩, n2, e2, hc2, hd2, hdt2⟩, _⟩ := I.list hB
  simp only at hc hd hdt hc2 hd2 hdt2
  subst hc hd hdt hc2 hd2 hdt2
  have hl := r.length
  have hl2 := r2.length
  have ea : its.toArray ++ its2.toArray = (its ++ its2).toArray := by simp
  refine concat_meets ⟨_, e, rfl⟩ ⟨_, e2, rfl⟩ noFill_list_add seq_list_add PySem.F.slot_list_add PySem.F.entry_list_add (PySem.F.args_list_add_2 _ _) (list_addW l b its.toArray its2.toArray n n2 none none sl1 sl2 (by rw [List.size_toArray, List.size_toArray]; omega)) ⟨e, e2, ?_⟩
  rw [ea]
  exact ⟨.ref _, _, I.lnew (t' := s.toks) (r.append r2) (by rw [List.length_append]; omega), rfl, q _ I.fresh⟩
def rAddA (K : PySem.W.Frag) : R2 := fun x y H Q => rI0 (fun i j => .int (i + j)) x y H Q ∨ (∃ i j, x = .str i ∧ y = .str j ∧ i.length + j.length ≤ sizeLine ∧ Q (.str (i ++ j)) H) ∨ rCatA K x y H Q ∨ rCatL K x y H Q
theorem opr_add : OpR X (binaryOp .Add) (rAddA X.K) := op_add.or (op_add_str.or (op_catA.or op_catL))
theorem Rps.nil_iff {l : List D} {vs : List V} (r : Rps K H l vs) : vs = [] ↔ l = [] := by
  have := r.length
  cases vs <;> cases l <;> simp_all
theorem abs_add : OpAbs K (rAddA K) (opS .Add) := by
  intro x y S P h H v w Q s rx ry pl
  cases x <;> cases y <;> (try exact (show False from h).elim)
  · cases rx; cases ry
    exact .inl ⟨_, _, rfl, rfl, pl.now h s rfl⟩
  · cases rx; cases ry
    exact .inr (.inl ⟨_, _, rfl, rfl, h.1, pl.now h.2 s rfl⟩)
  · rename_i a b
    cases rx; cases ry
    have h' : (match S a, S b with
      | some (.lst _ l), some (.lst _ m) => l.length + m.length ≤ sizeLine ∧ ∀ p, S p = none → P (.ref p) (S.up p (.lst true (l ++ m)))
      | _, _ => False) := h
    split at h'
    · rename_i w1 l w2 m e1 e2
      obtain ⟨vs, q1, r1⟩ := s.rd e1
      obtain ⟨us, q2, r2⟩ := s.rd e2
      have z1 := r1.length
      have z2 := r2.length
      exact .inr (.inr (.inr ⟨a, b, vs, us, rfl, rfl, q1, q2, by omega, fun p hp => pl.newL s (r1.append r2) hp h'.2⟩))
    · exact h'.elim
  · obtain ⟨a, vs, rfl, q1, r1⟩ := rx
    obtain ⟨b, us, rfl, q2, r2⟩ := ry
    obtain ⟨h2, h4⟩ := h
    have z1 := r1.length
    have z2 := r2.length
    refine .inr (.inr (.inl ⟨a, b, vs, us, rfl, rfl, q1, q2, by omega, fun z => ?_, fun _ z => ?_, fun _ _ p hp => pl.newT s (r1.append r2) hp h4⟩))
    · rw [r1.nil_iff.mp z, List.nil_append] at h4
      exact pl.now h4 s ⟨b, us, rfl, q2, r2⟩
    · rw [r2.nil_iff.mp z, List.append_nil] at h4
      exact pl.now h4 s ⟨a, vs, rfl, q1, r1⟩
theorem abs_int {C : Int → Int → Prop} {g : Int → Int → D} {gv : Int → Int → V} (hg : ∀ i j H, Rp K H (g i j) (gv i j)) {a : D → D → Sto → PD → Prop} (ha : ∀ x y S P, a x y S P → ∃ i j, x = .int i ∧ y = .int j ∧ C i j ∧ P (g i j) S) : OpAbs K (rI C gv) a := by
  intro x y S P h H v w Q s rx ry pl
  obtain ⟨i, j, rfl, rfl, c, q⟩ := ha x y S P h
  cases rx; cases ry
  exact ⟨i, j, rfl, rfl, c, pl.now q s (hg i j H)⟩
theorem abs_int0 {g : Int → Int → D} {gv : Int → Int → V} (hg : ∀ i j H, Rp K H (g i j) (gv i j)) {a : D → D → Sto → PD → Prop} (ha : ∀ x y S P, a x y S P → ∃ i j, x = .int i ∧ y = .int j ∧ P (g i j) S) : OpAbs K (rI0 gv) a := by
  intro x y S P h H v w Q s rx ry pl
  obtain ⟨i, j, rfl, rfl, q⟩ := ha x y S P h
  cases rx; cases ry
  exact ⟨i, j, rfl, rfl, pl.now q s (hg i j H)⟩
theorem Rps.rep {l : List D} {vs : List V} (r : Rps K H l vs) : ∀ n, Rps K H (List.replicate n l).flatten (List.replicate n vs).flatten
  | 0 => rfl
  | n + 1 => by
    rw [List.replicate_succ, List.replicate_succ, List.flatten_cons, List.flatten_cons]
    exact r.append (Rps.rep r n)
theorem abs_mul : OpAbs K (fun x y H Q => rI IntMulOk (fun i j => .int (i * j)) x y H Q ∨ rRep x y H Q) (opS .Mult) := by
  intro x y S P h H v w Q s rx ry pl
  cases x <;> cases y <;> (try exact (show False from h).elim)
  · cases rx; cases ry
    exact .inl ⟨_, _, rfl, rfl, h.1, pl.now h.2 s rfl⟩
  · rename_i a k
    cases rx; cases ry
    have h' : (match S a with
      | some (.lst true l) => (-(2 ^ 63) ≤ k ∧ k < 2 ^ 63 ∧ l.length * k.toNat ≤ sizeLine) ∧ ∀ p, S p = none → P (.ref p) (S.up p (.lst true (List.replicate k.toNat l).flatten))
      | _ => False) := h
    split at h'
    · rename_i l e1
      obtain ⟨vs, q1, r1⟩ := s a _ e1
      have z1 := r1.length
      exact .inr ⟨a, k, vs, rfl, rfl, q1, h'.1.1, h'.1.2.1, by rw [z1]; exact h'.1.2.2, fun p hp => pl.newL s (r1.rep _) hp h'.2⟩
    · exact h'.elim
/-- every operator that opS serves -/
theorem op_all (o : Operator) : ∃ r, OpR X (binaryOp o) r ∧ OpAbs X.K r (opS o) := by
  cases o
  case Add => exact ⟨_, opr_add, abs_add⟩
  case Sub => exact ⟨_, op_sub, abs_int0 (g := fun i j => .int (i - j)) (fun _ _ _ => rfl) fun x y S P h => by cases x <;> cases y <;> first | exact (show False from h).elim | exact ⟨_, _, rfl, rfl, h⟩⟩
  case Mult => exact ⟨_, op_mulA.or op_rep, abs_mul⟩
  case FloorDiv => exact ⟨_, op_fdivA, abs_int (g := fun i j => .int (i.fdiv j)) (fun _ _ _ => rfl) fun x y S P h => by cases x <;> cases y <;> first | exact (show False from h).elim | exact ⟨_, _, rfl, rfl, h⟩⟩
  case Mod => exact ⟨_, op_modN, abs_int (g := fun i j => .int (i.fmod j)) (fun _ _ _ => rfl) fun x y S P h => by cases x <;> cases y <;> first | exact (show False from h).elim | exact ⟨_, _, rfl, rfl, h⟩⟩
  case Pow => exact ⟨_, op_pow, abs_int (g := fun i j => .int (i ^ j.toNat)) (fun _ _ _ => rfl) fun x y S P h => by cases x <;> cases y <;> first | exact (show False from h).elim | exact ⟨_, _, rfl, rfl, h⟩⟩
  all_goals exact ⟨fun _ _ _ _ => False, fun _ _ _ _ _ _ _ _ _ _ _ _ h => h.elim, fun x y S P h => (show False from by cases x <;> cases y <;> exact h).elim⟩
end
/-! ### == over the store -/
section
variable {K : PySem.W.Frag} {H : Hp} {S : Sto}
mutual
theorem pdW_dp {g : Addr → Option PyData} (hg : ∀ a p, g a = some p → Dp K H (.ref a) p) : ∀ (d : D) (n : Nat) (v : V) (p : PyData), pdW g n d = some p → Rp K H d v → Dp K H v p
  | .non, _, _, _, e, r => by cases r; simp only [pdW, Option.some.injEq] at e; subst e; exact .non
  | .bl b, _, _, _, e, r => by cases r; simp only [pdW, Option.some.injEq] at e; subst e; exact .bl b
  | .int i, _, _, _, e, r => by cases r; simp only [pdW, Option.some.injEq] at e; subst e; exact .int i
  | .str x, _, _, _, e, r => by
    cases r; simp only [pdW] at e
    split at e
    · simp only [Option.some.injEq] at e; subst e; exact .str x
    · cases e
  | .ty _, _, _, _, e, _ => by simp [pdW] at e
  | .ref a, _, _, _, e, r => by cases r; simp only [pdW] at e; exact hg a _ e
  | .tup l, 0, _, _, e, _ => by simp [pdW] at e
  | .tup l, n + 1, _, _, e, r => by
    simp only [pdW] at e
    obtain ⟨a, vs, rfl, q, rs⟩ := r
    cases z : pdWs g n l with
    | none => rw [z] at e; cases e
    | some ps =>
      rw [z] at e
      simp only [Option.some.injEq] at e
      subst e
      exact .tup q (pdWs_dp hg l n vs ps z rs)
theorem pdWs_dp {g : Addr → Option PyData} (hg : ∀ a p, g a = some p → Dp K H (.ref a) p) : ∀ (ds : List D) (n : Nat) (vs : List V) (ps : List PyData), pdWs g n ds = some ps → Rps K H ds vs → DpAll K H vs ps
  | [], _, _, _, e, r => by rw [show _ = _ from r]; simp only [pdWs, Option.some.injEq] at e; subst e; exact .nil
  | d :: ds, n, _, _, e, r => by
    obtain ⟨v, vr, rfl, r1, r2⟩ := r
    simp only [pdWs] at e
    cases z1 : pdW g n d with
    | none => rw [z1] at e; simp at e
    | some p =>
      cases z2 : pdWs g n ds with
      | none => rw [z1, z2] at e; simp at e
      | some ps =>
        rw [z1, z2] at e
        simp only [Option.some.injEq] at e
        subst e
        exact .cons (pdW_dp hg d n v p z1 r1) (pdWs_dp hg ds n vr ps z2 r2)
end
theorem gL_dp (s : StoOk K H S) : ∀ (n : Nat) (a : Addr) (p : PyData), gL S n a = some p → Dp K H (.ref a) p
  | 0, _, _, e => by simp [gL] at e
  | n + 1, a, p, e => by
    simp only [gL] at e
    cases q : S a with
    | none => rw [q] at e; cases e
    | some o =>
      rw [q] at e
      cases o with
      | exc k f => cases e
      | lst w l =>
        dsimp only at e
        cases z : pdWs (gL S n) 12 l with
        | none => rw [z] at e; cases e
        | some ps =>
          rw [z] at e
          simp only [Option.some.injEq] at e
          subst e
          obtain ⟨vs, q1, r1⟩ := s.rd q
          exact .lst q1 (pdWs_dp (gL_dp s n) l 12 vs ps z r1)
mutual
theorem pdW_sh {g : Addr → Option PyData} {m : Nat} (hg : ∀ a p, g a = some p → p.canLay0 = true ∧ p.depth ≤ m) : ∀ (d : D) (n : Nat) (p : PyData), pdW g n d = some p → p.canLay0 = true ∧ p.depth ≤ n + m
  | .non, _, _, e => by simp only [pdW, Option.some.injEq] at e; subst e; simp [PyData.canLay0, PyData.depth]
  | .bl b, _, _, e => by simp only [pdW, Option.some.injEq] at e; subst e; simp [PyData.canLay0, PyData.depth]
  | .int i, _, _, e => by simp only [pdW, Option.some.injEq] at e; subst e; simp [PyData.canLay0, PyData.depth]
  | .str x, _, _, e => by
    simp only [pdW] at e
    split at e
    · rename_i hs
      simp only [Option.some.injEq] at e; subst e; simp [PyData.canLay0, PyData.depth, hs]
    · cases e
  | .ty _, _, _, e => by simp [pdW] at e
  | .ref a, n, p, e => by
    simp only [pdW] at e
    have := hg a p e
    exact ⟨this.1, by omega⟩
  | .tup l, 0, _, e => by simp [pdW] at e
  | .tup l, n + 1, _, e => by
    simp only [pdW] at e
    cases z : pdWs g n l with
    | none => rw [z] at e; cases e
    | some ps =>
      rw [z] at e
      simp only [Option.some.injEq] at e
      subst e
      have q := pdWs_sh hg l n ps z
      exact ⟨by simp only [PyData.canLay0]; exact q.1, by simp only [PyData.depth]; omega⟩
theorem pdWs_sh {g : Addr → Option PyData} {m : Nat} (hg : ∀ a p, g a = some p → p.canLay0 = true ∧ p.depth ≤ m) : ∀ (ds : List D) (n : Nat) (ps : List PyData), pdWs g n ds = some ps → PyData.canLayAll0 ps = true ∧ PyData.depthAll ps ≤ n + m
  | [], _, _, e => by simp only [pdWs, Option.some.injEq] at e; subst e; simp [PyData.canLayAll0, PyData.depthAll]
  | d :: ds, n, _, e => by
    simp only [pdWs] at e
    cases z1 : pdW g n d with
    | none => rw [z1] at e; simp at e
    | some p =>
      cases z2 : pdWs g n ds with
      | none => rw [z1, z2] at e; simp at e
      | some ps =>
        rw [z1, z2] at e
        simp only [Option.some.injEq] at e
        subst e
        have q1 := pdW_sh hg d n p z1
        have q2 := pdWs_sh hg ds n ps z2
        refine ⟨by simp [PyData.canLayAll0, q1.1, q2.1], ?_⟩
        simp only [PyData.depthAll]
        omega
end
theorem gL_sh : ∀ (n : Nat) (a : Addr) (p : PyData), gL S n a = some p → p.canLay0 = true ∧ p.depth ≤ 13 * n
  | 0, _, _, e => by simp [gL] at e
  | n + 1, a, p, e => by
    simp only [gL] at e
    cases q : S a with
    | none => rw [q] at e; cases e
    | some o =>
      rw [q] at e
      cases o with
      | exc k f => cases e
      | lst w l =>
        dsimp only at e
        cases z : pdWs (gL S n) 12 l with
        | none => rw [z] at e; cases e
        | some ps =>
          rw [z] at e
          simp only [Option.some.injEq] at e
          subst e
          have q := pdWs_sh (gL_sh n) l 12 ps z
          exact ⟨by simp only [PyData.canLay0]; exact q.1, by simp only [PyData.depth]; omega⟩
theorem pdS_dp (s : StoOk K H S) {d : D} {v : V} {p : PyData} (e : pdS S d = some p) (r : Rp K H d v) : Dp K H v p := pdW_dp (gL_dp s 3) d 12 v p e r
theorem pdS_sh {d : D} {p : PyData} (e : pdS S d = some p) : SeqAt.shaped p = true := by
  have q := pdW_sh (m := 39) (fun a p e => by have := gL_sh 3 a p e; exact ⟨this.1, by omega⟩) d 12 p e
  unfold SeqAt.shaped
  rw [q.1, Bool.true_and]
  exact decide_eq_true (by omega)
end
end Sd
namespace Sd
open PySem PySem.Spec PyProof.Rows L2
section
variable {X : Cx} {K : PySem.W.Frag} {H : Hp} {S : Sto}
theorem abs_or {r r' : R2} {a : D → D → Sto → PD → Prop} (h : ∀ x y S P, a x y S P → ∀ H v w Q, StoOk K H S → Rp K H x v → Rp K H y w → PLe K H P Q → r v w H Q ∨ r' v w H Q) : OpAbs K (fun x y H Q => r x y H Q ∨ r' x y H Q) a := h
theorem eq_pd {x y : D} {P : PD} {f : Bool → Bool} {k : Bool} (h : match pdS S x, pdS S y with
    | some p, some q => P (.bl (f (PyData.eqv p q))) S
    | _, _ => lenS k x y S P) : (∃ p q, pdS S x = some p ∧ pdS S y = some q ∧ P (.bl (f (PyData.eqv p q))) S) ∨ lenS k x y S P := by
  split at h
  · rename_i p q e1 e2
    exact .inl ⟨p, q, e1, e2, h⟩
  · exact .inr h
theorem cmpS_eq {x y : D} {P : PD} (h : cmpS .Eq x y S P) : (∃ p q, pdS S x = some p ∧ pdS S y = some q ∧ P (.bl (PyData.eqv p q)) S) ∨ lenS false x y S P := by
  by_cases hi : ∃ i j, x = .int i ∧ y = .int j
  · obtain ⟨i, j, rfl, rfl⟩ := hi
    have h' : P (.bl (decide (i = j))) S := h
    refine .inl ⟨.int i, .int j, rfl, rfl, ?_⟩
    have e : PyData.eqv (.int i) (.int j) = decide (i = j) := by
      simp only [PyData.eqv]
      by_cases z : i = j <;> simp [z]
    rw [e]; exact h'
  · have h' : match pdS S x, pdS S y with
      | some p, some q => P (.bl (PyData.eqv p q)) S
      | _, _ => lenS false x y S P := by
      cases x <;> cases y <;> first | exact h | exact (hi ⟨_, _, rfl, rfl⟩).elim
    exact eq_pd (f := id) h'
theorem cmpS_ne {x y : D} {P : PD} (h : cmpS .NotEq x y S P) : (∃ p q, pdS S x = some p ∧ pdS S y = some q ∧ P (.bl (!PyData.eqv p q)) S) ∨ lenS true x y S P := by
  by_cases hi : ∃ i j, x = .int i ∧ y = .int j
  · obtain ⟨i, j, rfl, rfl⟩ := hi
    have h' : P (.bl (!decide (i = j))) S := h
    refine .inl ⟨.int i, .int j, rfl, rfl, ?_⟩
    have e : PyData.eqv (.int i) (.int j) = decide (i = j) := by
      simp only [PyData.eqv]
      by_cases z : i = j <;> simp [z]
    rw [e]; exact h'
  · have h' : match pdS S x, pdS S y with
      | some p, some q => P (.bl (!PyData.eqv p q)) S
      | _, _ => lenS true x y S P := by
      cases x <;> cases y <;> first | exact h | exact (hi ⟨_, _, rfl, rfl⟩).elim
    exact eq_pd (f := fun b => !b) h'
/-- lists of unlike lengths, held against each other -/
def rLenE (K : PySem.W.Frag) (b : Bool) : R2 := fun x y H Q => ∃ l c xs ys, x = .ref l ∧ y = .ref c ∧ SqL K H l xs ∧ SqL K H c ys ∧ xs.length ≠ ys.length ∧ Q (.bl b) H
theorem op_lenEq (hu : X.A.units < cLine) : OpR X (compareOp .Eq) (rLenE X.K false) := by
  intro pins s σ H x y v u Q I rx ry h
  obtain ⟨l, c, xs, ys, rfl, rfl, h1, h2, hn, q⟩ := h
  cases rx
  cases ry
  obtain ⟨its, r1, p1, _⟩ := I.list h1
  obtain ⟨its2, r2, p2, _⟩ := I.list h2
  refine SeqAt.RcAt.lists_lengths p1.isList p2.isList ?_ hu _ _ _ _ ⟨.bl false, H, I, rfl, q⟩
  rw [List.size_toArray, List.size_toArray, ← r1.length, ← r2.length]
  exact bne_iff_ne.mpr hn
theorem op_lenNe (hu : X.A.units < cLine) : OpR X (compareOp .NotEq) (rLenE X.K true) := by
  intro pins s σ H x y v u Q I rx ry h
  obtain ⟨l, c, xs, ys, rfl, rfl, h1, h2, hn, q⟩ := h
  cases rx
  cases ry
  obtain ⟨its, r1, p1, _⟩ := I.list h1
  obtain ⟨its2, r2, p2, _⟩ := I.list h2
  refine SeqAt.RcNeAt.lists_lengths p1.isList p2.isList ?_ hu _ _ _ _ ⟨.bl true, H, I, rfl, q⟩
  rw [List.size_toArray, List.size_toArray, ← r1.length, ← r2.length]
  exact bne_iff_ne.mpr hn
theorem len_abs {x y : D} {P : PD} {Q : VK} {v w : V} {b : Bool} (h : lenS b x y S P) (s : StoOk K H S) (rx : Rp K H x v) (ry : Rp K H y w) (pl : PLe K H P Q) : rLenE K b v w H Q := by
  cases x <;> (try exact (show False from h).elim)
  cases y <;> (try exact (show False from h).elim)
  rename_i a c
  cases rx
  cases ry
  have h' : (match S a, S c with
    | some (.lst _ l), some (.lst _ m) => l.length ≠ m.length ∧ P (.bl b) S
    | _, _ => False) := h
  split at h'
  · rename_i w1 l w2 m e1 e2
    obtain ⟨vs, q1, r1⟩ := s.rd e1
    obtain ⟨us, q2, r2⟩ := s.rd e2
    exact ⟨a, c, vs, us, rfl, rfl, q1, q2, by rw [r1.length, r2.length]; exact h'.1, pl.now h'.2 s rfl⟩
  · exact h'.elim
theorem rp_non {d : D} {v : V} (r : Rp K H d v) : decide (v = .non) = isNo d := by
  cases d with
  | non => cases r; rfl
  | tup l => obtain ⟨a, vs, rfl, _⟩ := r; rfl
  | _ => cases r; rfl
/-- the value of flat data -/
def flVal : D → V
  | .bl b => .bl b
  | .int i => .int i
  | .str s => .str s
  | _ => .non
theorem fl_rp {d : D} {v : V} (r : Rp K H d v) (h : flD d = true) : v = flVal d ∧ flatV v = true := by
  cases d <;> (try (cases h; done)) <;> (cases r; exact ⟨rfl, rfl⟩)
theorem fl_rps : ∀ {l : List D} {vs : List V}, Rps K H l vs → l.all flD = true → vs = l.map flVal ∧ vs.all flatV = true
  | [], vs, r, _ => by
    cases (show vs = [] from r)
    exact ⟨rfl, rfl⟩
  | d :: l, vs, r, h => by
    obtain ⟨v, vr, rfl, r1, r2⟩ := r
    rw [List.all_cons, Bool.and_eq_true] at h
    obtain ⟨e1, f1⟩ := fl_rp r1 h.1
    obtain ⟨e2, f2⟩ := fl_rps r2 h.2
    exact ⟨by rw [e1, e2]; rfl, by rw [List.all_cons, f1, f2]; rfl⟩
theorem eq_fl {d e : D} (h1 : flD d = true) (h2 : flD e = true) : eqV (flVal d) (flVal e) = eqFl d e := by
  cases d <;> (try (cases h1; done)) <;> cases e <;> (try (cases h2; done)) <;> rfl
theorem in_fl {x : D} (hx : flD x = true) : ∀ {l : List D}, l.all flD = true → inV (flVal x) (l.map flVal) = inFl x l
  | [], _ => rfl
  | d :: l, h => by
    rw [List.all_cons, Bool.and_eq_true] at h
    have ih := in_fl hx h.2
    unfold inV inFl at ih ⊢
    rw [List.map_cons, List.any_cons, List.any_cons, ih, eq_fl h.1 hx]
theorem cmp_all (hu : X.A.units + 65 < cLine) (o : CmpOp) : ∃ r, OpR X (compareOp o) r ∧ OpAbs X.K r (cmpS o) := by
  cases o
  case Lt => exact ⟨_, op_lt, abs_int0 (g := fun i j => .bl (decide (i < j))) (fun _ _ _ => rfl) fun x y S P h => by cases x <;> cases y <;> first | exact (show False from h).elim | exact ⟨_, _, rfl, rfl, h⟩⟩
  case LtE => exact ⟨_, op_le, abs_int0 (g := fun i j => .bl (decide (i ≤ j))) (fun _ _ _ => rfl) fun x y S P h => by cases x <;> cases y <;> first | exact (show False from h).elim | exact ⟨_, _, rfl, rfl, h⟩⟩
  case Gt => exact ⟨_, op_gt, abs_int0 (g := fun i j => .bl (decide (j < i))) (fun _ _ _ => rfl) fun x y S P h => by cases x <;> cases y <;> first | exact (show False from h).elim | exact ⟨_, _, rfl, rfl, h⟩⟩
  case GtE => exact ⟨_, op_ge, abs_int0 (g := fun i j => .bl (decide (j ≤ i))) (fun _ _ _ => rfl) fun x y S P h => by cases x <;> cases y <;> first | exact (show False from h).elim | exact ⟨_, _, rfl, rfl, h⟩⟩
  case Eq =>
    refine ⟨_, (op_eqD (by omega)).or (op_lenEq (by omega)), fun x y S P h H v w Q s rx ry pl => ?_⟩
    rcases cmpS_eq h with ⟨p, q, e1, e2, h⟩ | h
    · exact .inl ⟨p, q, pdS_dp s e1 rx, pdS_dp s e2 ry, pdS_sh e1, pdS_sh e2, pl.now h s rfl⟩
    · exact .inr (len_abs h s rx ry pl)
  case NotEq =>
    refine ⟨_, (op_neD (by omega)).or (op_lenNe (by omega)), fun x y S P h H v w Q s rx ry pl => ?_⟩
    rcases cmpS_ne h with ⟨p, q, e1, e2, h⟩ | h
    · exact .inl ⟨p, q, pdS_dp s e1 rx, pdS_dp s e2 ry, pdS_sh e1, pdS_sh e2, pl.now h s rfl⟩
    · exact .inr (len_abs h s rx ry pl)
  case Is =>
    refine ⟨_, op_isN.or op_isBl, fun x y S P h H v w Q s rx ry pl => ?_⟩
    cases y <;> (try (cases x <;> exact (show False from h).elim))
    · cases ry
      have h' : P (.bl (isNo x)) S := by cases x <;> exact h
      exact .inl ⟨rfl, by rw [rp_non rx]; exact pl.now h' s rfl⟩
    · cases x <;> (try exact (show False from h).elim)
      cases rx; cases ry
      exact .inr ⟨_, _, rfl, rfl, pl.now h s rfl⟩
  case IsNot =>
    refine ⟨_, op_notN.or op_notBl, fun x y S P h H v w Q s rx ry pl => ?_⟩
    cases y <;> (try (cases x <;> exact (show False from h).elim))
    · cases ry
      have h' : P (.bl (!isNo x)) S := by cases x <;> exact h
      exact .inl ⟨rfl, by rw [rp_non rx]; exact pl.now h' s rfl⟩
    · cases x <;> (try exact (show False from h).elim)
      cases rx; cases ry
      exact .inr ⟨_, _, rfl, rfl, pl.now h s rfl⟩
  case In =>
    refine ⟨_, (op_inD hu).or op_in_seq, fun x y S P h H v w Q s rx ry pl => ?_⟩
    cases y <;> (try (cases x <;> exact (show False from h).elim))
    · rename_i a
      have h' : match pdS S x, pdS S (.ref a) with
        | some p, some (.list ps) => P (.bl (anyEq p ps)) S
        | _, _ => False := by cases x <;> exact h
      split at h'
      · rename_i p ps e1 e2
        exact .inl ⟨p, ps, pdS_dp s e1 rx, pdS_dp s e2 ry, pdS_sh e1, pdS_sh e2, pl.now h' s rfl⟩
      · exact h'.elim
    · rename_i l
      obtain ⟨h1, h2, h3⟩ : flD x = true ∧ l.all flD = true ∧ P (.bl (inFl x l)) S := by cases x <;> exact h
      obtain ⟨p, vs, rfl, q, rs⟩ := ry
      obtain ⟨e1, f1⟩ := fl_rp rx h1
      obtain ⟨e2, f2⟩ := fl_rps rs h2
      refine .inr ⟨p, vs, rfl, .inr q, f1, f2, ?_⟩
      rw [e1, e2, in_fl h1 h2]
      exact pl.now h3 s rfl
  case NotIn =>
    refine ⟨_, (op_notInD hu).or op_notIn_seq, fun x y S P h H v w Q s rx ry pl => ?_⟩
    cases y <;> (try (cases x <;> exact (show False from h).elim))
    · rename_i a
      have h' : match pdS S x, pdS S (.ref a) with
        | some p, some (.list ps) => P (.bl (!anyEq p ps)) S
        | _, _ => False := by cases x <;> exact h
      split at h'
      · rename_i p ps e1 e2
        exact .inl ⟨p, ps, pdS_dp s e1 rx, pdS_dp s e2 ry, pdS_sh e1, pdS_sh e2, pl.now h' s rfl⟩
      · exact h'.elim
    · rename_i l
      obtain ⟨h1, h2, h3⟩ : flD x = true ∧ l.all flD = true ∧ P (.bl (!inFl x l)) S := by cases x <;> exact h
      obtain ⟨p, vs, rfl, q, rs⟩ := ry
      obtain ⟨e1, f1⟩ := fl_rp rx h1
      obtain ⟨e2, f2⟩ := fl_rps rs h2
      refine .inr ⟨p, vs, rfl, .inr q, f1, f2, ?_⟩
      rw [e1, e2, in_fl h1 h2]
      exact pl.now h3 s rfl
theorem tru_abs {d : D} {v : V} {b : Bool} (s : StoOk K H S) (r : Rp K H d v) (e : truB S d = some b) : TruV K v H b := by
  cases d with
  | non => cases r; exact (Option.some.inj e).symm
  | bl c => cases r; exact (Option.some.inj e).symm
  | int i => cases r; exact (Option.some.inj e).symm
  | str x =>
    cases r
    simp only [truB] at e
    split at e
    · rename_i hx
      have e' := Option.some.inj e
      refine ⟨hx, ?_⟩
      rw [← e']
      cases x.length with
      | zero => rfl
      | succ n => simp [bne]; omega
    · cases e
  | tup l =>
    obtain ⟨a, vs, rfl, q, rs⟩ := r
    refine .inr (.inl ⟨vs, q, ?_⟩)
    rw [← Option.some.inj e]
    have := rs.length
    cases l <;> cases vs <;> simp_all
  | ref a =>
    cases r
    simp only [truB] at e
    cases q : S a with
    | none => rw [q] at e; cases e
    | some o =>
      rw [q] at e
      cases o with
      | exc k f => cases e
      | lst w l =>
        obtain ⟨vs, q1, r1⟩ := s.rd q
        refine .inl ⟨vs, q1, ?_⟩
        rw [← Option.some.inj e]
        have := r1.length
        cases l <;> cases vs <;> simp_all
  | ty n => cases e
theorem atI_rps {l : List D} {vs : List V} {i : Int} {d : D} (r : Rps K H l vs) (e : atI l i = some d) : ∃ v, atI vs i = some v ∧ Rp K H d v := by
  have hl := r.length
  unfold atI at e ⊢
  rw [hl]
  cases q : ixN l.length i with
  | none => rw [q] at e; cases e
  | some j =>
    rw [q] at e
    have e' : l[j]? = some d := e
    obtain ⟨v, h1, h2⟩ := r.get e'
    exact ⟨v, h1, h2⟩
theorem ix_abs : OpAbs K (rIx K) ixS := by
  intro x y S P h H v w Q s rx ry pl
  cases x <;> cases y <;> (try exact (show False from h).elim)
  · rename_i z i
    cases rx; cases ry
    obtain ⟨h1, h2⟩ := (show z.length ≤ sizeLine ∧ (match atI z.cps.toList i with
      | some c => P (.str ⟨#[c]⟩) S
      | none => False) from h)
    split at h2
    · rename_i c e
      exact .inr (.inr ⟨z, i, c, rfl, rfl, h1, e, pl.now h2 s rfl⟩)
    · exact h2.elim
  · rename_i a i
    cases rx; cases ry
    have h' : (match S a with
      | some (.lst _ l) => (match atI l i with
        | some d => P d S
        | none => False)
      | _ => False) := h
    split at h'
    · rename_i w1 l e
      obtain ⟨vs, q1, r1⟩ := s.rd e
      split at h'
      · rename_i d e2
        obtain ⟨u, e3, r3⟩ := atI_rps r1 e2
        exact .inl ⟨a, vs, i, u, rfl, rfl, q1, e3, pl.now h' s r3⟩
      · exact h'.elim
    · exact h'.elim
  · rename_i l i
    cases ry
    obtain ⟨a, vs, rfl, q1, r1⟩ := rx
    have h' : (match atI l i with
      | some d => P d S
      | none => False) := h
    split at h'
    · rename_i d e2
      obtain ⟨u, e3, r3⟩ := atI_rps r1 e2
      exact .inr (.inl ⟨a, vs, i, u, rfl, rfl, q1, e3, pl.now h' s r3⟩)
    · exact h'.elim
theorem cut_rps {l : List D} {vs : List V} (r : Rps K H l vs) (lo hi : Option Int) : Rps K H (cutD l lo hi) (cutV vs lo hi) := by
  unfold cutD cutV
  rw [r.length]
  exact (r.drop _).take _
end
end Sd
namespace Sd
open PySem PySem.Spec PyProof.Rows L2
/-- built-in functions by values -/
inductive BI where
  | abs | len | int | min2 | max2 | min1 | max1 | sum | all | any | list | tuple | str | sorted
  deriving DecidableEq
/-- classes that isinstance asks: a built-in one, one of the text's -/
inductive TyN where
  | bt (n : String)
  | cl (k : Nat)
  deriving DecidableEq
/-- methods of lists -/
inductive ME where
  | append | pop0 | pop1 | reverse | clear | extend | insert
  deriving DecidableEq
mutual
/-- expressions -/
inductive X where
  | var (i : Nat)
  | c (d : D)
  | g (k : Nat)
  | op (o : Operator) (a b : X)
  | cmp (o : CmpOp) (a b : X)
  | chain (o o' : CmpOp) (a b c : X)
  | neg (a : X)
  | no (a : X)
  | an (a b : X)
  | ro (a b : X)
  | ite (t a b : X)
  | tp (es : List X)
  | ls (es : List X)
  | ix (a i : X)
  | sl (a lo hi : X)
  | st (a : X) (lo : Option Int) (k : Int)
  | aI (a : X)
  | fn (k : Nat) (es : List X)
  | bi (b : BI) (es : List X)
  | isi (a : X) (ts : List TyN)
  | me (m : ME) (o : X) (es : List X)
  | fld (f : Str) (o : X)
  | lc (e : X) (t : T) (it : I) (cond : X) (own : List Nat)
/-- targets -/
inductive T where
  | nm (i : Nat)
  | tp (ts : List T)
  | ix (o i : X)
/-- what is walked -/
inductive I where
  | e (x : X)
  | rng1 (b : X)
  | rng2 (a b : X)
  | zip (a b : X)
end
/-- statements -/
inductive Z where
  | asg (t : T) (e : X)
  | aug (i : Nat) (o : Operator) (e : X)
  | ex (e : X)
  | ret (e : X)
  | iff (t : X) (a b : List Z)
  | whl (t : X) (b : List Z)
  | for_ (t : T) (it : I) (b : List Z)
  | rz (k : Nat)
  | rzf (k : Nat) (e : X)
  | tr (b : List Z) (k n y : Nat)
  | tr2 (b : List Z) (k n y z : Nat)
  | pass | cont | brk
/-- the contracts of the text's defs (by number; how many arguments), the module's constants -/
structure Gam where
  ar : Nat → Nat
  fn : Nat → Con
  cst : Nat → Option D
/-! ### semantics -/
def lk : DSt → Nat → Option D
  | [], _ => none
  | d :: _, 0 => d
  | _ :: r, i + 1 => lk r i
def intL : List D → Option (List Int)
  | [] => some []
  | .int i :: r => (match intL r with
    | some l => some (i :: l)
    | none => none)
  | _ => none
def boolL : List D → Option (List Bool)
  | [] => some []
  | .bl b :: r => (match boolL r with
    | some l => some (b :: l)
    | none => none)
  | _ => none
/-- a sequence: a list's or a tuple's items -/
def seqD (S : Sto) : D → Option (List D)
  | .tup l => some l
  | .ref a => (match S a with
    | some (.lst _ l) => some l
    | _ => none)
  | _ => none
def lstD (S : Sto) : D → Option (List D)
  | .ref a => (match S a with
    | some (.lst _ l) => some l
    | _ => none)
  | _ => none
def biS (b : BI) (ds : List D) (S : Sto) (P : PD) : Prop :=
  match b, ds with
  | .abs, [.int i] => P (.int (if i < 0 then -i else i)) S
  | .int, [.int i] => P (.int i) S
  | .int, [.bl k] => P (.int (if k then 1 else 0)) S
  | .len, [d] => (match seqD S d with
    | some l => P (.int l.length) S
    | none => (match d with
      | .str z => z.length ≤ sizeLine ∧ P (.int z.length) S
      | _ => False))
  | .min2, [.int i, .int j] => P (.int (if j < i then j else i)) S
  | .max2, [.int i, .int j] => P (.int (if j > i then j else i)) S
  | .sum, [d] => (match lstD S d with
    | some l => (match intL l with
      | some ns => P (.int ns.sum) S
      | none => False)
    | none => False)
  | .min1, [d] => (match lstD S d with
    | some l => (match intL l with
      | some ns => 0 < ns.length ∧ ∀ m, m ∈ ns → (∀ y, y ∈ ns → m ≤ y) → P (.int m) S
      | none => False)
    | none => False)
  | .max1, [d] => (match lstD S d with
    | some l => (match intL l with
      | some ns => 0 < ns.length ∧ ∀ m, m ∈ ns → (∀ y, y ∈ ns → y ≤ m) → P (.int m) S
      | none => False)
    | none => False)
  | .all, [d] => (match lstD S d with
    | some l => (match boolL l with
      | some bs => P (.bl (bs.all id)) S
      | none => False)
    | none => False)
  | .any, [d] => (match lstD S d with
    | some l => (match boolL l with
      | some bs => P (.bl (bs.any id)) S
      | none => False)
    | none => False)
  | .list, [d] => (match seqD S d with
    | some l => ∀ p, S p = none → P (.ref p) (S.up p (.lst true l))
    | none => False)
  | .tuple, [d] => (match seqD S d with
    | some l => P (.tup l) S
    | none => False)
  | .str, [.int i] => i.natAbs.log2 < 1920 ∧ P (.str (toString i)) S
  | .sorted, [d] => (match lstD S d with
    | some l => (match intL l with
      | some ns => ∀ (ns' : List Int) (p : Addr), ns'.Perm ns → ns'.Pairwise (· ≤ ·) → S p = none → P (.ref p) (S.up p (.lst true (ns'.map D.int)))
      | none => False)
    | none => False)
  | _, _ => False
/-- a list of one's own -/
def isL (S : Sto) : D → Prop
  | .ref a => (match S a with
    | some (.lst true _) => True
    | _ => False)
  | _ => False
def meS (m : ME) (o : D) (ds : List D) (S : Sto) (P : PD) : Prop :=
  match o with
  | .ref a => (match S a with
    | some (.lst true l) => (match m, ds with
      | .append, [y] => l.length < sizeLine ∧ P .non (S.up a (.lst true (l ++ [y])))
      | .pop0, [] => (match l[l.length - 1]? with
        | some y => P y (S.up a (.lst true l.dropLast))
        | none => False)
      | .reverse, [] => P .non (S.up a (.lst true l.reverse))
      | .clear, [] => P .non (S.up a (.lst true []))
      | .insert, [.int i, y] => l.length < sizeLine ∧ 0 ≤ i ∧ i < 2 ^ 63 ∧ P .non (S.up a (.lst true (l.take i.toNat ++ [y] ++ l.drop i.toNat)))
      | .extend, [.ref b] => (match S b with
        | some (.lst true m) => l.length + m.length ≤ sizeLine ∧ P .non (S.up a (.lst true (l ++ m)))
        | _ => False)
      | _, _ => False)
    | _ => False)
  | _ => False
/-- the kinds of errors and data -/
def btOf (S : Sto) : D → Option String
  | .non => some "NoneType"
  | .bl _ => some "bool"
  | .int _ => some "int"
  | .str _ => some "str"
  | .tup _ => some "tuple"
  | .ref a => (match S a with
    | some (.lst _ _) => some "list"
    | _ => none)
  | .ty _ => none
/-- what isinstance tells of built-in kinds -/
def btSub (t n : String) : Bool := t == n || (t == "bool" && n == "int")
def isiOne (S : Sto) (d : D) (t : TyN) : Option Bool :=
  match btOf S d with
  | some b => (match t with
    | .bt n => some (btSub b n)
    | .cl _ => some false)
  | none => (match d with
    | .ref a => (match S a with
      | some (.exc k none) => (match t with
        | .bt n => some (n == "ValueError")
        | .cl j => some (subK k j))
      | _ => none)
    | _ => none)
def isiAny (S : Sto) (d : D) : List TyN → Option Bool
  | [] => some false
  | t :: r => (match isiOne S d t with
    | some true => some true
    | some false => isiAny S d r
    | none => none)
/-- where a walk's items come from: a list must stand as it is -/
inductive Src where
  | free
  | lst (a : Addr) (w : Bool) (l : List D)
  | two (a : Addr) (w : Bool) (l : List D) (b : Addr) (v : Bool) (m : List D)
def Src.ok (S : Sto) : Src → Prop
  | .free => True
  | .lst a w l => S a = some (.lst w l)
  | .two a w l b v m => S a = some (.lst w l) ∧ S b = some (.lst v m)
abbrev ATg := D → DSt → Sto → (DSt → Sto → Prop) → AW → Prop
abbrev ATgs := List D → DSt → Sto → (DSt → Sto → Prop) → AW → Prop
abbrev AI := DSt → Sto → (List D → Src → Sto → Prop) → AW → Prop
def aTru (A : AE) : AT := fun ρ S P W => A ρ S (fun d S1 => match truB S1 d with
  | some b => P b S1
  | none => False) W
def wipeD (ρ : DSt) : List Nat → DSt
  | [] => ρ
  | v :: vs => (wipeD ρ vs).set v none
def lcS (t : ATg) (cond : AT) (e : AE) (src : Src) (p : Addr) (ρ : DSt) (Pd : Sto → Prop) : List D → Sto → Prop
  | [], S => src.ok S ∧ Pd S
  | d :: ds, S => src.ok S ∧ t d ρ S (fun ρ1 S1 => cond ρ1 S1 (fun b S2 => if b = true then
      e ρ1 S2 (fun y S3 => match S3 p with
        | some (.lst true acc) => acc.length < sizeLine ∧ lcS t cond e src p ρ Pd ds (S3.up p (.lst true (acc ++ [y])))
        | _ => False) (fun _ _ _ _ => False)
      else lcS t cond e src p ρ Pd ds S2) (fun _ _ _ _ => False)) (fun _ _ _ _ => False)
def partS (d : D) (P : Option Int → Prop) : Prop := match d with
  | .non => P none
  | .int i => P (some i)
  | _ => False
/-- pairs of two rows -/
def zipD (l m : List D) : List D := (l.zip m).map fun p => .tup [p.1, p.2]
def rngItems (lo : Int) (n : Nat) : List D := (List.range n).map fun (i : Nat) => D.int (lo + (i : Int))
section
variable (Γ : Gam)
mutual
def wE : X → AE
  | .var i => fun ρ S P _ => match lk ρ i with
    | some d => P d S
    | none => False
  | .c d => fun _ S P _ => P d S
  | .g k => fun _ S P _ => match Γ.cst k with
    | some d => P d S
    | none => False
  | .op o a b => fun ρ S P W => wE a ρ S (fun x S1 => wE b ρ S1 (fun y S2 => opS o x y S2 P) W) W
  | .cmp o a b => fun ρ S P W => wE a ρ S (fun x S1 => wE b ρ S1 (fun y S2 => cmpS o x y S2 P) W) W
  | .chain o o' a b c => fun ρ S P W => wE a ρ S (fun x S1 => wE b ρ S1 (fun y S2 => cmpS o x y S2 (fun z S3 => match z with
    | .bl true => wE c ρ S3 (fun u S4 => cmpS o' y u S4 P) W
    | .bl false => P (.bl false) S3
    | _ => False)) W) W
  | .neg a => fun ρ S P W => wE a ρ S (fun x S1 => match x with
    | .int i => P (.int (-i)) S1
    | _ => False) W
  | .no a => fun ρ S P W => aTru (wE a) ρ S (fun b S1 => P (.bl (!b)) S1) W
  | .an a b => fun ρ S P W => wE a ρ S (fun x S1 => match truB S1 x with
    | some true => wE b ρ S1 P W
    | some false => P x S1
    | none => False) W
  | .ro a b => fun ρ S P W => wE a ρ S (fun x S1 => match truB S1 x with
    | some true => P x S1
    | some false => wE b ρ S1 P W
    | none => False) W
  | .ite t a b => fun ρ S P W => aTru (wE t) ρ S (fun c S1 => if c = true then wE a ρ S1 P W else wE b ρ S1 P W) W
  | .tp es => fun ρ S P W => wEs es ρ S (fun ds S1 => ds.length ≤ sizeLine ∧ P (.tup ds) S1) W
  | .ls es => fun ρ S P W => wEs es ρ S (fun ds S1 => ds.length ≤ sizeLine ∧ ∀ p, S1 p = none → P (.ref p) (S1.up p (.lst true ds))) W
  | .ix a i => fun ρ S P W => wE a ρ S (fun x S1 => wE i ρ S1 (fun y S2 => ixS x y S2 P) W) W
  | .sl a lo hi => fun ρ S P W => wE a ρ S (fun x S1 => wE lo ρ S1 (fun l S2 => partS l fun l => wE hi ρ S2 (fun h S3 => partS h fun h => slS x l h S3 P) W) W) W
  | .st a lo k => fun ρ S P W => wE a ρ S (fun x S1 => stS x lo k S1 P) W
  | .aI a => fun ρ S P W => wE a ρ S (fun d S1 => match d with
    | .int i => P (.int i) S1
    | _ => False) W
  | .fn k es => fun ρ S P W => wEs es ρ S (fun ds S1 => ds.length = Γ.ar k ∧ Γ.fn k ds S1 P (fun c f S2 => W c f ρ S2)) W
  | .bi b es => fun ρ S P W => wEs es ρ S (fun ds S1 => biS b ds S1 P) W
  | .isi a ts => fun ρ S P W => wE a ρ S (fun x S1 => match isiAny S1 x ts with
    | some b => P (.bl b) S1
    | none => False) W
  | .me m o es => fun ρ S P W => wE o ρ S (fun x S1 => isL S1 x ∧ wEs es ρ S1 (fun ds S2 => meS m x ds S2 P) W) W
  | .fld f o => fun ρ S P W => wE o ρ S (fun x S1 => match x with
    | .ref a => (match S1 a with
      | some (.exc k (some d)) => fldN k = f ∧ P d S1
      | _ => False)
    | _ => False) W
  | .lc e t it cond own => fun ρ S P W => wI it ρ S (fun ds src S1 => ∀ p, S1 p = none → lcS (wT t) (aTru (wE cond)) (wE e) src p (wipeD ρ own) (fun S2 => P (.ref p) S2) ds (S1.up p (.lst true []))) W
def wEs : List X → AA
  | [] => fun _ S P _ => P [] S
  | e :: es => fun ρ S P W => wE e ρ S (fun x S1 => wEs es ρ S1 (fun xs S2 => P (x :: xs) S2) W) W
def wT : T → ATg
  | .nm i => fun d ρ S P _ => P (ρ.set i (some d)) S
  | .tp ts => fun d ρ S P W => match d with
    | .tup l => l.length = ts.length ∧ wTs ts l ρ S P W
    | .ref a => (match S a with
      | some (.lst _ l) => l.length = ts.length ∧ wTs ts l ρ S P W
      | _ => False)
    | _ => False
  | .ix o i => fun d ρ S P W => wE o ρ S (fun x S1 => wE i ρ S1 (fun y S2 => match x, y with
    | .ref a, .int k => (match S2 a with
      | some (.lst true l) => (match ixN l.length k with
        | some j => P ρ (S2.up a (.lst true (l.set j d)))
        | none => False)
      | _ => False)
    | _, _ => False) W) W
def wTs : List T → ATgs
  | [] => fun ds ρ S P _ => match ds with
    | [] => P ρ S
    | _ => False
  | t :: ts => fun ds ρ S P W => match ds with
    | d :: r => wT t d ρ S (fun ρ1 S1 => wTs ts r ρ1 S1 P W) W
    | _ => False
def wI : I → AI
  | .e x => fun ρ S P W => wE x ρ S (fun d S1 => match d with
    | .tup l => P l .free S1
    | .ref a => (match S1 a with
      | some (.lst w l) => P l (.lst a w l) S1
      | _ => False)
    | _ => False) W
  | .rng1 b => fun ρ S P W => wE b ρ S (fun d S1 => match d with
    | .int j => (-(2 ^ 62) ≤ j ∧ j < 2 ^ 62) ∧ P (rngItems 0 j.toNat) .free S1
    | _ => False) W
  | .rng2 a b => fun ρ S P W => wE a ρ S (fun d S1 => wE b ρ S1 (fun e S2 => match d, e with
    | .int i, .int j => (-(2 ^ 62) ≤ i ∧ i < 2 ^ 62 ∧ -(2 ^ 62) ≤ j ∧ j < 2 ^ 62) ∧ P (rngItems i (j - i).toNat) .free S2
    | _, _ => False) W) W
  | .zip a b => fun ρ S P W => wE a ρ S (fun x S1 => wE b ρ S1 (fun y S2 => match x, y with
    | .ref p, .ref q => (match S2 p, S2 q with
      | some (.lst w l), some (.lst v m) => P (zipD l m) (.two p w l q v m) S2
      | _, _ => False)
    | _, _ => False) W) W
end
def augS (o : Operator) (x y : D) (P : D → Prop) : Prop := match o, x, y with
  | .Add, .int a, .int b => P (.int (a + b))
  | .Sub, .int a, .int b => P (.int (a - b))
  | _, _, _ => False
def forS (t : ATg) (b : AS) (src : Src) (N : DE) (W : AW) : List D → DSt → Sto → Prop
  | [], ρ, S => src.ok S ∧ N.nx ρ S
  | d :: ds, ρ, S => src.ok S ∧ t d ρ S (fun ρ1 S1 => b { nx := fun ρ2 S2 => forS t b src N W ds ρ2 S2, rt := N.rt, bk := N.nx, ct := fun ρ2 S2 => forS t b src N W ds ρ2 S2 } ρ1 S1 W) W
mutual
def wZ : Z → AS
  | .asg t e => fun N ρ S W => wE Γ e ρ S (fun d S1 => wT Γ t d ρ S1 N.nx W) W
  | .aug i o e => fun N ρ S W => match lk ρ i with
    | some x => wE Γ e ρ S (fun y S1 => augS o x y fun d => N.nx (ρ.set i (some d)) S1) W
    | none => False
  | .ex e => fun N ρ S W => wE Γ e ρ S (fun _ S1 => N.nx ρ S1) W
  | .ret e => fun N ρ S W => wE Γ e ρ S N.rt W
  | .iff t a b => fun N ρ S W => aTru (wE Γ t) ρ S (fun c S1 => if c = true then wZs a N ρ S1 W else wZs b N ρ S1 W) W
  | .whl t b => fun N ρ S W => ∃ J : Nat → DSt → Sto → Prop, (∃ m, J m ρ S) ∧ ∀ m ρ S, J m ρ S → aTru (wE Γ t) ρ S (fun c S1 => if c = true then
      wZs b { nx := fun ρ2 S2 => ∃ m', m' < m ∧ J m' ρ2 S2, rt := N.rt, bk := N.nx, ct := fun ρ2 S2 => ∃ m', m' < m ∧ J m' ρ2 S2 } ρ S1 W else N.nx ρ S1) W
  | .for_ t it b => fun N ρ S W => wI Γ it ρ S (fun ds src S1 => forS (wT Γ t) (wZs b) src N W ds ρ S1) W
  | .rz k => fun _ ρ S W => W k none ρ S
  | .rzf k e => fun _ ρ S W => wE Γ e ρ S (fun d S1 => W k (some d) ρ S1) W
  | .tr b k n y => fun N ρ S W => wZs b N ρ S (fun j f ρ1 S1 => if subK j k = true then ∀ a, S1 a = none → N.nx ((ρ1.set y (some (.ref a))).set n none) (S1.up a (.exc j f)) else W j f ρ1 S1)
  | .tr2 b k n y z => fun N ρ S W => wZs b N ρ S (fun j f ρ1 S1 => if subK j k = true then ∀ a, S1 a = none → N.nx (((ρ1.set y (some (.ref a))).set z (some .non)).set n none) (S1.up a (.exc j f)) else W j f ρ1 S1)
  | .pass => fun N ρ S _ => N.nx ρ S
  | .cont => fun N ρ S _ => N.ct ρ S
  | .brk => fun N ρ S _ => N.bk ρ S
def wZs : List Z → AS
  | [] => fun N ρ S _ => N.nx ρ S
  | z :: zs => fun N ρ S W => wZ z { N with nx := fun ρ1 S1 => wZs zs N ρ1 S1 W } ρ S W
end
end
end Sd
namespace Sd
open PySem PySem.Spec PyProof.Rows L2
section
variable {X : Cx} {Wh : WX} {Γ : Gam} {A B C : AE} {As : AA} {a b e : Expr} {es : List Expr} {pos : Pos}
theorem lk_some : ∀ {ρ : DSt} {i : Nat} {d : D}, lk ρ i = some d → ρ[i]? = some (some d)
  | [], _, _, h => by cases h
  | x :: _, 0, d, h => by
    have h' : x = some d := h
    rw [h']
    rfl
  | _ :: r, i + 1, d, h => by
    have h' : lk r i = some d := h
    simpa using lk_some h'
theorem l_var {i : Nat} {x : Str} (hN : X.N[i]? = some x) (hv : Vis X.env.scope x) (hd : (x == ("__debug__" : Str)) = false) (hcd : (x == ("__classdict__" : Str)) = false) : PE X (.Name x pos) (LE X.K Wh (wE Γ (.var i))) :=
  PE.imp (pe_var hN hv hd hcd) fun σ H Q ⟨ρ, S, W, P, se, wl, pl, h⟩ => by
    simp only [wE] at h
    split at h
    · rename_i d e
      obtain ⟨v, h1, h2⟩ := se.loc i d (lk_some e)
      exact ⟨v, h1, pl.now h se.sto h2⟩
    · exact h.elim
theorem l_c {d : D} {v : V} (hp : PE X e (tC v)) (hr : ∀ H, Rp X.K H d v) : PE X e (LE X.K Wh (wE Γ (.c d))) :=
  PE.imp hp fun σ H Q ⟨ρ, S, W, P, se, wl, pl, h⟩ => pl.now (by simpa only [wE] using h) se.sto (hr H)
theorem l_op {o : Operator} (ha : PE X a (LE X.K Wh A)) (hb : PE X b (LE X.K Wh B)) : PE X (.BinOp a o b pos) (LE X.K Wh fun ρ S P W => A ρ S (fun x S1 => B ρ S1 (fun y S2 => opS o x y S2 P) W) W) := by
  obtain ⟨r, hr, har⟩ := op_all (X := X) o
  refine PE.imp (pe_op hr ha hb) fun σ H Q ⟨ρ, S, W, P, se, wl, pl, h⟩ => ?_
  exact ⟨ρ, S, W, _, se, wl, fun x S1 h1 v H1 k1 s1 r1 => ⟨ρ, S1, W, _, se.at k1 s1, wl.at k1, fun y S2 h2 u H2 k2 s2 r2 => har _ _ _ _ h2 _ _ _ _ s2 (Rp.kp k2 _ r1) r2 (pl.at (k1.trans k2)), h1⟩, h⟩
theorem l_cmp {o : CmpOp} (hu : X.A.units + 65 < cLine) (ha : PE X a (LE X.K Wh A)) (hb : PE X b (LE X.K Wh B)) (hm : behindInMarks o b = false) : PE X (.Compare a [o] [b] pos) (LE X.K Wh fun ρ S P W => A ρ S (fun x S1 => B ρ S1 (fun y S2 => cmpS o x y S2 P) W) W) := by
  obtain ⟨r, hr, har⟩ := cmp_all (X := X) hu o
  refine PE.imp (pe_cmpR hr ha hb hm) fun σ H Q ⟨ρ, S, W, P, se, wl, pl, h⟩ => ?_
  exact ⟨ρ, S, W, _, se, wl, fun x S1 h1 v H1 k1 s1 r1 => ⟨ρ, S1, W, _, se.at k1 s1, wl.at k1, fun y S2 h2 u H2 k2 s2 r2 => har _ _ _ _ h2 _ _ _ _ s2 (Rp.kp k2 _ r1) r2 (pl.at (k1.trans k2)), h1⟩, h⟩
/-- a test by its value -/
theorem truB_bl {S : Sto} {d : D} {v : V} {K : PySem.W.Frag} {H : Hp} {b : Bool} (s : StoOk K H S) (r : Rp K H d v) (e : truB S d = some b) : TruV K v H b := tru_abs s r e
theorem l_test (ha : PE X a (LE X.K Wh A)) (he : ∀ whole, isTrue a X.env whole = (do let v ← whole; standAt a.pos; holding [v] (truthy v))) : PT X a (LT X.K Wh (aTru A)) :=
  PT.imp (pt_truth ha he) fun σ H Q ⟨ρ, S, W, P, se, wl, pl, h⟩ => ⟨ρ, S, W, _, se, wl, fun d S1 h1 v H1 k1 s1 r1 => by
    split at h1
    · rename_i b eb
      exact ⟨b, tru_abs s1 r1 eb, pl b S1 h1 H1 k1 s1⟩
    · exact h1.elim, h⟩
/-- a comparison gives a truth -/
theorem cmpS_bl {o : CmpOp} {x y : D} {S : Sto} {P : PD} (h : cmpS o x y S P) : ∃ b, P (.bl b) S ∧ ∀ P' : PD, P' (.bl b) S → cmpS o x y S P' := by
  cases o <;> cases x <;> cases y <;> first
    | exact (show False from h).elim
    | exact ⟨_, h, fun _ q => q⟩
    | exact ⟨_, h.2.2, fun _ q => ⟨h.1, h.2.1, q⟩⟩
    | (simp only [cmpS] at h ⊢
       split at h
       · exact ⟨_, h, fun _ q => q⟩
       · first
         | exact h.elim
         | (simp only [lenS] at h ⊢
            split at h
            · exact ⟨_, h.2, fun _ q => ⟨h.1, q⟩⟩
            · exact h.elim))
/-- a comparison as a test -/
theorem l_cmpT {o : CmpOp} (hu : X.A.units + 65 < cLine) (ha : PE X a (LE X.K Wh A)) (hb : PE X b (LE X.K Wh B)) (hm : behindInMarks o b = false) : PT X (.Compare a [o] [b] pos) (LT X.K Wh (aTru fun ρ S P W => A ρ S (fun x S1 => B ρ S1 (fun y S2 => cmpS o x y S2 P) W) W)) := by
  obtain ⟨r, hr, har⟩ := cmp_all (X := X) hu o
  refine PT.imp (pt_cmpR hr ha hb hm) fun σ H Q ⟨ρ, S, W, P, se, wl, pl, h⟩ => ?_
  refine ⟨ρ, S, W, _, se, wl, fun x S1 h1 v H1 k1 s1 r1 => ⟨ρ, S1, W, _, se.at k1 s1, wl.at k1, fun y S2 h2 u H2 k2 s2 r2 => ?_, h1⟩, h⟩
  obtain ⟨b, q1, q2⟩ := cmpS_bl h2
  refine har _ _ _ (fun d S3 => d = .bl b ∧ P b S3) (q2 _ ⟨rfl, q1⟩) _ _ _ _ s2 (Rp.kp k2 _ r1) r2 fun d S3 h3 z H3 k3 s3 r3 => ?_
  obtain ⟨rfl, h3⟩ := h3
  cases r3
  exact ⟨b, rfl, pl b S3 h3 H3 ((k1.trans k2).trans k3) s3⟩
end
end Sd
namespace Sd
open PySem PySem.Spec PyProof.Rows L2
section
variable {X : Cx} {Wh : WX} {Γ : Gam} {A B C : AE} {As : AA} {a b c e : Expr} {es rest : List Expr} {pos : Pos}
def aAn (A B : AE) : AE := fun ρ S P W => A ρ S (fun x S1 => match truB S1 x with
    | some true => B ρ S1 P W
    | some false => P x S1
    | none => False) W
def aRo (A B : AE) : AE := fun ρ S P W => A ρ S (fun x S1 => match truB S1 x with
    | some true => P x S1
    | some false => B ρ S1 P W
    | none => False) W
def aNo (A : AE) : AE := fun ρ S P W => aTru A ρ S (fun b S1 => P (.bl (!b)) S1) W
def aIte (T A B : AE) : AE := fun ρ S P W => aTru T ρ S (fun c S1 => if c = true then A ρ S1 P W else B ρ S1 P W) W
theorem l_an (ha : PE X a (LE X.K Wh A)) (hb : PE X (.BoolOp .And (b :: rest) pos) (LE X.K Wh B)) : PE X (.BoolOp .And (a :: b :: rest) pos) (LE X.K Wh (aAn A B)) :=
  PE.imp (pe_andT ha hb) fun σ H Q ⟨ρ, S, W, P, se, wl, pl, h⟩ => ⟨ρ, S, W, _, se, wl, fun x S1 h1 v H1 k1 s1 r1 => by
    split at h1
    · rename_i e1
      exact ⟨true, tru_abs s1 r1 e1, ρ, S1, W, P, se.at k1 s1, wl.at k1, pl.at k1, h1⟩
    · rename_i e1
      exact ⟨false, tru_abs s1 r1 e1, pl _ _ h1 v H1 k1 s1 r1⟩
    · exact h1.elim, h⟩
theorem l_ro (ha : PE X a (LE X.K Wh A)) (hb : PE X (.BoolOp .Or (b :: rest) pos) (LE X.K Wh B)) : PE X (.BoolOp .Or (a :: b :: rest) pos) (LE X.K Wh (aRo A B)) :=
  PE.imp (pe_orT ha hb) fun σ H Q ⟨ρ, S, W, P, se, wl, pl, h⟩ => ⟨ρ, S, W, _, se, wl, fun x S1 h1 v H1 k1 s1 r1 => by
    split at h1
    · rename_i e1
      exact ⟨true, tru_abs s1 r1 e1, pl _ _ h1 v H1 k1 s1 r1⟩
    · rename_i e1
      exact ⟨false, tru_abs s1 r1 e1, ρ, S1, W, P, se.at k1 s1, wl.at k1, pl.at k1, h1⟩
    · exact h1.elim, h⟩
theorem l_anT (ha : PT X a (LT X.K Wh (aTru A))) (hb : PW X (.BoolOp .And (b :: rest) pos) (LT X.K Wh (aTru B))) : PW X (.BoolOp .And (a :: b :: rest) pos) (LT X.K Wh (aTru (aAn A B))) :=
  PW.imp (pw_and ha hb) fun σ H Q ⟨ρ, S, W, P, se, wl, pl, h⟩ => by
    refine ⟨ρ, S, W, fun b S1 => if b = true then aTru B ρ S1 P W else P false S1, se, wl, fun b S1 h1 H1 k1 s1 => ?_, ?_⟩
    · cases b with
      | true => exact ⟨ρ, S1, W, P, se.at k1 s1, wl.at k1, pl.at k1, h1⟩
      | false => exact pl _ _ h1 H1 k1 s1
    · unfold aTru aAn at h
      unfold aTru
      have e : (fun (d : D) (S1 : Sto) => match truB S1 d with
        | some b => if b = true then B ρ S1 (fun d S1 => match truB S1 d with
            | some b => P b S1
            | none => False) W else P false S1
        | none => False) = (fun x S1 => match truB S1 x with
        | some true => B ρ S1 (fun d S1 => match truB S1 d with
          | some b => P b S1
          | none => False) W
        | some false => (match truB S1 x with
          | some b => P b S1
          | none => False)
        | none => False) := funext fun x => funext fun S1 => by
          cases q : truB S1 x with
          | none => rfl
          | some b => cases b <;> rfl
      exact (congrArg (fun q => A ρ S q W) e).mpr h
theorem l_roT (ha : PT X a (LT X.K Wh (aTru A))) (hb : PW X (.BoolOp .Or (b :: rest) pos) (LT X.K Wh (aTru B))) : PW X (.BoolOp .Or (a :: b :: rest) pos) (LT X.K Wh (aTru (aRo A B))) :=
  PW.imp (pw_or ha hb) fun σ H Q ⟨ρ, S, W, P, se, wl, pl, h⟩ => by
    refine ⟨ρ, S, W, fun b S1 => if b = true then P true S1 else aTru B ρ S1 P W, se, wl, fun b S1 h1 H1 k1 s1 => ?_, ?_⟩
    · cases b with
      | false => exact ⟨ρ, S1, W, P, se.at k1 s1, wl.at k1, pl.at k1, h1⟩
      | true => exact pl _ _ h1 H1 k1 s1
    · unfold aTru aRo at h
      unfold aTru
      have e : (fun (d : D) (S1 : Sto) => match truB S1 d with
        | some b => if b = true then P true S1 else B ρ S1 (fun d S1 => match truB S1 d with
            | some b => P b S1
            | none => False) W
        | none => False) = (fun x S1 => match truB S1 x with
        | some true => (match truB S1 x with
          | some b => P b S1
          | none => False)
        | some false => B ρ S1 (fun d S1 => match truB S1 d with
          | some b => P b S1
          | none => False) W
        | none => False) := funext fun x => funext fun S1 => by
          cases q : truB S1 x with
          | none => rfl
          | some b => cases b <;> rfl
      exact (congrArg (fun q => A ρ S q W) e).mpr h
theorem l_no (ha : PE X a (LE X.K Wh A)) : PE X (.UnaryOp .Not a pos) (LE X.K Wh (aNo A)) :=
  PE.imp (pe_notT ha) fun σ H Q ⟨ρ, S, W, P, se, wl, pl, h⟩ => ⟨ρ, S, W, _, se, wl, fun x S1 h1 v H1 k1 s1 r1 => by
    split at h1
    · rename_i b e1
      exact ⟨b, tru_abs s1 r1 e1, pl _ _ h1 _ H1 k1 s1 rfl⟩
    · exact h1.elim, h⟩
theorem l_noT (ha : PT X a (LT X.K Wh (aTru A))) : PT X (.UnaryOp .Not a pos) (LT X.K Wh (aTru (aNo A))) :=
  PT.imp (pt_not ha) fun σ H Q ⟨ρ, S, W, P, se, wl, pl, h⟩ => ⟨ρ, S, W, fun b S1 => P (!b) S1, se, wl, fun b S1 h1 H1 k1 s1 => pl _ _ h1 H1 k1 s1, h⟩
theorem l_ite (hc : PT X c (LT X.K Wh (aTru C))) (ha : PE X a (LE X.K Wh A)) (hb : PE X b (LE X.K Wh B)) : PE X (.IfExp c a b pos) (LE X.K Wh (aIte C A B)) :=
  PE.imp (pe_ifExp hc ha hb) fun σ H Q ⟨ρ, S, W, P, se, wl, pl, h⟩ => ⟨ρ, S, W, _, se, wl, fun b S1 h1 H1 k1 s1 => by
    cases b with
    | true => exact ⟨ρ, S1, W, P, se.at k1 s1, wl.at k1, pl.at k1, h1⟩
    | false => exact ⟨ρ, S1, W, P, se.at k1 s1, wl.at k1, pl.at k1, h1⟩, h⟩
theorem l_iteT (hc : PT X c (LT X.K Wh (aTru C))) (ha : PT X a (LT X.K Wh (aTru A))) (hb : PT X b (LT X.K Wh (aTru B))) : PT X (.IfExp c a b pos) (LT X.K Wh (aTru (aIte C A B))) := by
  refine PT.imp (t := fun σ H Q => LT X.K Wh (aTru C) σ H fun k H1 => if k = true then LT X.K Wh (aTru A) σ H1 Q else LT X.K Wh (aTru B) σ H1 Q) ⟨fun pins s σ H Q I h => ?_⟩ fun σ H Q ⟨ρ, S, W, P, se, wl, pl, h⟩ => ⟨ρ, S, W, _, se, wl, fun b S1 h1 H1 k1 s1 => by
    cases b with
    | true => exact ⟨ρ, S1, W, P, se.at k1 s1, wl.at k1, pl.at k1, h1⟩
    | false => exact ⟨ρ, S1, W, P, se.at k1 s1, wl.at k1, pl.at k1, h1⟩, h⟩
  show wpAny _ _ (isTrue (.IfExp c a b pos) X.env _) _ _ _
  unfold PySem.isTrue
  refine wpAny_bind (thn (hc.run pins s σ H _ I h) fun k s1 ⟨H1, I1, q1⟩ => ?_)
  cases k with
  | true => exact ha.run pins s1 σ H1 Q I1 q1
  | false => exact hb.run pins s1 σ H1 Q I1 q1
theorem l_neg (ha : PE X a (LE X.K Wh A)) : PE X (.UnaryOp .USub a pos) (LE X.K Wh fun ρ S P W => A ρ S (fun x S1 => match x with
    | .int i => P (.int (-i)) S1
    | _ => False) W) :=
  PE.imp (pe_un un_neg ha) fun σ H Q ⟨ρ, S, W, P, se, wl, pl, h⟩ => ⟨ρ, S, W, _, se, wl, fun x S1 h1 v H1 k1 s1 r1 => by
    cases x <;> (try exact (show False from h1).elim)
    cases r1
    exact ⟨_, rfl, pl _ _ h1 _ H1 k1 s1 rfl⟩, h⟩
def aChain (o o' : CmpOp) (A B C : AE) : AE := fun ρ S P W => A ρ S (fun x S1 => B ρ S1 (fun y S2 => cmpS o x y S2 (fun z S3 => match z with
    | .bl true => C ρ S3 (fun u S4 => cmpS o' y u S4 P) W
    | .bl false => P (.bl false) S3
    | _ => False)) W) W
theorem l_chain {o o' : CmpOp} (hu : X.A.units + 65 < cLine) (ha : PE X a (LE X.K Wh A)) (hb : PE X b (LE X.K Wh B)) (hc : PE X c (LE X.K Wh C)) (hm : behindInMarks o b = false) (hm' : behindInMarks o' c = false) :
    PE X (.Compare a [o, o'] [b, c] pos) (LE X.K Wh (aChain o o' A B C)) := by
  obtain ⟨r, hr, har⟩ := cmp_all (X := X) hu o
  obtain ⟨r', hr', har'⟩ := cmp_all (X := X) hu o'
  refine PE.imp (pe_chain hr hr' ha hb hc (hm := hm')) fun σ H Q ⟨ρ, S, W, P, se, wl, pl, h⟩ => ?_
  refine ⟨ρ, S, W, _, se, wl, fun x S1 h1 v H1 k1 s1 r1 => ⟨ρ, S1, W, _, se.at k1 s1, wl.at k1, fun y S2 h2 u H2 k2 s2 r2 => ?_, h1⟩, h⟩
  refine har _ _ _ _ h2 _ _ _ _ s2 (Rp.kp k2 _ r1) r2 fun z S3 h3 zv H3 k3 s3 r3 => ?_
  cases z <;> (try exact (show False from h3).elim)
  rename_i bb
  cases r3
  have k13 := (k1.trans k2).trans k3
  cases bb with
  | true => exact ⟨true, rfl, ρ, S3, W, _, se.at k13 s3, wl.at k13, fun t S4 h4 tv H4 k4 s4 r4 => har' _ _ _ _ h4 _ _ _ _ s4 (Rp.kp (k3.trans k4) _ r2) r4 (pl.at (k13.trans k4)), h3⟩
  | false => exact ⟨false, rfl, pl _ _ h3 _ H3 k13 s3 rfl⟩
theorem l_chainT {o o' : CmpOp} (hu : X.A.units + 65 < cLine) (ha : PE X a (LE X.K Wh A)) (hb : PE X b (LE X.K Wh B)) (hc : PE X c (LE X.K Wh C)) (hm : behindInMarks o b = false) (hm' : behindInMarks o' c = false) :
    PT X (.Compare a [o, o'] [b, c] pos) (LT X.K Wh (aTru (aChain o o' A B C))) := by
  obtain ⟨r, hr, har⟩ := cmp_all (X := X) hu o
  obtain ⟨r', hr', har'⟩ := cmp_all (X := X) hu o'
  refine PT.imp (pt_chain hr hr' ha hb hc (hm := hm')) fun σ H Q ⟨ρ, S, W, P, se, wl, pl, h⟩ => ?_
  refine ⟨ρ, S, W, _, se, wl, fun x S1 h1 v H1 k1 s1 r1 => ⟨ρ, S1, W, _, se.at k1 s1, wl.at k1, fun y S2 h2 u H2 k2 s2 r2 => ?_, h1⟩, h⟩
  refine har _ _ _ _ h2 _ _ _ _ s2 (Rp.kp k2 _ r1) r2 fun z S3 h3 zv H3 k3 s3 r3 => ?_
  cases z <;> (try exact (show False from h3).elim)
  rename_i bb
  cases r3
  have k13 := (k1.trans k2).trans k3
  cases bb with
  | true =>
    refine ⟨true, rfl, ρ, S3, W, _, se.at k13 s3, wl.at k13, fun t S4 h4 tv H4 k4 s4 r4 => ?_, h3⟩
    obtain ⟨b, q1, q2⟩ := cmpS_bl h4
    refine har' _ _ _ (fun d S5 => d = .bl b ∧ P b S5) (q2 _ ⟨rfl, q1⟩) _ _ _ _ s4 (Rp.kp (k3.trans k4) _ r2) r4 fun d S5 h5 zz H5 k5 s5 r5 => ?_
    obtain ⟨rfl, h5⟩ := h5
    cases r5
    exact ⟨b, rfl, pl b S5 h5 H5 ((k13.trans k4).trans k5) s5⟩
  | false => exact ⟨false, rfl, false, rfl, pl _ _ h3 H3 k13 s3⟩
/-! ### arguments, displays, subscripts -/
theorem l_nil : PA X [] (LA X.K Wh fun _ S P _ => P [] S) := PA.imp pa_nil fun σ H Q ⟨ρ, S, W, P, se, wl, pl, h⟩ => pl _ _ h _ H (Kp.refl H) se.sto rfl
theorem l_cons (ha : PE X e (LE X.K Wh A)) (hr : PA X es (LA X.K Wh As)) (hs : starEach (e :: es) X.env = (false, eval e X.env) :: starEach es X.env) :
    PA X (e :: es) (LA X.K Wh fun ρ S P W => A ρ S (fun x S1 => As ρ S1 (fun xs S2 => P (x :: xs) S2) W) W) :=
  PA.imp (pa_cons ha hr hs) fun σ H Q ⟨ρ, S, W, P, se, wl, pl, h⟩ => ⟨ρ, S, W, _, se, wl, fun x S1 h1 v H1 k1 s1 r1 => ⟨ρ, S1, W, _, se.at k1 s1, wl.at k1, fun xs S2 h2 vs H2 k2 s2 r2 => pl _ _ h2 _ H2 (k1.trans k2) s2 (Rps.cons (Rp.kp k2 _ r1) r2), h1⟩, h⟩
theorem l_tp {x1} (h : PA X es (LA X.K Wh As)) : PE X (.Tuple es x1 pos) (LE X.K Wh fun ρ S P W => As ρ S (fun ds S1 => ds.length ≤ sizeLine ∧ P (.tup ds) S1) W) :=
  PE.imp (pe_tup h) fun σ H Q ⟨ρ, S, W, P, se, wl, pl, h⟩ => ⟨ρ, S, W, _, se, wl, fun ds S1 h1 vs H1 k1 s1 r1 => ⟨by rw [r1.length]; exact h1.1, fun p hp => (pl.at k1).newT s1 r1 hp h1.2⟩, h⟩
theorem l_ls (h : PA X es (LA X.K Wh As)) : PE X (.List es pos) (LE X.K Wh fun ρ S P W => As ρ S (fun ds S1 => ds.length ≤ sizeLine ∧ ∀ p, S1 p = none → P (.ref p) (S1.up p (.lst true ds))) W) :=
  PE.imp (pe_lst h) fun σ H Q ⟨ρ, S, W, P, se, wl, pl, h⟩ => ⟨ρ, S, W, _, se, wl, fun ds S1 h1 vs H1 k1 s1 r1 => ⟨by rw [r1.length]; exact h1.1, fun p hp => (pl.at k1).newL s1 r1 hp h1.2⟩, h⟩
theorem l_ix (ha : PE X a (LE X.K Wh A)) (hb : PE X b (LE X.K Wh B)) (hs : PlainIx b) : PE X (.Subscript a b pos) (LE X.K Wh fun ρ S P W => A ρ S (fun x S1 => B ρ S1 (fun y S2 => ixS x y S2 P) W) W) :=
  PE.imp (pe_ix ix_seq ha hb hs) fun σ H Q ⟨ρ, S, W, P, se, wl, pl, h⟩ =>
    ⟨ρ, S, W, _, se, wl, fun x S1 h1 v H1 k1 s1 r1 => ⟨ρ, S1, W, _, se.at k1 s1, wl.at k1, fun y S2 h2 u H2 k2 s2 r2 => ix_abs _ _ _ _ h2 _ _ _ _ s2 (Rp.kp k2 _ r1) r2 (pl.at (k1.trans k2)), h1⟩, h⟩
/-- a slice's part -/
def LO (K : PySem.W.Frag) (Wh : WX) (A : AE) : TO := fun σ H Q => ∃ ρ S W P, Sees K H σ ρ S ∧ WLe K H W Wh ∧ (∀ d S1, P d S1 → ∀ H1, Kp H H1 → StoOk K H1 S1 → partS d fun o => Q o H1) ∧ A ρ S P W
theorem l_part {o : Expr} (ha : PE X o (LE X.K Wh A)) : PO X (some o) (fun σ H Q => LO X.K Wh (fun ρ S P W => A ρ S (fun d S1 => match d with
    | .int i => P (.int i) S1
    | _ => False) W) σ H Q) := by
  have h := po_some ha
  refine ⟨fun pins s σ H Q I hw => h.run pins s σ H Q I ?_⟩
  obtain ⟨ρ, S, W, P, se, wl, pl, hw⟩ := hw
  refine ⟨ρ, S, W, _, se, wl, fun d S1 h1 v H1 k1 s1 r1 => ?_, hw⟩
  cases d <;> (try exact (show False from h1).elim)
  cases r1
  exact ⟨_, rfl, pl _ _ h1 H1 k1 s1⟩
theorem l_nopart {d : D} (hd : d = .non) : PO X none (LO X.K Wh fun _ S P _ => P d S) := by
  have h := po_none (X := X)
  refine ⟨fun pins s σ H Q I hw => h.run pins s σ H Q I ?_⟩
  obtain ⟨ρ, S, W, P, se, wl, pl, hw⟩ := hw
  subst hd
  exact pl _ _ hw H (Kp.refl H) se.sto
end
end Sd
namespace Sd
open PySem PySem.Spec PyProof.Rows L2 HT
section
variable {prog : Program} {w : World} {A : Around} {E : Value → Shared → Prop} {s : Shared}
theorem sliceApplied_st {sl : Addr} {vl vu vs : Value} {lo : Option Int} {k : Int} {n : Nat} {Q : Int × Int × Nat → Shared → Prop} (hs : s.heap.IsSliceOf sl vl vu vs) (pl : IsPart vl lo) (pu : IsPart vu none) (ps : IsPart vs (some k)) (hk : k ≠ 0)
    (h : Q ((Builtin.Slice.sliceAdjust lo none k n).1, k, Builtin.Slice.slicePlaces (Builtin.Slice.sliceAdjust lo none k n).1 (Builtin.Slice.sliceAdjust lo none k n).2 k) s) : wpAny (model prog w) A (Builtin.Slice.sliceApplied (.ref sl) (pure (n : Int))) Q E s := by
  obtain ⟨os, hos, hcs, hds⟩ := id hs
  unfold Builtin.Slice.sliceApplied Builtin.Slice.sliceFields
  refine wpAny_bind (wpAny_bind (wpAny_field hos hds (x := vl) rfl (wpAny_bind (wpAny_field hos hds (x := vu) rfl (wpAny_bind (wpAny_field hos hds (x := vs) rfl (wpAny_pure ?_)))))))
  refine wpAny_bind (slicePart_ ps ?_)
  show wpAny _ _ (if (k == 0) = true then _ else _) _ _ s
  rw [if_neg (by simpa using hk)]
  exact wpAny_bind (slicePart_ pl (wpAny_bind (slicePart_ pu (wpAny_bind (wpAny_pure (wpAny_pure h))))))
theorem getItem_tuple_st {t sl : Addr} {items : Array Value} {vl vu vs : Value} {lo : Option Int} {k : Int} {Q : Value → Shared → Prop} (ht : IsTup s.heap t items) (hs : s.heap.IsSliceOf sl vl vu vs) (pl : IsPart vl lo) (pu : IsPart vu none) (ps : IsPart vs (some k)) (hk : k ≠ 0) (hk1 : k ≠ 1)
    (h : Q (.ref s.heap.objs.size) { s with heap := s.heap.push { cls := .type "tuple", data := .seq (pickT items.toList lo k).toArray } })
    (hsz : (pickT items.toList lo k).length ≤ sizeLine) : wpAny (model prog w) A (getItem (.ref t) (.ref sl)) Q E s := by
  have htake : sizeOk (.seq (pickT items.toList lo k).toArray) := by
    show (pickT items.toList lo k).toArray.size ≤ sizeLine
    rw [List.size_toArray]
    exact hsz
  obtain ⟨os, hos, hcs, hds⟩ := id hs
  have hTs : s.TypeIs (.ref sl) "slice" := ⟨os, hos, hcs⟩
  unfold getItem
  try with_reducible refine wpAny_holding ?_
  first | refine wpAny_bind (wpAny_pure ?_) | skip
  refine wpAny_bind (wpAny_sequenceKey ht.typeIs (by decide) ?_)
  refine wpAny_bind (wpAny_callSpecial?_slot (name := Str.ofString "__getitem__") ht.typeIs PyProof.Rows.slot_tuple_getitem
    (wpAny_call_entry PyProof.Rows.slot_tuple_getitem ht.typeIs entry_tuple_getitem ?_ (args_tuple_getitem _ _)))
  show wpAny _ _ (Builtin.Tuple.tupleItemsOf (.ref t) >>= _) _ _ s
  refine wpAny_bind (tupleItemsOf_ ht ?_)
  refine wpAny_bind (wpAny_typeOf hTs ?_)
  rw [if_pos (by decide)]
  refine wpAny_bind (sliceApplied_st hs pl pu ps hk ?_)
  have hno : ¬ (((Builtin.Slice.sliceAdjust lo none k items.size).1 == 0 && k == 1 && (Builtin.Slice.slicePlaces (Builtin.Slice.sliceAdjust lo none k items.size).1 (Builtin.Slice.sliceAdjust lo none k items.size).2 k) == items.size) = true) := by
    intro q
    rw [Bool.and_eq_true, Bool.and_eq_true] at q
    exact hk1 (eq_of_beq q.1.2)
  have hp : ((List.range (Builtin.Slice.slicePlaces (Builtin.Slice.sliceAdjust lo none k items.size).1 (Builtin.Slice.sliceAdjust lo none k items.size).2 k)).filterMap fun (m : Nat) => items[((Builtin.Slice.sliceAdjust lo none k items.size).1 + (m : Int) * k).toNat]?) = pickT items.toList lo k := by
    unfold pickT
    rw [Array.length_toList]
    congr 1
    funext m
    rw [Array.getElem?_toList]
  show wpAny _ _ (if ((Builtin.Slice.sliceAdjust lo none k items.size).1 == 0 && k == 1 && (Builtin.Slice.slicePlaces (Builtin.Slice.sliceAdjust lo none k items.size).1 (Builtin.Slice.sliceAdjust lo none k items.size).2 k) == items.size) = true then _ else _) _ _ s
  rw [if_neg hno, hp]
  first
    | exact wpAny_bind (m := Builtin.Tuple.tupleExact _) (wpAny_newObj_type (wpAny_pure ⟨_, rfl, wpAny_pure h⟩) htake)
    | exact wpAny_bind (m := Builtin.Tuple.tupleExact _) (wpAny_newObj_type (wpAny_bind (wpAny_pure (wpAny_pure ⟨_, rfl, wpAny_pure h⟩))) htake)
    | exact wpAny_bind (wpAny_bind (m := Builtin.Tuple.tupleExact _) (wpAny_newObj_type (wpAny_pure (wpAny_pure ⟨_, rfl, wpAny_pure h⟩)) htake))
    | exact wpAny_bind (wpAny_bind (m := Builtin.Tuple.tupleExact _) (wpAny_newObj_type (wpAny_pure ⟨_, rfl, wpAny_pure h⟩) htake))
end
theorem pick_vals_aux {xs : List V} {us : List Value} (r : Vals xs us) (f : Nat → Nat) : ∀ ms : List Nat, Vals (ms.filterMap fun m => xs[f m]?) (ms.filterMap fun m => us[f m]?)
  | [] => .nil
  | m :: ms => by
    cases e : xs[f m]? with
    | none =>
      rw [List.filterMap_cons, List.filterMap_cons, e, r.none_of e]
      exact pick_vals_aux r f ms
    | some x =>
      obtain ⟨u, e2, ru⟩ := r.get e
      rw [List.filterMap_cons, List.filterMap_cons, e, e2]
      exact .cons ru (pick_vals_aux r f ms)
theorem pick_vals {xs : List V} {us : List Value} (r : Vals xs us) (lo : Option Int) (k : Int) : Vals (pickT xs lo k) (pickT us lo k) := by
  unfold pickT
  rw [r.length]
  exact pick_vals_aux r _ _
theorem pick_rps_aux {K : PySem.W.Frag} {H : Hp} {l : List D} {vs : List V} (r : Rps K H l vs) (f : Nat → Nat) : ∀ ms : List Nat, Rps K H (ms.filterMap fun m => l[f m]?) (ms.filterMap fun m => vs[f m]?)
  | [] => rfl
  | m :: ms => by
    cases e : l[f m]? with
    | none =>
      have e2 : vs[f m]? = none := by
        rw [List.getElem?_eq_none_iff] at e ⊢
        rw [r.length]
        exact e
      rw [List.filterMap_cons, List.filterMap_cons, e, e2]
      exact pick_rps_aux r f ms
    | some x =>
      obtain ⟨u, e2, ru⟩ := r.get e
      rw [List.filterMap_cons, List.filterMap_cons, e, e2]
      exact Rps.cons ru (pick_rps_aux r f ms)
theorem pick_rps {K : PySem.W.Frag} {H : Hp} {l : List D} {vs : List V} (r : Rps K H l vs) (lo : Option Int) (k : Int) : Rps K H (pickT l lo k) (pickT vs lo k) := by
  unfold pickT
  rw [r.length]
  exact pick_rps_aux r _ _
section
variable {X : Cx} {Wh : WX} {A : AE} {a e : Expr} {pos : Pos}
def tPt (o : Option Int) : TO := fun _ H Q => Q o H
def tSt (K : PySem.W.Frag) (te : TE) (lo : Option Int) (k : Int) : TE := fun σ H Q => te σ H fun x H1 => ∃ a xs, x = .ref a ∧ ((SqL K H1 a xs ∧ lo = none ∧ k = -1 ∧ ∀ p, H1 p = none → Q (.ref p) (upd H1 p (.lst xs.reverse))) ∨ (SqT K H1 a xs ∧ k ≠ 0 ∧ k ≠ 1 ∧ (pickT xs lo k).length ≤ sizeLine ∧ ∀ p, H1 p = none → Q (.ref p) (upd H1 p (.tup (pickT xs lo k)))))
theorem pe_st {te : TE} {lx : Option Expr} {sx : Expr} {lo : Option Int} {k : Int} {p3 : Pos} (he : PE X e te) (hlo : PO X lx (tPt lo)) (hst : PO X (some sx) (tPt (some k))) : PE X (.Subscript e (.Slice lx none (some sx) p3) pos) (tSt X.K te lo k) := by
  refine ⟨fun pins s σ H Q I h => ?_⟩
  refine Subscript_ (thn (he.run pins s σ H _ I h) fun v s1 ⟨x, H1, I1, r1, q1⟩ => ?_)
  obtain ⟨a, xs, ex, q1⟩ := q1
  subst ex
  cases r1
  refine wpAny_Slice (thn (hlo.run pins s1 σ H1 (fun o H2 => o = lo ∧ H2 = H1) I1 ⟨rfl, rfl⟩) fun vl s2 ⟨l, H2, I2, pl, el, e2⟩ => ?_)
  subst el e2
  refine thn (po_none.run pins s2 σ H2 (fun o H3 => o = none ∧ H3 = H2) I2 ⟨rfl, rfl⟩) fun vu s3 ⟨u, H3, I3, pu, eu, e3⟩ => ?_
  subst eu e3
  refine thn (hst.run pins s3 σ H3 (fun o H4 => o = some k ∧ H4 = H3) I3 ⟨rfl, rfl⟩) fun vs s4 ⟨o, H4, I4, ps, eo, e4⟩ => ?_
  subst eo e4
  have I5 : Inv X pins σ H4 { s4 with heap := s4.heap.push { cls := .type "slice", data := .fields #[vl, vu, vs] } } := I4.kept (t' := s4.toks) fun b ob q => Heap.get?_push_of_some _ q
  show wpAny (model X.prog X.w) X.A (subscriptTail e (.Slice lx none (some sx) p3) (.ref a) (.ref s4.heap.objs.size)) (EP X pins σ Q) X.xe { s4 with heap := s4.heap.push { cls := .type "slice", data := .fields #[vl, vu, vs] } }
  rcases q1 with ⟨hx, rfl, rfl, q⟩ | ⟨hx, hk0, hk1, hsz, q⟩
  · obtain ⟨its, r, ht, hz⟩ := I5.list hx
    have hlen := r.length
    refine tail_any (ops := [.ref a, .ref s4.heap.objs.size]) ht.isList.typeIs (PySem.slot_list_getitem.lookup) ?_ (by with_unfolding_all rfl)
    refine wpAny_getItem_list_slice ht.isList (Heap.IsSliceOf.new _ vl vu vs) pl pu ps (by decide) ?_ (by rw [List.size_toArray]; omega)
    rw [PySem.W.krv_pick]
    refine ⟨.ref _, _, I5.laid (t' := s4.toks) (o := .lst xs.reverse) (fun b ob q => Heap.get?_push_of_some _ q) (Nat.le_refl _) ?_, rfl, q _ (I5.hok.fresh (Nat.le_refl _))⟩
    exact ⟨by rw [List.length_reverse]; exact hz, _, 0, r.reverse, Heap.get?_push_size _ rfl⟩
  · obtain ⟨its, r, ht, hz⟩ := I5.tuple hx
    have pv := pick_vals r l k
    have el : (pickT its l k).length ≤ sizeLine := by rw [← pv.length]; exact hsz
    refine tail_any (ops := [.ref a, .ref s4.heap.objs.size]) ht.typeIs (PyProof.Rows.slot_tuple_getitem.lookup) ?_ (by with_unfolding_all rfl)
    refine getItem_tuple_st ht (Heap.IsSliceOf.new _ vl vu vs) pl pu ps hk0 hk1 ?_ (by simpa using el)
    refine ⟨.ref _, _, I5.laid (t' := s4.toks) (o := .tup (pickT xs l k)) (fun b ob q => Heap.get?_push_of_some _ q) (Nat.le_refl _) ?_, rfl, q _ (I5.hok.fresh (Nat.le_refl _))⟩
    exact ⟨hsz, _, pv, IsTup.new _ _⟩
theorem Rps.rev' {K : PySem.W.Frag} {H : Hp} : ∀ {l : List D} {vs : List V}, Rps K H l vs → Rps K H l.reverse vs.reverse
  | [], vs, r => by
    cases (show vs = [] from r)
    exact rfl
  | d :: l, vs, r => by
    obtain ⟨v, vr, rfl, r1, r2⟩ := r
    rw [List.reverse_cons, List.reverse_cons]
    exact Rps.append (Rps.rev' r2) (Rps.one r1)
theorem l_st {lx : Option Expr} {sx : Expr} {lo : Option Int} {k : Int} {p3 : Pos} (ha : PE X a (LE X.K Wh A)) (hlo : PO X lx (tPt lo)) (hst : PO X (some sx) (tPt (some k))) : PE X (.Subscript a (.Slice lx none (some sx) p3) pos) (LE X.K Wh fun ρ S P W => A ρ S (fun x S1 => stS x lo k S1 P) W) :=
  PE.imp (pe_st ha hlo hst) fun σ H Q ⟨ρ, S, W, P, se, wl, pl, h⟩ => by
    refine ⟨ρ, S, W, _, se, wl, fun x S1 h1 v H1 k1 s1 r1 => ?_, h⟩
    cases x <;> (try exact (show False from h1).elim)
    · rename_i p
      cases r1
      obtain ⟨e1, e2, h'⟩ := (show lo = none ∧ k = -1 ∧ (match S1 p with
        | some (.lst _ l) => ∀ p, S1 p = none → P (.ref p) (S1.up p (.lst true l.reverse))
        | _ => False) from h1)
      split at h'
      · rename_i w l e
        obtain ⟨vs, q1, r1⟩ := s1.rd e
        exact ⟨p, vs, rfl, .inl ⟨q1, e1, e2, fun q hq => (pl.at k1).newL s1 r1.rev' hq h'⟩⟩
      · exact h'.elim
    · rename_i l
      obtain ⟨p, vs, rfl, q, rr⟩ := r1
      obtain ⟨e1, e2, e3, h'⟩ := (show k ≠ 0 ∧ k ≠ 1 ∧ (pickT l lo k).length ≤ sizeLine ∧ P (.tup (pickT l lo k)) S1 from h1)
      have pr := pick_rps rr lo k
      exact ⟨p, vs, rfl, .inr ⟨q, e1, e2, by rw [pr.length]; exact e3, fun p hp => (pl.at k1).newT s1 pr hp h'⟩⟩
theorem po_pt_none : PO X none (tPt none) := ⟨fun pins s σ H Q I h => po_none.run pins s σ H Q I h⟩
theorem po_pt_int {i : Int} {j : Nat} {p : Pos} : PO X (some (.Constant (.int i) j p)) (tPt (some i)) := ⟨fun pins s σ H Q I h => (po_some pe_int).run pins s σ H Q I ⟨i, rfl, h⟩⟩
theorem po_pt_neg {i : Int} {j : Nat} {p p2 : Pos} : PO X (some (.UnaryOp .USub (.Constant (.int i) j p) p2)) (tPt (some (-i))) := ⟨fun pins s σ H Q I h => (po_some (pe_un un_neg pe_int)).run pins s σ H Q I ⟨i, rfl, -i, rfl, h⟩⟩
end
section
variable {X : Cx} {Wh : WX} {Γ : Gam} {A B C : AE} {As : AA} {a b c e : Expr} {es rest : List Expr} {pos : Pos}
/-! ### slices -/
theorem sl_abs {K : PySem.W.Frag} {H : Hp} {S : Sto} {P : PD} {Q : VK} {x : D} {v : V} {lo hi : Option Int} (h : slS x lo hi S P) (s : StoOk K H S) (r : Rp K H x v) (pl : PLe K H P Q) : rSlL K v lo hi H Q ∨ rSlA K v lo hi H Q := by
  cases x <;> (try exact (show False from h).elim)
  case tup l =>
    obtain ⟨a, vs, rfl, q, rr⟩ := r
    have h' : P (.tup (cutD l lo hi)) S := h
    have hl := rr.length
    refine .inr ⟨a, vs, rfl, q, fun z => ?_, fun _ p hp => pl.newT s (cut_rps rr lo hi) hp h'⟩
    have e : cutD l lo hi = l := by
      unfold cutD
      rw [← hl, z.1, z.2, List.drop_zero, Nat.sub_zero]
      exact List.take_of_length_le (by omega)
    rw [e] at h'
    exact pl.now h' s ⟨a, vs, rfl, q, rr⟩
  rename_i p
  cases r
  have h' : (match S p with
    | some (.lst _ l) => ∀ p, S p = none → P (.ref p) (S.up p (.lst true (cutD l lo hi)))
    | _ => False) := h
  split at h'
  · rename_i w l e
    obtain ⟨vs, q1, r1⟩ := s.rd e
    exact .inl ⟨p, vs, rfl, q1, fun q hq => pl.newL s (cut_rps r1 lo hi) hq h'⟩
  · exact h'.elim
theorem l_sl {lo hi : Option Expr} {p2 : Pos} (ha : PE X a (LE X.K Wh A)) (hl : PO X lo (LO X.K Wh B)) (hh : PO X hi (LO X.K Wh C)) :
    PE X (.Subscript a (.Slice lo hi none p2) pos) (LE X.K Wh fun ρ S P W => A ρ S (fun x S1 => B ρ S1 (fun l S2 => partS l fun l => C ρ S2 (fun h S3 => partS h fun h => slS x l h S3 P) W) W) W) :=
  PE.imp (pe_slice (sl_list.or sl_tupA) ha hl hh) fun σ H Q ⟨ρ, S, W, P, se, wl, pl, h⟩ => by
    refine ⟨ρ, S, W, _, se, wl, fun x S1 h1 v H1 k1 s1 r1 => ⟨ρ, S1, W, _, se.at k1 s1, wl.at k1, fun l S2 h2 H2 k2 s2 => ?_, h1⟩, h⟩
    cases l <;> first
      | exact (show False from h2).elim
      | exact ⟨ρ, S2, W, _, se.at (k1.trans k2) s2, wl.at (k1.trans k2), fun d S3 h3 H3 k3 s3 => by
          cases d <;> first
            | exact (show False from h3).elim
            | exact sl_abs h3 s3 (Rp.kp (k2.trans k3) _ r1) (pl.at ((k1.trans k2).trans k3)), h2⟩
/-! ### calls -/
def FLe (K : PySem.W.Frag) (H : Hp) (W : FW) (E : XK) : Prop := ∀ k f S, W k f S → ∀ d H', Kp H H' → StoOk K H' S → FldOk K H' k d f → E (.ref (gaK K (clsN k))) d H'
def spOf (K : PySem.W.Frag) (n : Nat) (c : Con) : Sp := fun vs H Q E => vs.length = n ∧ ∃ ds S P W, Rps K H ds vs ∧ StoOk K H S ∧ PLe K H P Q ∧ FLe K H W E ∧ c ds S P W
theorem l_fn {k : Nat} {x : Str} {f : Addr} {fd : FuncData} {ps : List Str} {lev : Nat} {p : Pos} (tk : Takes X Wh) (F : FnOk X.prog X.w X.K X.mg X.base (L2.CX X.prog X.w) lev f fd ps (spOf X.K (Γ.ar k) (Γ.fn k))) (hr : Room lev X.A) (hg : Gl X x) (hm : X.mg x = some (.ref f)) (hk : PySem.W.keepIn X.K (.ref f) = true)
    (hb : Binds X.K fd ps []) (ha : PA X (e :: es) (LA X.K Wh As)) (hdb : (x == ("__debug__" : Str)) = false) (he : starEach (e :: es) X.env = (false, eval e X.env) :: starEach es X.env) (hpl : (backTo pos (starEach es X.env)).any (·.1) = false) :
    PE X (.Call (.Name x p) (e :: es) [] pos) (LE X.K Wh fun ρ S P W => As ρ S (fun ds S1 => ds.length = Γ.ar k ∧ Γ.fn k ds S1 P (fun c f S2 => W c f ρ S2)) W) :=
  PE.imp (pe_callS F hr hg hm hk hb (fun σ => passAt tk σ) ha hdb he hpl) fun σ H Q ⟨ρ, S, W, P, se, wl, pl, h⟩ =>
    ⟨ρ, S, W, _, se, wl, fun ds S1 h1 vs H1 k1 s1 r1 => ⟨by rw [r1.length]; exact h1.1, ds, S1, P, _, r1, s1, pl.at k1, fun c f S2 w d H2 k2 s2 fl => wl c f ρ S2 w d σ H2 (k1.trans k2) (se.at (k1.trans k2) s2) fl, h1.2⟩, h⟩
/-- a call with no arguments -/
theorem l_fn0 {k : Nat} {x : Str} {f : Addr} {fd : FuncData} {ps : List Str} {lev : Nat} {p : Pos} (tk : Takes X Wh) (F : FnOk X.prog X.w X.K X.mg X.base (L2.CX X.prog X.w) lev f fd ps (spOf X.K (Γ.ar k) (Γ.fn k))) (hr : Room lev X.A) (hg : Gl X x) (hm : X.mg x = some (.ref f)) (hk : PySem.W.keepIn X.K (.ref f) = true)
    (hb : Binds X.K fd ps []) (hdb : (x == ("__debug__" : Str)) = false) : PE X (.Call (.Name x p) [] [] pos) (LE X.K Wh fun ρ S P W => 0 = Γ.ar k ∧ Γ.fn k [] S P (fun c f S2 => W c f ρ S2)) := by
  constructor
  intro pins s σ H Q I ⟨ρ, S, W, P, se, wl, pl, h1, h2⟩
  have sp : spOf X.K (Γ.ar k) (Γ.fn k) [] H Q (WE Wh σ) := ⟨h1, [], S, P, _, rfl, se.sto, pl, fun c f S2 w d H2 k2 s2 fl => wl c f ρ S2 w d σ H2 k2 (se.at k2 s2) fl, h2⟩
  exact wpAny_Call_Name_kw (ld_glob I hg hm (PySem.W.callWith_K0 I.kIn hk (run_fnS (us := []) (E := fun σ => WE Wh σ) F hr hb (passAt tk σ) I .nil sp)) hdb)
/-! ### built-ins -/
def CallAbs (K : PySem.W.Frag) (r : List V → Hp → VK → Prop) (f : List D → Sto → PD → Prop) : Prop := ∀ ds S P, f ds S P → ∀ H vs Q, StoOk K H S → Rps K H ds vs → PLe K H P Q → r vs H Q
theorem l_cb {x : Str} {id : String} {r : List V → Hp → VK → Prop} {f : List D → Sto → PD → Prop} {p : Pos} (hc : CallR X (.builtin id) r) (hab : CallAbs X.K r f) (hg : Gl X x) (hm : X.mg x = none) (hv : bootBuiltins x = some (.builtin id)) (ha : PA X (e :: es) (LA X.K Wh As)) (hn : x ≠ "__name__") (hdb : (x == ("__debug__" : Str)) = false)
    (he : starEach (e :: es) X.env = (false, eval e X.env) :: starEach es X.env) (hpl : (backTo pos (starEach es X.env)).any (·.1) = false) : PE X (.Call (.Name x p) (e :: es) [] pos) (LE X.K Wh fun ρ S P W => As ρ S (fun ds S1 => f ds S1 P) W) :=
  PE.imp (pe_callB hc hg hm hv ha hn hdb he hpl) fun σ H Q ⟨ρ, S, W, P, se, wl, pl, h⟩ => ⟨ρ, S, W, _, se, wl, fun ds S1 h1 vs H1 k1 s1 r1 => hab _ _ _ h1 _ _ _ s1 r1 (pl.at k1), h⟩
theorem l_ct {x : Str} {T : String} {r : List V → Hp → VK → Prop} {f : List D → Sto → PD → Prop} {p : Pos} (hc : CallR X (.type T) r) (hab : CallAbs X.K r f) (hg : Gl X x) (hm : X.mg x = none) (hv : bootBuiltins x = some (.type T)) (ha : PA X (e :: es) (LA X.K Wh As)) (hn : x ≠ "__name__") (hdb : (x == ("__debug__" : Str)) = false)
    (he : starEach (e :: es) X.env = (false, eval e X.env) :: starEach es X.env) (hpl : (backTo pos (starEach es X.env)).any (·.1) = false) : PE X (.Call (.Name x p) (e :: es) [] pos) (LE X.K Wh fun ρ S P W => As ρ S (fun ds S1 => f ds S1 P) W) :=
  PE.imp (pe_callTy hc hg hm hv ha hn hdb he hpl) fun σ H Q ⟨ρ, S, W, P, se, wl, pl, h⟩ => ⟨ρ, S, W, _, se, wl, fun ds S1 h1 vs H1 k1 s1 r1 => hab _ _ _ h1 _ _ _ s1 r1 (pl.at k1), h⟩
end
end Sd
namespace Sd
open PySem PySem.Spec PyProof.Rows L2
section
variable {X : Cx} {K : PySem.W.Frag} {H : Hp} {S : Sto}
theorem Rps.one' {d : D} {vs : List V} (r : Rps K H [d] vs) : ∃ v, vs = [v] ∧ Rp K H d v := by
  obtain ⟨v, t, rfl, h, e⟩ := r
  rw [show t = [] from e]
  exact ⟨v, rfl, h⟩
theorem Rps.two' {d d' : D} {vs : List V} (r : Rps K H [d, d'] vs) : ∃ v w, vs = [v, w] ∧ Rp K H d v ∧ Rp K H d' w := by
  obtain ⟨v, t, rfl, h, e⟩ := r
  obtain ⟨w, rfl, h2⟩ := Rps.one' e
  exact ⟨v, w, rfl, h, h2⟩
theorem Rps.nil' {vs : List V} (r : Rps K H [] vs) : vs = [] := r
theorem intL_rps : ∀ {l : List D} {vs : List V} {ns : List Int}, Rps K H l vs → intL l = some ns → vs = ns.map V.int
  | [], _, _, r, e => by
    rw [r.nil']
    simp only [intL, Option.some.injEq] at e
    subst e
    rfl
  | d :: l, _, _, r, e => by
    obtain ⟨v, t, rfl, h, q⟩ := r
    cases d <;> (try (simp [intL] at e; done))
    simp only [intL] at e
    cases z : intL l with
    | none => rw [z] at e; cases e
    | some m =>
      rw [z] at e
      simp only [Option.some.injEq] at e
      subst e
      cases h
      rw [intL_rps q z]
      rfl
theorem boolL_rps : ∀ {l : List D} {vs : List V} {ns : List Bool}, Rps K H l vs → boolL l = some ns → vs = ns.map V.bl
  | [], _, _, r, e => by
    rw [r.nil']
    simp only [boolL, Option.some.injEq] at e
    subst e
    rfl
  | d :: l, _, _, r, e => by
    obtain ⟨v, t, rfl, h, q⟩ := r
    cases d <;> (try (simp [boolL] at e; done))
    simp only [boolL] at e
    cases z : boolL l with
    | none => rw [z] at e; cases e
    | some m =>
      rw [z] at e
      simp only [Option.some.injEq] at e
      subst e
      cases h
      rw [boolL_rps q z]
      rfl
theorem lstD_rd {d : D} {v : V} {l : List D} (s : StoOk K H S) (r : Rp K H d v) (e : lstD S d = some l) : ∃ a vs, v = .ref a ∧ SqL K H a vs ∧ Rps K H l vs := by
  cases d <;> (try (simp [lstD] at e; done))
  rename_i a
  cases r
  simp only [lstD] at e
  split at e
  · rename_i w m q
    simp only [Option.some.injEq] at e
    subst e
    obtain ⟨vs, q1, r1⟩ := s.rd q
    exact ⟨a, vs, rfl, q1, r1⟩
  · cases e
theorem seqD_rd {d : D} {v : V} {l : List D} (s : StoOk K H S) (r : Rp K H d v) (e : seqD S d = some l) : ∃ a vs, v = .ref a ∧ (SqL K H a vs ∨ SqT K H a vs) ∧ Rps K H l vs := by
  cases d <;> (try (simp [seqD] at e; done))
  · rename_i a
    cases r
    simp only [seqD] at e
    split at e
    · rename_i w m q
      simp only [Option.some.injEq] at e
      subst e
      obtain ⟨vs, q1, r1⟩ := s.rd q
      exact ⟨a, vs, rfl, .inl q1, r1⟩
    · cases e
  · simp only [seqD, Option.some.injEq] at e
    subst e
    obtain ⟨a, vs, rfl, q, rs⟩ := r
    exact ⟨a, vs, rfl, .inr q, rs⟩
theorem ab_str : CallAbs K (fun xs H Q => ∃ i, xs = [.int i] ∧ i.natAbs.log2 < 1920 ∧ Q (.str (toString i)) H) (biS .str) := by
  intro ds S P h H vs Q s r pl
  match ds, h with
  | [.int i], h =>
    obtain ⟨v, rfl, rv⟩ := r.one'
    cases rv
    exact ⟨i, rfl, h.1, pl.now h.2 s rfl⟩
theorem ab_abs : CallAbs K (fun xs H Q => ∃ i, xs = [.int i] ∧ Q (.int (if i < 0 then -i else i)) H) (biS .abs) := by
  intro ds S P h H vs Q s r pl
  match ds, h with
  | [.int i], h =>
    obtain ⟨v, rfl, rv⟩ := r.one'
    cases rv
    exact ⟨i, rfl, pl.now h s rfl⟩
theorem ab_int : CallAbs K (fun xs H Q => (∃ i, xs = [.int i] ∧ Q (.int i) H) ∨ ∃ k, xs = [.bl k] ∧ Q (.int (if k then 1 else 0)) H) (biS .int) := by
  intro ds S P h H vs Q s r pl
  match ds, h with
  | [.int i], h =>
    obtain ⟨v, rfl, rv⟩ := r.one'
    cases rv
    exact .inl ⟨i, rfl, pl.now h s rfl⟩
  | [.bl i], h =>
    obtain ⟨v, rfl, rv⟩ := r.one'
    cases rv
    exact .inr ⟨i, rfl, pl.now h s rfl⟩
theorem ab_min2 : CallAbs K (fun xs H Q => ∃ i j, xs = [.int i, .int j] ∧ Q (.int (if j < i then j else i)) H) (biS .min2) := by
  intro ds S P h H vs Q s r pl
  match ds, h with
  | [.int i, .int j], h =>
    obtain ⟨v, w, rfl, rv, rw'⟩ := r.two'
    cases rv; cases rw'
    exact ⟨i, j, rfl, pl.now h s rfl⟩
theorem ab_max2 : CallAbs K (fun xs H Q => ∃ i j, xs = [.int i, .int j] ∧ Q (.int (if j > i then j else i)) H) (biS .max2) := by
  intro ds S P h H vs Q s r pl
  match ds, h with
  | [.int i, .int j], h =>
    obtain ⟨v, w, rfl, rv, rw'⟩ := r.two'
    cases rv; cases rw'
    exact ⟨i, j, rfl, pl.now h s rfl⟩
def rLenA (K : PySem.W.Frag) : List V → Hp → VK → Prop := fun xs H Q => (∃ p ys, xs = [.ref p] ∧ (SqL K H p ys ∨ SqT K H p ys) ∧ Q (.int ys.length) H) ∨ ∃ z, xs = [.str z] ∧ z.length ≤ sizeLine ∧ Q (.int z.length) H
theorem cr_lenA : CallR X (.builtin "len") (rLenA X.K) := call_len_seq.or call_len_str
theorem one_of {α : Type} {ds : List α} {p : Prop} (h : match ds with | [_] => p | _ => False) : ∃ d, ds = [d] := by
  match ds, h with
  | [d], _ => exact ⟨d, rfl⟩
theorem ab_len : CallAbs K (rLenA K) (biS .len) := by
  intro ds S P h H vs Q s r pl
  match ds, h with
  | [d], h =>
    obtain ⟨v, rfl, rv⟩ := r.one'
    have h' : (match seqD S d with
      | some l => P (.int l.length) S
      | none => (match d with
        | .str z => z.length ≤ sizeLine ∧ P (.int z.length) S
        | _ => False)) := by cases d <;> exact h
    split at h'
    · rename_i l e
      obtain ⟨a, us, rfl, q, rs⟩ := seqD_rd s rv e
      exact .inl ⟨a, us, rfl, q, by rw [rs.length]; exact pl.now h' s rfl⟩
    · cases d <;> (try exact (show False from h').elim)
      cases rv
      exact .inr ⟨_, rfl, h'.1, pl.now h'.2 s rfl⟩
theorem ab_sum : CallAbs K (rSum K) (biS .sum) := by
  intro ds S P h H vs Q s r pl
  match ds, h with
  | [d], h =>
    obtain ⟨v, rfl, rv⟩ := r.one'
    have h' : (match lstD S d with
      | some l => (match intL l with
        | some ns => P (.int ns.sum) S
        | none => False)
      | none => False) := by cases d <;> exact h
    split at h'
    · rename_i l e
      obtain ⟨a, us, rfl, q, rs⟩ := lstD_rd s rv e
      split at h'
      · rename_i ns en
        exact ⟨a, ns, rfl, by rw [← intL_rps rs en]; exact q, pl.now h' s rfl⟩
      · exact h'.elim
    · exact h'.elim
theorem ab_min1 : CallAbs K (rMin K) (biS .min1) := by
  intro ds S P h H vs Q s r pl
  match ds, h with
  | [d], h =>
    obtain ⟨v, rfl, rv⟩ := r.one'
    have h' : (match lstD S d with
      | some l => (match intL l with
        | some ns => 0 < ns.length ∧ ∀ m, m ∈ ns → (∀ y, y ∈ ns → m ≤ y) → P (.int m) S
        | none => False)
      | none => False) := by cases d <;> exact h
    split at h'
    · rename_i l e
      obtain ⟨a, us, rfl, q, rs⟩ := lstD_rd s rv e
      split at h'
      · rename_i ns en
        exact ⟨a, ns, rfl, by rw [← intL_rps rs en]; exact q, h'.1, fun m h1 h2 => pl.now (h'.2 m h1 h2) s rfl⟩
      · exact h'.elim
    · exact h'.elim
theorem ab_max1 : CallAbs K (rMax K) (biS .max1) := by
  intro ds S P h H vs Q s r pl
  match ds, h with
  | [d], h =>
    obtain ⟨v, rfl, rv⟩ := r.one'
    have h' : (match lstD S d with
      | some l => (match intL l with
        | some ns => 0 < ns.length ∧ ∀ m, m ∈ ns → (∀ y, y ∈ ns → y ≤ m) → P (.int m) S
        | none => False)
      | none => False) := by cases d <;> exact h
    split at h'
    · rename_i l e
      obtain ⟨a, us, rfl, q, rs⟩ := lstD_rd s rv e
      split at h'
      · rename_i ns en
        exact ⟨a, ns, rfl, by rw [← intL_rps rs en]; exact q, h'.1, fun m h1 h2 => pl.now (h'.2 m h1 h2) s rfl⟩
      · exact h'.elim
    · exact h'.elim
theorem ab_all : CallAbs K (rAll K) (biS .all) := by
  intro ds S P h H vs Q s r pl
  match ds, h with
  | [d], h =>
    obtain ⟨v, rfl, rv⟩ := r.one'
    have h' : (match lstD S d with
      | some l => (match boolL l with
        | some ns => P (.bl (ns.all id)) S
        | none => False)
      | none => False) := by cases d <;> exact h
    split at h'
    · rename_i l e
      obtain ⟨a, us, rfl, q, rs⟩ := lstD_rd s rv e
      split at h'
      · rename_i ns en
        exact ⟨a, ns, rfl, by rw [← boolL_rps rs en]; exact q, pl.now h' s rfl⟩
      · exact h'.elim
    · exact h'.elim
theorem ab_any : CallAbs K (rAny K) (biS .any) := by
  intro ds S P h H vs Q s r pl
  match ds, h with
  | [d], h =>
    obtain ⟨v, rfl, rv⟩ := r.one'
    have h' : (match lstD S d with
      | some l => (match boolL l with
        | some ns => P (.bl (ns.any id)) S
        | none => False)
      | none => False) := by cases d <;> exact h
    split at h'
    · rename_i l e
      obtain ⟨a, us, rfl, q, rs⟩ := lstD_rd s rv e
      split at h'
      · rename_i ns en
        exact ⟨a, ns, rfl, by rw [← boolL_rps rs en]; exact q, pl.now h' s rfl⟩
      · exact h'.elim
    · exact h'.elim
theorem ab_list : CallAbs K (fun xs H Q => ∃ p ys, xs = [.ref p] ∧ (SqL K H p ys ∨ SqT K H p ys) ∧ ∀ l, H l = none → Q (.ref l) (upd H l (.lst ys))) (biS .list) := by
  intro ds S P h H vs Q s r pl
  match ds, h with
  | [d], h =>
    obtain ⟨v, rfl, rv⟩ := r.one'
    have h' : (match seqD S d with
      | some l => ∀ p, S p = none → P (.ref p) (S.up p (.lst true l))
      | none => False) := by cases d <;> exact h
    split at h'
    · rename_i l e
      obtain ⟨a, us, rfl, q, rs⟩ := seqD_rd s rv e
      exact ⟨a, us, rfl, q, fun p hp => pl.newL s rs hp h'⟩
    · exact h'.elim
theorem ab_tuple : CallAbs K (fun xs H Q => ∃ p ys, xs = [.ref p] ∧ ((SqL K H p ys ∧ ∀ l, H l = none → Q (.ref l) (upd H l (.tup ys))) ∨ (SqT K H p ys ∧ Q (.ref p) H))) (biS .tuple) := by
  intro ds S P h H vs Q s r pl
  match ds, h with
  | [d], h =>
    obtain ⟨v, rfl, rv⟩ := r.one'
    have h' : (match seqD S d with
      | some l => P (.tup l) S
      | none => False) := by cases d <;> exact h
    split at h'
    · rename_i l e
      obtain ⟨a, us, rfl, q, rs⟩ := seqD_rd s rv e
      rcases q with q | q
      · exact ⟨a, us, rfl, .inl ⟨q, fun p hp => pl.newT s rs hp h'⟩⟩
      · exact ⟨a, us, rfl, .inr ⟨q, pl.now h' s ⟨a, us, rfl, q, rs⟩⟩⟩
    · exact h'.elim
theorem rps_ints : ∀ (ns : List Int), Rps K H (ns.map D.int) (ns.map V.int)
  | [] => rfl
  | n :: ns => ⟨.int n, ns.map V.int, rfl, rfl, rps_ints ns⟩
theorem ab_sorted : CallAbs K (rSortedI K) (biS .sorted) := by
  intro ds S P h H vs Q s r pl
  match ds, h with
  | [d], h =>
    obtain ⟨v, rfl, rv⟩ := r.one'
    have h' : (match lstD S d with
      | some l => (match intL l with
        | some ns => ∀ (ns' : List Int) (p : Addr), ns'.Perm ns → ns'.Pairwise (· ≤ ·) → S p = none → P (.ref p) (S.up p (.lst true (ns'.map D.int)))
        | none => False)
      | none => False) := by cases d <;> exact h
    split at h'
    · rename_i l e
      obtain ⟨a, us, rfl, q, rs⟩ := lstD_rd s rv e
      split at h'
      · rename_i ns en
        exact ⟨a, ns, rfl, by rw [← intL_rps rs en]; exact q, fun ns' p h1 h2 hp => pl.newL s (rps_ints ns') hp fun p hp => h' ns' p h1 h2 hp⟩
      · exact h'.elim
    · exact h'.elim
end
/-- where a built-in stands -/
inductive BV where
  | fn (id : String)
  | ty (T : String)
def biV : BI → BV
  | .abs => .fn "abs" | .len => .fn "len" | .int => .ty "int" | .min2 => .fn "min" | .max2 => .fn "max" | .min1 => .fn "min" | .max1 => .fn "max" | .sum => .fn "sum" | .all => .fn "all" | .any => .fn "any" | .list => .ty "list" | .tuple => .ty "tuple" | .str => .ty "str" | .sorted => .fn "sorted"
def biX : BI → Str
  | .abs => "abs" | .len => "len" | .int => "int" | .min2 => "min" | .max2 => "max" | .min1 => "min" | .max1 => "max" | .sum => "sum" | .all => "all" | .any => "any" | .list => "list" | .tuple => "tuple" | .str => "str" | .sorted => "sorted"
def BV.val : BV → Value
  | .fn id => .builtin id
  | .ty T => .type T
theorem bi_boot (b : BI) : bootBuiltins (biX b) = some (biV b).val := by
  cases b <;> decide +kernel
theorem bi_all {X : Cx} (hc : X.calm = true) (b : BI) : ∃ r, CallR X (biV b).val r ∧ CallAbs X.K r (biS b) := by
  cases b
  case abs => exact ⟨_, call_abs, ab_abs⟩
  case len => exact ⟨_, cr_lenA, ab_len⟩
  case int => exact ⟨_, call_int1, ab_int⟩
  case min2 => exact ⟨_, call_min2 hc, ab_min2⟩
  case max2 => exact ⟨_, call_max2 hc, ab_max2⟩
  case min1 => exact ⟨_, cr_min hc, ab_min1⟩
  case max1 => exact ⟨_, cr_max hc, ab_max1⟩
  case sum => exact ⟨_, cr_sum hc, ab_sum⟩
  case all => exact ⟨_, cr_all hc, ab_all⟩
  case any => exact ⟨_, cr_any hc, ab_any⟩
  case list => exact ⟨_, call_list_of, ab_list⟩
  case tuple => exact ⟨_, call_tuple_of, ab_tuple⟩
  case str => exact ⟨_, call_str_int, ab_str⟩
  case sorted => exact ⟨_, cr_sortedI, ab_sorted⟩
section
variable {X : Cx} {Wh : WX} {As : AA} {e : Expr} {es : List Expr} {pos : Pos}
theorem l_bi {b : BI} {p : Pos} (hc : X.calm = true) (hg : Gl X (biX b)) (hm : X.mg (biX b) = none) (ha : PA X (e :: es) (LA X.K Wh As))
    (he : starEach (e :: es) X.env = (false, eval e X.env) :: starEach es X.env) (hpl : (backTo pos (starEach es X.env)).any (·.1) = false) : PE X (.Call (.Name (biX b) p) (e :: es) [] pos) (LE X.K Wh fun ρ S P W => As ρ S (fun ds S1 => biS b ds S1 P) W) := by
  obtain ⟨r, h1, h2⟩ := bi_all (X := X) hc b
  have hv := bi_boot b
  have hn : biX b ≠ "__name__" := by cases b <;> decide
  have hdb : (biX b == ("__debug__" : Str)) = false := by cases b <;> decide
  cases q : biV b with
  | fn id => rw [q] at h1 hv; exact l_cb h1 h2 hg hm hv ha hn hdb he hpl
  | ty T => rw [q] at h1 hv; exact l_ct h1 h2 hg hm hv ha hn hdb he hpl
end
end Sd
namespace Sd
open PySem PySem.Spec PyProof.Rows L2
/-! ### classes of errors -/
def btNames : List String := ["int", "bool", "tuple", "list", "str", "dict", "ValueError"]
def btKinds : List String := ["NoneType", "bool", "int", "str", "tuple", "list"]
/-- what the written part says of the k-th class -/
structure CF (K : PySem.W.Frag) (k : Nat) : Prop where
  exc : ExcC K (gaK K (clsN k))
  nof : PySem.W.findIn K (.ref (gaK K (clsN k))) (fldN k) = some none
  bts : ∀ n, n ∈ btNames → PySem.W.kitOne K (.ref (gaK K (clsN k))) (.type n) = some (n == "ValueError")
  kin : ∀ b, b ∈ btKinds → PySem.W.kitOne K (.type b) (.ref (gaK K (clsN k))) = some false
/-- of two classes -/
structure CF2 (K : PySem.W.Frag) (j k : Nat) : Prop where
  exm : PySem.W.exmOne K (.ref (gaK K (clsN j))) (.ref (gaK K (clsN k))) = some (subK j k)
  kit : PySem.W.kitOne K (.ref (gaK K (clsN j))) (.ref (gaK K (clsN k))) = some (subK j k)
structure CFs (K : PySem.W.Frag) : Prop where
  one : ∀ k, Kn K k → CF K k
  two : ∀ j k, Kn K j → Kn K k → CF2 K j k
section
variable {X : Cx} {K : PySem.W.Frag} {H : Hp} {S : Sto}
/-- the kind of a value: a datum's, a caught error's -/
inductive TyA (K : PySem.W.Frag) (H : Hp) : V → Value → Prop where
  | b {x : V} {t : Value} (h : TyX K H x t) : TyA K H x t
  | e {a C : Addr} (h : H a = some (ExV (.ref C) none a)) (c : ExcC K C) : TyA K H (.ref a) (.ref C)
theorem kit_ofA {pins : List (Addr × Obj)} {σ : L2.St} {s : Shared} {x : V} {u t : Value} (I : L2.Inv X pins σ H s) (rx : RelV x u) (ty : TyA X.K H x t) :
    ∃ P : Heap → Prop, PySem.W.KitX X.K u t P ∧ P s.heap ∧ u ≠ .builtin "__main__.__loader__#opaque" := by
  cases ty with
  | b h => exact kit_of I rx h
  | @e a C h c =>
    cases (show u = Value.ref a from rx)
    obtain ⟨⟨oe, vs, hg, hz, hd⟩, _, _⟩ := I.hok a _ h
    have J : PySem.W.InstAt s.heap a oe C none := by
      obtain ⟨oc, od, oda, osl⟩ := oe
      obtain ⟨h1, h2⟩ := hz
      dsimp only at h1 h2 hd
      subst h1 h2 hd
      exact ⟨hg, rfl, rfl, trivial⟩
    exact ⟨_, PySem.W.handS_kitx_exc c.hg c.hk c.hs c.hd c.ha c.hn c.ht c.hm, J, fun z => nomatch z⟩
def rIsA (K : PySem.W.Frag) : List V → Hp → VK → Prop := fun xs H Q => ∃ (x c : V) (t u : Value) (b : Bool), xs = [x, c] ∧ ClsV c u ∧ TyA K H x t ∧ PySem.W.kitOne K t u = some b ∧ Q (.bl b) H
def rIsAT (K : PySem.W.Frag) : List V → Hp → VK → Prop := fun xs H Q => ∃ (x : V) (tp : Addr) (cs : List V) (t : Value) (us : List Value) (b : Bool), xs = [x, .ref tp] ∧ H tp = some (.tup cs) ∧ Paired ClsV cs us ∧ TyA K H x t ∧ PySem.W.kitAny K t us = some b ∧ Q (.bl b) H
theorem cr_isA : CallR X (.builtin "isinstance") (rIsA X.K) := by
  intro pins s σ H xs us Q I r h
  obtain ⟨x, c, t, u, b, rfl, k, ty, e, q⟩ := h
  obtain ⟨w1, w2, rfl, r1, r2⟩ := vals2 r
  cases k.eq r2
  obtain ⟨P, Z, p, hx⟩ := kit_ofA I r1 ty
  exact PySem.W.kia_one Z I.kIn p e hx fun tk => ⟨.bl b, H, I.tok tk, rfl, q⟩
theorem cr_isAT : CallR X (.builtin "isinstance") (rIsAT X.K) := by
  intro pins s σ H xs us Q I r h
  obtain ⟨x, tp, cs, t, ws, b, rfl, hT, k, ty, e, q⟩ := h
  obtain ⟨w1, w2, rfl, r1, r2⟩ := vals2 r
  cases (show w2 = Value.ref tp from r2)
  obtain ⟨P, Z, p, hx⟩ := kit_ofA I r1 ty
  obtain ⟨_, its, rv, o, g1, g2, n, g3⟩ := (show ObjOk X.prog X.w H s.heap tp (.tup cs) from I.hok tp _ hT)
  cases ClsV.all k rv
  obtain ⟨oc, od, dt, sl⟩ := o
  simp only at g2 g3
  subst g2 g3
  exact PySem.W.kia_tup Z I.kIn p g1 e hx fun tk => ⟨.bl b, H, I.tok tk, rfl, q⟩
/-- what the class at c is -/
def TyF (K : PySem.W.Frag) (t : TyN) (c : V) (u : Value) : Prop := match t with
  | .bt n => n ∈ btNames ∧ c = .ty n ∧ u = .type n
  | .cl k => Kn K k ∧ c = .ref (gaK K (clsN k)) ∧ u = .ref (gaK K (clsN k))
theorem TyF.cls {t : TyN} {c : V} {u : Value} (h : TyF K t c u) : ClsV c u := by
  cases t with
  | bt n => obtain ⟨_, rfl, rfl⟩ := h; exact .ty n
  | cl k => obtain ⟨_, rfl, rfl⟩ := h; exact .own _
theorem bt_ty {d : D} {v : V} {b : String} (s : StoOk K H S) (r : Rp K H d v) (e : btOf S d = some b) : TyX K H v (.type b) ∧ b ∈ btKinds := by
  cases d with
  | non => cases r; cases e; exact ⟨.base .non, by decide⟩
  | bl c => cases r; cases e; exact ⟨.base (.bl c), by decide⟩
  | int i => cases r; cases e; exact ⟨.base (.int i), by decide⟩
  | str x => cases r; cases e; exact ⟨.base (.str x), by decide⟩
  | ty n => cases e
  | tup l =>
    cases e
    obtain ⟨a, vs, rfl, q, _⟩ := r
    refine ⟨?_, by decide⟩
    rcases q with (q | ⟨o, q⟩) | ⟨o, its, n, q, hc, _⟩
    · exact .base (.tup q)
    · exact .fTuple q
    · exact .kTuple q hc
  | ref a =>
    cases r
    simp only [btOf] at e
    split at e
    · rename_i w l q
      cases e
      refine ⟨?_, by decide⟩
      have z := s a _ q
      cases w with
      | true => obtain ⟨vs, h, _⟩ := z; exact .base (.lst h)
      | false => obtain ⟨o, vs, h, _⟩ := z; exact .base (.frz h)
    · cases e
theorem kb_all : ∀ b, b ∈ btKinds → ∀ n, n ∈ btNames → kitB b n = some (btSub b n) := by decide +kernel
theorem isi_one {d : D} {v : V} {t : TyN} {c : V} {u : Value} {b : Bool} (F : CFs K) (s : StoOk K H S) (r : Rp K H d v) (e : isiOne S d t = some b) (ty : TyF K t c u) : ∃ tv, (TyA K H v tv ∧ ∀ t' c' u' b', isiOne S d t' = some b' → TyF K t' c' u' → PySem.W.kitOne K tv u' = some b') ∧ PySem.W.kitOne K tv u = some b := by
  have key : ∃ tv, TyA K H v tv ∧ ∀ t' c' u' b', isiOne S d t' = some b' → TyF K t' c' u' → PySem.W.kitOne K tv u' = some b' := by
    unfold isiOne at e
    cases q : btOf S d with
    | some k =>
      obtain ⟨h1, h2⟩ := bt_ty s r q
      refine ⟨_, .b h1, fun t' c' u' b' e' ty' => ?_⟩
      unfold isiOne at e'
      rw [q] at e'
      cases t' with
      | bt n =>
        obtain ⟨hn, rfl, rfl⟩ := ty'
        rw [← e']
        exact kit_ty (kb_all k h2 n hn)
      | cl j =>
        obtain ⟨hn, rfl, rfl⟩ := ty'
        rw [← e']
        exact (F.one j hn).kin k h2
    | none =>
      rw [q] at e
      cases d <;> (try (cases e; done))
      rename_i a
      cases r
      dsimp only at e
      split at e
      · rename_i k q2
        obtain ⟨dd, h1, h2⟩ := s a _ q2
        obtain ⟨kn, rfl⟩ := h2
        refine ⟨_, .e h1 (F.one k kn).exc, fun t' c' u' b' e' ty' => ?_⟩
        unfold isiOne at e'
        rw [q] at e'
        dsimp only at e'
        rw [q2] at e'
        cases t' with
        | bt n =>
          obtain ⟨hn, rfl, rfl⟩ := ty'
          rw [← e']
          exact (F.one k kn).bts n hn
        | cl j =>
          obtain ⟨hn, rfl, rfl⟩ := ty'
          rw [← e']
          exact (F.two k j kn hn).kit
      · cases e
  obtain ⟨tv, h1, h2⟩ := key
  exact ⟨tv, ⟨h1, h2⟩, h2 t c u b e ty⟩
theorem isi_any {d : D} {v : V} (F : CFs K) (s : StoOk K H S) (r : Rp K H d v) {tv : Value} (h2 : ∀ t' c' u' b', isiOne S d t' = some b' → TyF K t' c' u' → PySem.W.kitOne K tv u' = some b') :
    ∀ {ts : List TyN} {cs : List V} {us : List Value} {b : Bool}, Paired (fun (q : TyN × V) u => TyF K q.1 q.2 u) (ts.zip cs) us → ts.length = cs.length → isiAny S d ts = some b → PySem.W.kitAny K tv us = some b
  | [], [], _, b, p, _, e => by
    cases p
    exact e
  | t :: ts, c :: cs, _, b, p, hl, e => by
    cases p with
    | cons h p =>
      simp only [isiAny] at e
      unfold PySem.W.kitAny
      cases q : isiOne S d t with
      | none => rw [q] at e; cases e
      | some k =>
        rw [q] at e
        rw [h2 t c _ k q h]
        cases k with
        | true => exact e
        | false => exact isi_any F s r h2 p (by simpa using hl) e
end
end Sd
namespace Sd
open PySem PySem.Spec PyProof.Rows L2
section
variable {X : Cx} {Wh : WX} {Γ : Gam} {A B C : AE} {As : AA} {a b c e : Expr} {es rest : List Expr} {pos : Pos} {K : PySem.W.Frag} {H : Hp} {S : Sto}
/-! ### isinstance -/
/-- a class's name as a value -/
def ClsE (X : Cx) (e : Expr) (t : TyN) : Prop := ∃ c u, PE X e (tC c) ∧ TyF X.K t c u ∧ ∀ es, starEach (e :: es) X.env = (false, eval e X.env) :: starEach es X.env
theorem l_isi1 {t : TyN} {te : Expr} {p : Pos} (F : CFs X.K) (hg : Gl X "isinstance") (hm : X.mg "isinstance" = none) (ha : PE X a (LE X.K Wh A)) (ht : ClsE X te t) (hs : starEach [a, te] X.env = (false, eval a X.env) :: starEach [te] X.env) :
    PE X (.Call (.Name "isinstance" p) [a, te] [] pos) (LE X.K Wh fun ρ S P W => A ρ S (fun x S1 => match isiAny S1 x [t] with
      | some b => P (.bl b) S1
      | none => False) W) := by
  obtain ⟨c, u, hc, ty, hst⟩ := ht
  have hpl : (backTo pos (starEach [te] X.env)).any (·.1) = false := by
    rw [hst []]
    rfl
  refine PE.imp (pe_callB cr_isA hg hm (by decide +kernel) (pa_cons ha (pa_cons hc pa_nil (hst [])) hs) (by decide) (by decide) hs hpl) fun σ H Q ⟨ρ, S, W, P, se, wl, pl, h⟩ => ?_
  refine ⟨ρ, S, W, _, se, wl, fun x S1 h1 v H1 k1 s1 r1 => ?_, h⟩
  cases q : isiOne S1 x t with
  | none =>
    simp only [isiAny, q] at h1
  | some b =>
    have h2 : P (.bl b) S1 := by
      simp only [isiAny, q] at h1
      cases b <;> exact h1
    obtain ⟨tv, ⟨z1, _⟩, z2⟩ := isi_one F s1 r1 q ty
    exact ⟨v, c, tv, u, b, rfl, ty.cls, z1, z2, pl _ _ h2 _ H1 k1 s1 rfl⟩
/-- several classes' names -/
inductive ClsEs (X : Cx) : List Expr → List TyN → List V → List Value → Prop where
  | nil : ClsEs X [] [] [] []
  | cons {e : Expr} {es : List Expr} {t : TyN} {ts : List TyN} {c : V} {cs : List V} {u : Value} {us : List Value} (h : PE X e (tC c)) (ty : TyF X.K t c u) (st : starEach (e :: es) X.env = (false, eval e X.env) :: starEach es X.env) (r : ClsEs X es ts cs us) : ClsEs X (e :: es) (t :: ts) (c :: cs) (u :: us)
theorem ClsEs.pa {ts : List TyN} {cs : List V} {us : List Value} (h : ClsEs X es ts cs us) : PA X es (fun _ H Q => Q cs H) := by
  induction h with
  | nil => exact PA.imp pa_nil fun _ _ _ q => q
  | cons h ty st r ih => exact PA.imp (pa_cons h ih st) fun _ _ _ q => q
theorem ClsEs.len {ts : List TyN} {cs : List V} {us : List Value} (h : ClsEs X es ts cs us) : ts.length = cs.length := by
  induction h with
  | nil => rfl
  | cons h ty st r ih => simp [ih]
theorem ClsEs.cls {ts : List TyN} {cs : List V} {us : List Value} (h : ClsEs X es ts cs us) : Paired ClsV cs us := by
  induction h with
  | nil => exact .nil
  | cons h ty st r ih => exact .cons ty.cls ih
theorem ClsEs.tyf {ts : List TyN} {cs : List V} {us : List Value} (h : ClsEs X es ts cs us) : Paired (fun (q : TyN × V) u => TyF X.K q.1 q.2 u) (ts.zip cs) us := by
  induction h with
  | nil => exact .nil
  | cons h ty st r ih => exact .cons ty ih
theorem isiAny_one {d : D} {ts : List TyN} {b : Bool} (h : isiAny S d ts = some b) (hn : ts ≠ []) : ∃ t b', t ∈ ts ∧ isiOne S d t = some b' := by
  cases ts with
  | nil => exact absurd rfl hn
  | cons t r =>
    simp only [isiAny] at h
    cases q : isiOne S d t with
    | none => rw [q] at h; cases h
    | some k => exact ⟨t, k, List.mem_cons_self, q⟩
theorem l_isiT {t : TyN} {ts : List TyN} {cs : List V} {us : List Value} {p p2 : Pos} {x1} (F : CFs X.K) (hg : Gl X "isinstance") (hm : X.mg "isinstance" = none) (ha : PE X a (LE X.K Wh A)) (ht : ClsEs X es (t :: ts) cs us) (hz : es.length ≤ 100)
    (hs : starEach [a, .Tuple es x1 p2] X.env = (false, eval a X.env) :: starEach [.Tuple es x1 p2] X.env) :
    PE X (.Call (.Name "isinstance" p) [a, .Tuple es x1 p2] [] pos) (LE X.K Wh fun ρ S P W => A ρ S (fun x S1 => match isiAny S1 x (t :: ts) with
      | some b => P (.bl b) S1
      | none => False) W) := by
  have hcl : cs.length ≤ sizeLine := by
    have h1 : ∀ {es ts cs us}, ClsEs X es ts cs us → cs.length = es.length := fun h => by
      induction h with
      | nil => rfl
      | cons _ _ _ _ ih => simp [ih]
    rw [h1 ht, sizeLine_eq]
    omega
  refine PE.imp (pe_callB cr_isAT hg hm (by decide +kernel) (pa_cons ha (pa_cons (pe_tup ht.pa) pa_nil rfl) hs) (by decide) (by decide) hs rfl) fun σ H Q ⟨ρ, S, W, P, se, wl, pl, h⟩ => ?_
  refine ⟨ρ, S, W, _, se, wl, fun x S1 h1 v H1 k1 s1 r1 => ?_, h⟩
  refine ⟨hcl, fun tp htp => ?_⟩
  have k2 := Kp.new (o := HO.tup cs) htp
  have s2 := s1.sm (Sm.new (o := HO.tup cs) htp)
  have r2 := Rp.kp k2 _ r1
  split at h1
  · rename_i b eb
    have hp2 := ht
    cases ht with
    | cons hp ty st r =>
      have q0 : ∃ b0, isiOne S1 x t = some b0 := by
        simp only [isiAny] at eb
        cases z : isiOne S1 x t with
        | none => rw [z] at eb; cases eb
        | some k => exact ⟨k, rfl⟩
      obtain ⟨b1, q1⟩ := q0
      obtain ⟨tv, ⟨z1, z2⟩, _⟩ := isi_one F s2 r2 q1 ty
      exact ⟨v, tp, _, tv, _, b, rfl, upd_same, hp2.cls, z1, isi_any F s2 r2 z2 hp2.tyf hp2.len eb, pl _ _ h1 _ _ (k1.trans k2) s2 rfl⟩
  · exact h1.elim
/-! ### methods of lists -/
def meId : ME → String
  | .append => "list.append" | .pop0 => "list.pop" | .pop1 => "list.pop" | .reverse => "list.reverse" | .clear => "list.clear" | .extend => "list.extend" | .insert => "list.insert"
def MeAbs (K : PySem.W.Frag) (r : V → List V → Hp → VK → Prop) (f : D → List D → Sto → PD → Prop) : Prop := ∀ x ds S P, f x ds S P → ∀ H v vs Q, StoOk K H S → Rp K H x v → Rps K H ds vs → PLe K H P Q → r v vs H Q
theorem me_lst {m : ME} {x : D} {ds : List D} {P : PD} (h : meS m x ds S P) : ∃ a l, x = .ref a ∧ S a = some (.lst true l) := by
  cases x <;> (try exact (show False from h).elim)
  rename_i a
  unfold meS at h
  dsimp only at h
  split at h
  · rename_i l e
    exact ⟨a, l, rfl, e⟩
  · exact h.elim
/-- a list changed, the answer None -/
theorem PLe.put {P : PD} {Q : VK} {p : Addr} {l' : List D} {xs ys : List V} {d : D} {v : V} (h : PLe K H P Q) (s : StoOk K H S) (hp : H p = some (.lst xs)) (hr : Rps K H l' ys) (q : P d (S.up p (.lst true l'))) (r : Rp K H d v) : Q v (upd H p (.lst ys)) :=
  h _ _ q _ _ (Kp.lst hp) (s.lst (l := l') hp hr) (Rp.kp (Kp.lst hp) _ r)
theorem me_append : MeAbs K rAppend (meS .append) := by
  intro x ds S P h H v vs Q s rx rs pl
  obtain ⟨a, l, rfl, e⟩ := me_lst h
  cases rx
  simp only [meS, e] at h
  match ds, h with
  | [y], h =>
    obtain ⟨u, rfl, ru⟩ := rs.one'
    obtain ⟨xs, h1, h2⟩ := s a _ e
    exact ⟨a, xs, u, rfl, rfl, h1, by rw [h2.length]; exact h.1, pl.put s h1 (h2.append (Rps.one ru)) h.2 rfl⟩
theorem me_pop0 : MeAbs K rPop (meS .pop0) := by
  intro x ds S P h H v vs Q s rx rs pl
  obtain ⟨a, l, rfl, e⟩ := me_lst h
  cases rx
  simp only [meS, e] at h
  match ds, h with
  | [], h =>
    cases rs.nil'
    obtain ⟨xs, h1, h2⟩ := s a _ e
    dsimp only at h
    split at h
    · rename_i y ey
      obtain ⟨u, e2, ru⟩ := h2.get ey
      refine ⟨a, xs, u, rfl, rfl, h1, by rw [h2.length]; exact e2, pl.put s h1 ?_ h ru⟩
      rw [List.dropLast_eq_take, List.dropLast_eq_take, h2.length]
      exact h2.take _
    · exact h.elim
theorem Rps.rev : ∀ {l : List D} {vs : List V}, Rps K H l vs → Rps K H l.reverse vs.reverse
  | [], _, h => by rw [h.nil']; rfl
  | d :: l, _, h => by
    obtain ⟨v, r, rfl, a, t⟩ := h
    rw [List.reverse_cons, List.reverse_cons]
    exact (Rps.rev t).append (Rps.one a)
theorem me_reverse : MeAbs K rReverse (meS .reverse) := by
  intro x ds S P h H v vs Q s rx rs pl
  obtain ⟨a, l, rfl, e⟩ := me_lst h
  cases rx
  simp only [meS, e] at h
  match ds, h with
  | [], h =>
    cases rs.nil'
    obtain ⟨xs, h1, h2⟩ := s a _ e
    exact ⟨a, xs, rfl, rfl, h1, pl.put s h1 h2.rev h rfl⟩
theorem me_clear : MeAbs K rClear (meS .clear) := by
  intro x ds S P h H v vs Q s rx rs pl
  obtain ⟨a, l, rfl, e⟩ := me_lst h
  cases rx
  simp only [meS, e] at h
  match ds, h with
  | [], h =>
    cases rs.nil'
    obtain ⟨xs, h1, h2⟩ := s a _ e
    exact ⟨a, xs, rfl, rfl, h1, pl.put s h1 (show Rps K H [] [] from rfl) h rfl⟩
def rInsert : V → List V → Hp → VK → Prop := fun x vs H Q => ∃ (l : Addr) (xs : List V) (i : Int) (y : V), x = .ref l ∧ vs = [.int i, y] ∧ H l = some (.lst xs) ∧ xs.length < sizeLine ∧ 0 ≤ i ∧ i < 2 ^ 63 ∧
    Q .non (upd H l (.lst (xs.take i.toNat ++ [y] ++ xs.drop i.toNat)))
theorem me_insert : MeAbs K rInsert (meS .insert) := by
  intro x ds S P h H v vs Q s rx rs pl
  obtain ⟨a, l, rfl, e⟩ := me_lst h
  cases rx
  simp only [meS, e] at h
  match ds, h with
  | [.int i, y], h =>
    obtain ⟨u, w, rfl, ru, rw'⟩ := rs.two'
    cases ru
    obtain ⟨xs, h1, h2⟩ := s a _ e
    exact ⟨a, xs, i, w, rfl, rfl, h1, by rw [h2.length]; exact h.1, h.2.1, h.2.2.1, pl.put s h1 (((h2.take _).append (Rps.one rw')).append (h2.drop _)) h.2.2.2 rfl⟩
theorem me_extend : MeAbs K rExtend (meS .extend) := by
  intro x ds S P h H v vs Q s rx rs pl
  obtain ⟨a, l, rfl, e⟩ := me_lst h
  cases rx
  simp only [meS, e] at h
  match ds, h with
  | [.ref b], h =>
    obtain ⟨u, rfl, ru⟩ := rs.one'
    cases ru
    obtain ⟨xs, h1, h2⟩ := s a _ e
    dsimp only at h
    split at h
    · rename_i m eb
      obtain ⟨ys, h3, h4⟩ := s b _ eb
      exact ⟨a, b, xs, ys, rfl, rfl, h1, h3, by rw [h2.length, h4.length]; exact h.1, pl.put s h1 (h2.append h4) h.2 rfl⟩
    · exact h.elim
end
end Sd
namespace Sd
open PySem PySem.Spec PyProof.Rows L2
section
variable {X : Cx} {Wh : WX} {Γ : Gam} {A B C : AE} {As : AA} {a b c e : Expr} {es rest : List Expr} {pos apos : Pos} {K : PySem.W.Frag} {H : Hp} {S : Sto}
/-! ### methods, called -/
theorem tyL {x : D} {v : V} (s : StoOk K H S) (e : isL S x) (r : Rp K H x v) : tyV K "list" v H := by
  cases x <;> (try exact (show False from e).elim)
  rename_i p
  cases r
  simp only [isL] at e
  split at e
  · rename_i l q
    obtain ⟨xs, h, _⟩ := s p _ q
    exact .inl ⟨rfl, xs, .inl (.inl h)⟩
  · exact e.elim
theorem l_me {m : ME} {name : Str} {r : V → List V → Hp → VK → Prop} (slot : Slot "list" name (meId m)) (hty : typeOf (.builtin (meId m)) = pure (.type "method_descriptor")) (hm : MtR X (meId m) r) (hab : MeAbs X.K r (meS m)) (ho : PE X a (LE X.K Wh A)) (ha : PA X (e :: es) (LA X.K Wh As))
    (hbase : attributeBase a name X.env (eval a X.env) = eval a X.env) (hs : starEach (e :: es) X.env = (false, eval e X.env) :: starEach es X.env) (hpl : (backTo pos (starEach es X.env)).any (·.1) = false) (hl : (e :: es).length < 20) (hline : (apos.endLine == pos.line) = true)
    (hall : (backTo pos (starEach (e :: es) X.env)).all (fun x => !x.1) = true) :
    PE X (.Call (.Attribute a name apos) (e :: es) [] pos) (LE X.K Wh fun ρ S P W => A ρ S (fun x S1 => isL S1 x ∧ As ρ S1 (fun ds S2 => meS m x ds S2 P) W) W) := by
  have hfew : ((backTo pos (starEach (e :: es) X.env)).all (fun x => !x.1) && (backToKw pos (keywordEach [] X.env)).all (fun x => x.1.isSome) && decide ((e :: es).length + ([] : List Keyword).length + (if ([] : List Keyword).isEmpty then 0 else 1) < 30)) = true := by
    rw [hall, Bool.true_and]
    have z : decide ((e :: es).length + ([] : List Keyword).length + (if ([] : List Keyword).isEmpty then 0 else 1) < 30) = true := decide_eq_true (by simp only [List.isEmpty_nil, if_true, List.length_nil]; omega)
    rw [z]
    rfl
  refine PE.imp (pe_bm PySem.F.plainAttrs_list slot hty hm ho ha hbase hfew hline hs hpl) fun σ H Q ⟨ρ, S, W, P, se, wl, pl, h⟩ => ?_
  exact ⟨ρ, S, W, _, se, wl, fun x S1 h1 v H1 k1 s1 r1 => ⟨tyL s1 h1.1 r1, ρ, S1, W, _, se.at k1 s1, wl.at k1, fun ds S2 h2 vs H2 k2 s2 r2 => hab _ _ _ _ h2 _ _ _ _ s2 (Rp.kp k2 _ r1) r2 (pl.at (k1.trans k2)), h1.2⟩, h⟩
theorem l_me0 {m : ME} {name : Str} {r : V → List V → Hp → VK → Prop} (slot : Slot "list" name (meId m)) (hty : typeOf (.builtin (meId m)) = pure (.type "method_descriptor")) (hm : MtR X (meId m) r) (hab : MeAbs X.K r (meS m)) (ho : PE X a (LE X.K Wh A))
    (hbase : attributeBase a name X.env (eval a X.env) = eval a X.env) (hline : (apos.endLine == pos.line) = true) :
    PE X (.Call (.Attribute a name apos) [] [] pos) (LE X.K Wh fun ρ S P W => A ρ S (fun x S1 => isL S1 x ∧ meS m x [] S1 P) W) := by
  refine PE.imp (pe_bm0 PySem.F.plainAttrs_list slot hty hm ho hbase hline) fun σ H Q ⟨ρ, S, W, P, se, wl, pl, h⟩ => ?_
  exact ⟨ρ, S, W, _, se, wl, fun x S1 h1 v H1 k1 s1 r1 => ⟨tyL s1 h1.1 r1, hab _ _ _ _ h1.2 _ _ _ _ s1 r1 (show Rps X.K H1 [] [] from rfl) (pl.at k1)⟩, h⟩
/-! ### targets -/
def Agr (sl : List Nat) (σ σ' : L2.St) : Prop := σ'.length = σ.length ∧ ∀ i, i ∉ sl → σ'[i]? = σ[i]?
theorem Agr.refl (sl : List Nat) (σ : L2.St) : Agr sl σ σ := ⟨rfl, fun _ _ => rfl⟩
theorem Agr.trans {sl : List Nat} {σ σ1 σ2 : L2.St} (a : Agr sl σ σ1) (b : Agr sl σ1 σ2) : Agr sl σ σ2 := ⟨b.1.trans a.1, fun i h => (b.2 i h).trans (a.2 i h)⟩
theorem Agr.mono {sl sl' : List Nat} {σ σ' : L2.St} (a : Agr sl σ σ') (h : ∀ i, i ∈ sl → i ∈ sl') : Agr sl' σ σ' := ⟨a.1, fun i n => a.2 i fun z => n (h i z)⟩
theorem wipe_get {σ : L2.St} {i : Nat} : ∀ (vs : List Nat), i ∈ vs → (wipe σ vs)[i]? = if i < σ.length then some none else none
  | [], h => by simp at h
  | v :: vs, h => by
    unfold wipe
    by_cases e : v = i
    · subst e
      by_cases hl : v < σ.length
      · rw [List.getElem?_set_self (by rw [wipe_length]; exact hl), if_pos hl]
      · rw [if_neg hl, List.getElem?_eq_none (by rw [List.length_set, wipe_length]; omega)]
    · rw [List.getElem?_set_ne e]
      exact wipe_get vs (by rcases List.mem_cons.mp h with z | z; exact absurd z.symm e; exact z)
theorem wipe_not {σ : L2.St} {i : Nat} : ∀ (vs : List Nat), i ∉ vs → (wipe σ vs)[i]? = σ[i]?
  | [], _ => rfl
  | v :: vs, h => by
    unfold wipe
    rw [List.getElem?_set_ne (fun e => h (by rw [e]; exact List.mem_cons_self))]
    exact wipe_not vs fun z => h (List.mem_cons_of_mem _ z)
theorem Agr.wipe {sl vs : List Nat} {σ σ' : L2.St} (a : Agr sl σ σ') (h : ∀ i, i ∈ sl → i ∈ vs) : L2.wipe σ' vs = L2.wipe σ vs := by
  apply List.ext_getElem?
  intro i
  by_cases hi : i ∈ vs
  · rw [wipe_get vs hi, wipe_get vs hi, a.1]
  · rw [wipe_not vs hi, wipe_not vs hi]
    exact a.2 i fun z => hi (h i z)
theorem wipe_idem {σ : L2.St} {vs : List Nat} : L2.wipe (L2.wipe σ vs) vs = L2.wipe σ vs := by
  apply List.ext_getElem?
  intro i
  by_cases hi : i ∈ vs
  · rw [wipe_get vs hi, wipe_get vs hi, wipe_length]
  · rw [wipe_not vs hi]
def GLe (K : PySem.W.Frag) (H : Hp) (sl : List Nat) (σ : L2.St) (P : DSt → Sto → Prop) (Q : L2.St → Hp → Prop) : Prop := ∀ ρ' S', P ρ' S' → ∀ σ' H', Kp H H' → Sees K H' σ' ρ' S' → Agr sl σ σ' → Q σ' H'
def LG (K : PySem.W.Frag) (Wh : WX) (sl : List Nat) (A : ATg) : TG := fun v σ H Q => ∃ d ρ S W P, Rp K H d v ∧ Sees K H σ ρ S ∧ WLe K H W Wh ∧ GLe K H sl σ P Q ∧ A d ρ S P W
def LGs (K : PySem.W.Frag) (Wh : WX) (sl : List Nat) (A : ATgs) : TGs := fun vs σ H Q => ∃ ds ρ S W P, Rps K H ds vs ∧ Sees K H σ ρ S ∧ WLe K H W Wh ∧ GLe K H sl σ P Q ∧ A ds ρ S P W
theorem PG.imp {tg : Expr} {t t' : TG} (h : PG X tg t) (i : ∀ v σ H Q, t' v σ H Q → t v σ H Q) : PG X tg t' := ⟨fun pins s σ H v u Q I r hw => h.run pins s σ H v u Q I r (i v σ H Q hw)⟩
theorem PG.or {tg : Expr} {t t' : TG} (h : PG X tg t) (h' : PG X tg t') : PG X tg (fun v σ H Q => t v σ H Q ∨ t' v σ H Q) := ⟨fun pins s σ H v u Q I r hw => hw.elim (h.run pins s σ H v u Q I r) (h'.run pins s σ H v u Q I r)⟩
theorem PGs.imp {tg : List Expr} {t t' : TGs} (h : PGs X tg t) (i : ∀ v σ H Q, t' v σ H Q → t v σ H Q) : PGs X tg t' := ⟨fun pins s σ H v u Q I r hw => h.run pins s σ H v u Q I r (i v σ H Q hw)⟩
theorem g_nm {i : Nat} {x : Str} {sl : List Nat} (hN : X.N.Nodup) (hi : X.N[i]? = some x) (hx : Loc X.env.scope x) (hf : X.fn x = true ∨ X.env.scope.names.lookup x = some .local) (hm : i ∈ sl) : PG X (.Name x pos) (LG X.K Wh sl fun d ρ S P _ => P (ρ.set i (some d)) S) :=
  PG.imp (pg_name hN hi hx hf) fun v σ H Q ⟨d, ρ, S, W, P, r, se, wl, gl, h⟩ => gl _ _ h _ H (Kp.refl H) (se.set i r) ⟨by simp, fun j hj => by rw [List.getElem?_set_ne (fun e => hj (by rw [← e]; exact hm))]⟩
theorem gs_nil {sl : List Nat} : PGs X [] (LGs X.K Wh sl fun ds ρ S P _ => match ds with
    | [] => P ρ S
    | _ => False) :=
  PGs.imp pgs_nil fun v σ H Q ⟨ds, ρ, S, W, P, r, se, wl, gl, h⟩ => by
    cases ds with
    | nil => exact ⟨r.nil', gl _ _ h _ H (Kp.refl H) se (Agr.refl _ _)⟩
    | cons d ds => exact h.elim
theorem gs_cons {sl : List Nat} {G : ATg} {Gs : ATgs} (h1 : PG X e (LG X.K Wh sl G)) (h2 : PGs X es (LGs X.K Wh sl Gs)) (hs : (assignEach (e :: es) X.env).map (·.2) = assign e X.env :: (assignEach es X.env).map (·.2)) : PGs X (e :: es) (LGs X.K Wh sl fun ds ρ S P W => match ds with
    | d :: r => G d ρ S (fun ρ1 S1 => Gs r ρ1 S1 P W) W
    | _ => False) :=
  PGs.imp (pgs_cons h1 h2 hs) fun v σ H Q ⟨ds, ρ, S, W, P, r, se, wl, gl, h⟩ => by
    cases ds with
    | nil => exact h.elim
    | cons d ds =>
      obtain ⟨u, us, rfl, r1, r2⟩ := r
      exact ⟨u, us, rfl, d, ρ, S, W, _, r1, se, wl, fun ρ1 S1 q1 σ1 H1 k1 se1 ag1 => ⟨ds, ρ1, S1, W, P, Rps.kp k1 _ r2, se1, wl.at k1, fun ρ2 S2 q2 σ2 H2 k2 se2 ag2 => gl _ _ q2 σ2 H2 (k1.trans k2) se2 (ag1.trans ag2), q1⟩, h⟩
theorem g_tp {sl : List Nat} {Gs : ATgs} {k n : Nat} (hc : X.calm = true) (h : PGs X es (LGs X.K Wh sl Gs)) (hn : (assignEach es X.env).length = n) (hst : (assignEach es X.env).findIdx? (·.1) = none) : PG X (.Tuple es k pos) (LG X.K Wh sl fun d ρ S P W => match d with
    | .tup l => l.length = n ∧ Gs l ρ S P W
    | .ref a => (match S a with
      | some (.lst _ l) => l.length = n ∧ Gs l ρ S P W
      | _ => False)
    | _ => False) :=
  PG.imp (PG.or (pg_tup hc h hn hst) (pg_lst hc h hn hst)) fun v σ H Q ⟨d, ρ, S, W, P, r, se, wl, gl, h⟩ => by
    cases d <;> (try exact (show False from h).elim)
    · rename_i a
      cases r
      have h' : (match S a with
        | some (.lst _ l) => l.length = n ∧ Gs l ρ S P W
        | _ => False) := h
      split at h'
      · rename_i w l e
        obtain ⟨vs, q, rs⟩ := se.sto.rd e
        exact .inr ⟨a, vs, rfl, q, by rw [rs.length]; exact h'.1, _, ρ, S, W, P, rs, se, wl, gl, h'.2⟩
      · exact h'.elim
    · obtain ⟨p, vs, rfl, q, rs⟩ := r
      exact .inl ⟨p, vs, rfl, q, by rw [rs.length]; exact h.1, _, ρ, S, W, P, rs, se, wl, gl, h.2⟩
theorem g_ix {sl : List Nat} (ho : PE X a (LE X.K Wh A)) (hi : PE X b (LE X.K Wh B)) (hs : ∀ v, assign (.Subscript a b pos) X.env v = (do
      let ov ← holding [v] (eval a X.env)
      let iv ← holding [v, ov] (eval b X.env)
      standAt pos
      holding [v, ov, iv] (setItem ov iv v)
      release [v, ov, iv] [])) : PG X (.Subscript a b pos) (LG X.K Wh sl fun d ρ S P W => A ρ S (fun x S1 => B ρ S1 (fun y S2 => match x, y with
    | .ref a, .int k => (match S2 a with
      | some (.lst true l) => (match ixN l.length k with
        | some j => P ρ (S2.up a (.lst true (l.set j d)))
        | none => False)
      | _ => False)
    | _, _ => False) W) W) :=
  PG.imp (pg_sub ho hi set_list hs) fun v σ H Q ⟨d, ρ, S, W, P, r, se, wl, gl, h⟩ => by
    refine ⟨ρ, S, W, _, se, wl, fun x S1 h1 xv H1 k1 s1 r1 => ⟨ρ, S1, W, _, se.at k1 s1, wl.at k1, fun y S2 h2 yv H2 k2 s2 r2 => ?_, h1⟩, h⟩
    cases x <;> cases y <;> (try exact (show False from h2).elim)
    rename_i p k
    cases r1; cases r2
    dsimp only at h2
    split at h2
    · rename_i l e
      obtain ⟨xs, q1, q2⟩ := s2 p _ e
      split at h2
      · rename_i j ej
        have k12 := k1.trans k2
        exact ⟨p, xs, k, j, rfl, rfl, q1, by rw [q2.length]; exact ej, gl _ _ h2 σ _ (k12.trans (Kp.lst q1)) (se.at (k12.trans (Kp.lst q1)) (s2.lst (l := l) q1 (q2.set (Rp.kp k12 _ r) j))) (Agr.refl _ _)⟩
      · exact h2.elim
    · exact h2.elim
end
end Sd
namespace Sd
open PySem PySem.Spec PyProof.Rows L2
section
variable {X : Cx} {Wh : WX} {Γ : Gam} {A B C : AE} {As : AA} {a b c e tg iter : Expr} {es rest : List Expr} {pos : Pos} {K : PySem.W.Frag} {H : Hp} {S : Sto}
/-! ### what is walked -/
structure Wk (K : PySem.W.Frag) (J : It) (ds : List D) (src : Src) (H1 : Hp) : Prop where
  go : ∀ i H S, i < ds.length → Kp H1 H → StoOk K H S → src.ok S → J.go i H
  yld : ∀ i H S x H', i < ds.length → Kp H1 H → StoOk K H S → src.ok S → J.yld i H x H' → Sm H H' ∧ ∃ d, ds[i]? = some d ∧ Rp K H' d x
  stop : ∀ H S, Kp H1 H → StoOk K H S → src.ok S → J.stop ds.length H
def LI (K : PySem.W.Frag) (Wh : WX) (A : AI) : TI := fun σ H R => ∃ ρ S W P, Sees K H σ ρ S ∧ WLe K H W Wh ∧ (∀ ds src S1, P ds src S1 → ∀ J H1, Kp H H1 → StoOk K H1 S1 → Wk K J ds src H1 → R J H1) ∧ A ρ S P W
theorem PI.imp {t t' : TI} (h : PI X tg iter t) (i : ∀ σ H R, t' σ H R → t σ H R) : PI X tg iter t' := ⟨fun pins s σ H R I hw => h.run pins s σ H R I (i σ H R hw)⟩
/-- a list or a tuple -/
theorem pi_seq {l : Expr} {tl : TE} (hl : PE X l tl) : PI X tg l (fun σ H R => tl σ H fun x H1 => ∃ a, x = .ref a ∧ (((∃ xs, SqL X.K H1 a xs) ∧ R (Itl X.K a) H1) ∨ ((∃ xs, SqT X.K H1 a xs) ∧ R (Itt X.K a) H1))) := by
  refine ⟨fun pins s σ H R I h => ?_⟩
  refine thn (hl.run pins s σ H _ I h) fun v s1 ⟨x, H1, I1, r1, p, ex, q1⟩ => ?_
  subst ex
  cases r1
  rcases q1 with ⟨⟨xs, hq⟩, q⟩ | ⟨⟨xs, hq⟩, q⟩
  · obtain ⟨its, rv, pl, hz⟩ := I1.list hq
    refine wpAny_pyIter_list pl.isList ⟨_, [s1.heap.objs.size], _, _, H1, rfl, I1.kept (t' := s1.toks) fun z o ez => Heap.get?_push_of_some _ ez, turn_list p _, ⟨_, Heap.get?_push_size _ rfl, rfl, rfl⟩, fun z hz => ?_, q⟩
    cases (show z = s1.heap.objs.size by simpa using hz)
    exact I1.fpOk (Nat.le_refl _) I1.fresh
  · obtain ⟨its, rv, pl, hz⟩ := I1.tuple hq
    refine wpAny_pyIter_tuple (show s1.heap.IsTuple p its.toArray from pl) ⟨_, [s1.heap.objs.size], _, _, H1, rfl, I1.kept (t' := s1.toks) fun z o ez => Heap.get?_push_of_some _ ez, turn_tuple p _, ⟨_, Heap.get?_push_size _ rfl, rfl, rfl⟩, fun z hz => ?_, q⟩
    cases (show z = s1.heap.objs.size by simpa using hz)
    exact I1.fpOk (Nat.le_refl _) I1.fresh
theorem wk_list {a : Addr} {w : Bool} {l : List D} {H1 : Hp} : Wk K (Itl K a) l (.lst a w l) H1 where
  go := fun i H S hi _ s e => by
    obtain ⟨vs, q, r⟩ := s.rd e
    have hl := r.length
    exact ⟨vs, vs[i], q, List.getElem?_eq_getElem (by omega)⟩
  yld := fun i H S x H' hi _ s e y => by
    obtain ⟨vs, q, r⟩ := s.rd e
    obtain ⟨rfl, y⟩ := y
    obtain ⟨d, e1, e2⟩ := r.getV (y vs q)
    exact ⟨fun _ _ z => z, d, e1, e2⟩
  stop := fun H S _ s e => by
    obtain ⟨vs, q, r⟩ := s.rd e
    exact ⟨vs, q, by rw [r.length]; exact Nat.le_refl _⟩
theorem SqT.inj {H : Hp} {a : Addr} {xs ys : List V} (hk : ∀ o, K.lookup a = some o → H a = none) (h : SqT K H a xs) (h' : SqT K H a ys) : xs = ys := by
  rcases h with (h | ⟨o, h⟩) | ⟨o, its, n, h, _, hd, _, hv⟩ <;> rcases h' with (h' | ⟨o', h'⟩) | ⟨o', its', n', h', _, hd', _, hv'⟩
  · rw [h] at h'; cases h'; rfl
  · rw [h] at h'; cases h'
  · have := hk _ h'; rw [h] at this; cases this
  · rw [h] at h'; cases h'
  · rw [h] at h'; cases h'; rfl
  · have := hk _ h'; rw [h] at this; cases this
  · have := hk _ h; rw [h'] at this; cases this
  · have := hk _ h; rw [h'] at this; cases this
  · rw [h] at h'
    cases h'
    rw [hd] at hd'
    cases hd'
    exact Vals.inj hv hv'
theorem wk_tup {a : Addr} {l : List D} {vs : List V} {H1 : Hp} (q : SqT K H1 a vs) (r : Rps K H1 l vs) : Wk K (Itt K a) l .free H1 where
  go := fun i H S hi k s _ => by
    have hl := r.length
    exact ⟨vs, vs[i], SqT.kp k q, List.getElem?_eq_getElem (by omega)⟩
  yld := fun i H S x H' hi k s _ y => by
    obtain ⟨rfl, y⟩ := y
    obtain ⟨d, e1, e2⟩ := r.getV (y vs (SqT.kp k q))
    exact ⟨fun _ _ z => z, d, e1, Rp.kp k _ e2⟩
  stop := fun H S k s _ => ⟨vs, SqT.kp k q, by rw [r.length]; exact Nat.le_refl _⟩
theorem rng_len {lo : Int} {n : Nat} : (rngItems lo n).length = n := by simp [rngItems]
theorem rng_get {lo : Int} {n i : Nat} (h : i < n) : (rngItems lo n)[i]? = some (D.int (lo + (i : Int))) := by
  unfold rngItems
  rw [List.getElem?_map, List.getElem?_range h]
  rfl
theorem wk_rng {lo : Int} {n : Nat} {H1 : Hp} : Wk K (Itr lo n) (rngItems lo n) .free H1 where
  go := fun i H S hi _ _ _ => by rw [rng_len] at hi; exact hi
  yld := fun i H S x H' hi _ _ _ y => by
    rw [rng_len] at hi
    obtain ⟨rfl, rfl⟩ := y
    exact ⟨fun _ _ z => z, _, rng_get hi, rfl⟩
  stop := fun H S _ _ _ => by rw [rng_len]; exact Nat.le_refl _
theorem i_seq (hl : PE X e (LE X.K Wh A)) : PI X tg e (LI X.K Wh fun ρ S P W => A ρ S (fun d S1 => match d with
    | .tup l => P l .free S1
    | .ref a => (match S1 a with
      | some (.lst w l) => P l (.lst a w l) S1
      | _ => False)
    | _ => False) W) :=
  PI.imp (pi_seq hl) fun σ H R ⟨ρ, S, W, P, se, wl, il, h⟩ => ⟨ρ, S, W, _, se, wl, fun d S1 h1 v H1 k1 s1 r1 => by
    cases d <;> (try exact (show False from h1).elim)
    · rename_i p
      cases r1
      dsimp only at h1
      split at h1
      · rename_i w l ep
        obtain ⟨vs, q, r⟩ := s1.rd ep
        exact ⟨p, rfl, .inl ⟨⟨vs, q⟩, il _ _ _ h1 _ H1 k1 s1 wk_list⟩⟩
      · exact h1.elim
    · rename_i l
      obtain ⟨p, vs, rfl, q, r⟩ := r1
      exact ⟨p, rfl, .inr ⟨⟨vs, q⟩, il _ _ _ h1 _ H1 k1 s1 (wk_tup q r)⟩⟩, h⟩
theorem i_rng1 {p : Pos} (hg : Gl X "range") (hm : X.mg "range" = none) (ha : PE X a (LE X.K Wh A)) (hs : starEach [a] X.env = [(false, eval a X.env)]) : PI X tg (.Call (.Name "range" p) [a] [] pos) (LI X.K Wh fun ρ S P W => A ρ S (fun d S1 => match d with
    | .int j => (-(2 ^ 62) ≤ j ∧ j < 2 ^ 62) ∧ P (rngItems 0 j.toNat) .free S1
    | _ => False) W) :=
  PI.imp (pi_range1 hg hm (pa_cons ha pa_nil hs) hs) fun σ H R ⟨ρ, S, W, P, se, wl, il, h⟩ => ⟨ρ, S, W, _, se, wl, fun d S1 h1 v H1 k1 s1 r1 => by
    cases d <;> (try exact (show False from h1).elim)
    rename_i j
    cases r1
    exact ⟨j, rfl, h1.1.1, h1.1.2, il _ _ _ h1.2 _ H1 k1 s1 wk_rng⟩, h⟩
theorem i_rng2 {p : Pos} (hg : Gl X "range") (hm : X.mg "range" = none) (ha : PE X a (LE X.K Wh A)) (hb : PE X b (LE X.K Wh B)) (hs2 : starEach [b] X.env = [(false, eval b X.env)]) (hs : starEach [a, b] X.env = (false, eval a X.env) :: starEach [b] X.env) : PI X tg (.Call (.Name "range" p) [a, b] [] pos) (LI X.K Wh fun ρ S P W => A ρ S (fun d S1 => B ρ S1 (fun e S2 => match d, e with
    | .int i, .int j => (-(2 ^ 62) ≤ i ∧ i < 2 ^ 62 ∧ -(2 ^ 62) ≤ j ∧ j < 2 ^ 62) ∧ P (rngItems i (j - i).toNat) .free S2
    | _, _ => False) W) W) :=
  PI.imp (pi_range2 hg hm (pa_cons ha (pa_cons hb pa_nil hs2) hs) (by rw [hs, hs2]) hs2) fun σ H R ⟨ρ, S, W, P, se, wl, il, h⟩ => ⟨ρ, S, W, _, se, wl, fun d S1 h1 v H1 k1 s1 r1 => ⟨ρ, S1, W, _, se.at k1 s1, wl.at k1, fun d2 S2 h2 v2 H2 k2 s2 r2 => by
    cases d <;> cases d2 <;> (try exact (show False from h2).elim)
    rename_i i j
    cases r1; cases r2
    exact ⟨i, j, rfl, h2.1, il _ _ _ h2.2 _ H2 (k1.trans k2) s2 wk_rng⟩, h1⟩, h⟩
theorem zip_len {l m : List D} : (zipD l m).length = min l.length m.length := by
  unfold zipD
  rw [List.length_map, List.length_zip]
theorem wk_zip {a b : Addr} {w v : Bool} {l m : List D} {H1 : Hp} : Wk K (Itz K a b) (zipD l m) (.two a w l b v m) H1 where
  go := fun i H S hi _ s e => by
    rw [zip_len] at hi
    obtain ⟨vs, q, r⟩ := s.rd e.1
    obtain ⟨us, q2, r2⟩ := s.rd e.2
    have hl := r.length
    have hl2 := r2.length
    exact ⟨vs, us, vs[i], us[i], q, q2, List.getElem?_eq_getElem (by omega), List.getElem?_eq_getElem (by omega)⟩
  yld := fun i H S x H' hi _ s e y => by
    obtain ⟨vs, q, r⟩ := s.rd e.1
    obtain ⟨us, q2, r2⟩ := s.rd e.2
    obtain ⟨T, x1, y1, rfl, hT, rfl, f1, f2⟩ := y
    obtain ⟨d, e1, e2⟩ := r.getV (f1 vs q)
    obtain ⟨d', e3, e4⟩ := r2.getV (f2 us q2)
    refine ⟨Sm.new hT, .tup [d, d'], ?_, T, [x1, y1], rfl, .inl (.inl upd_same), ?_⟩
    · unfold zipD
      rw [List.getElem?_map, List.getElem?_zip_eq_some (z := (d, d')).mpr ⟨e1, e3⟩]
      rfl
    · exact ⟨x1, [y1], rfl, Rp.kp (Kp.new hT) _ e2, y1, [], rfl, Rp.kp (Kp.new hT) _ e4, rfl⟩
  stop := fun H S _ s e => by
    obtain ⟨vs, q, r⟩ := s.rd e.1
    obtain ⟨us, q2, r2⟩ := s.rd e.2
    have hl := r.length
    have hl2 := r2.length
    refine ⟨vs, us, q, q2, ?_⟩
    rw [zip_len]
    omega
theorem i_zip {p tpos : Pos} {elts : List Expr} {kk : Nat} (hg : Gl X "zip") (hm : X.mg "zip" = none) (ha : PE X a (LE X.K Wh A)) (hb : PE X b (LE X.K Wh B)) (hs2 : starEach [b] X.env = [(false, eval b X.env)]) (hs : starEach [a, b] X.env = (false, eval a X.env) :: starEach [b] X.env) : PI X (.Tuple elts kk tpos) (.Call (.Name "zip" p) [a, b] [] pos) (LI X.K Wh fun ρ S P W => A ρ S (fun x S1 => B ρ S1 (fun y S2 => match x, y with
    | .ref p, .ref q => (match S2 p, S2 q with
      | some (.lst w l), some (.lst v m) => P (zipD l m) (.two p w l q v m) S2
      | _, _ => False)
    | _, _ => False) W) W) :=
  PI.imp (RZ.pi_zipA hg hm (pa_cons ha (pa_cons hb pa_nil hs2) hs) hs (by rw [hs2]; rfl)) fun σ H R ⟨ρ, S, W, P, se, wl, il, h⟩ => ⟨ρ, S, W, _, se, wl, fun d S1 h1 v H1 k1 s1 r1 => ⟨ρ, S1, W, _, se.at k1 s1, wl.at k1, fun d2 S2 h2 v2 H2 k2 s2 r2 => by
    cases d <;> cases d2 <;> (try exact (show False from h2).elim)
    rename_i i j
    cases r1; cases r2
    dsimp only at h2
    split at h2
    · rename_i w l v' m e1 e2
      obtain ⟨vs, q, r⟩ := s2.rd e1
      obtain ⟨us, q2, r2⟩ := s2.rd e2
      exact ⟨i, j, vs, us, rfl, .inl ⟨q, q2, il _ _ _ h2 _ H2 (k1.trans k2) s2 wk_zip⟩⟩
    · exact h2.elim, h1⟩, h⟩
/-! ### comprehensions -/
theorem wipe_sees {σ : L2.St} {ρ : DSt} (se : Sees K H σ ρ S) : ∀ vs : List Nat, Sees K H (L2.wipe σ vs) (wipeD ρ vs) S
  | [] => se
  | v :: vs => by
    unfold L2.wipe wipeD
    exact (wipe_sees se vs).unset v none
theorem lc_imp {own : List Nat} {wi : AI} {g : ATg} {tt : AT} {te : AE} {σ : L2.St} {Q : VK}
    (hw : LE K Wh (fun ρ S P W => wi ρ S (fun ds src S1 => ∀ p, S1 p = none → lcS g tt te src p (wipeD ρ own) (fun S2 => P (.ref p) S2) ds (S1.up p (.lst true []))) W) σ H Q) :
    tLc (LI K Wh wi) (LG K (fun _ _ _ _ => False) own g) (LT K (fun _ _ _ _ => False) tt) (LE K (fun _ _ _ _ => False) te) own σ H Q := by
  obtain ⟨ρ, S, W, P, se, wl, pl, h⟩ := hw
  refine ⟨ρ, S, W, _, se, wl, fun ds src S1 h1 J H1 k1 s1 wk => fun p hp => ?_, h⟩
  have s1n : S1 p = none := s1.free hp
  have h2 := h1 p s1n
  have so2 : StoOk K (upd H1 p (.lst [])) (S1.up p (.lst true [])) := s1.new hp ⟨[], upd_same, rfl⟩
  refine ⟨fun i m H2 => m = ds.length - i ∧ i ≤ ds.length ∧ Kp H1 H2 ∧ ∃ S2, StoOk K H2 S2 ∧ lcS g tt te src p (wipeD ρ own) (fun S2 => P (.ref p) S2) (ds.drop i) S2, ⟨ds.length, by simp, Nat.zero_le _, Kp.new hp, _, so2, by simpa using h2⟩, ?_⟩
  rintro i m H2 ⟨rfl, hi2, k2, S2, so, hl⟩
  by_cases hlt : i < ds.length
  · rw [List.drop_eq_getElem_cons hlt] at hl
    simp only [lcS] at hl
    obtain ⟨hsrc, hl⟩ := hl
    refine .inr ⟨wk.go i H2 S2 hlt k2 so hsrc, fun H3 => Kp H1 H3 ∧ ∃ S3, StoOk K H3 S3 ∧ lcS g tt te src p (wipeD ρ own) (fun S2 => P (.ref p) S2) (ds.drop (i + 1)) S3, fun H3 ⟨k3, S3, so3, hl3⟩ => ⟨ds.length - (i + 1), by omega, rfl, by omega, k3, S3, so3, hl3⟩, fun x H3 y => ?_⟩
    obtain ⟨sm, d, ed, rd⟩ := wk.yld i H2 S2 x H3 hlt k2 so hsrc y
    have ed' : ds[i] = d := by
      rw [List.getElem?_eq_getElem hlt] at ed
      exact Option.some.inj ed
    rw [ed'] at hl
    have k3 : Kp H1 H3 := k2.trans sm.kp
    have se3 : Sees K H3 (L2.wipe σ own) (wipeD ρ own) S2 := wipe_sees (se.at (k1.trans k3) (so.sm sm)) _
    refine ⟨d, _, S2, _, _, rd, se3, fun _ _ _ _ w => w.elim, fun ρ4 S4 h4 σ4 H4 k4 se4 ag4 => ⟨(ag4.wipe fun _ z => z).trans wipe_idem, ?_⟩, hl⟩
    refine ⟨ρ4, S4, _, _, se4, fun _ _ _ _ w => w.elim, fun bb S5 h5 H5 k5 so5 => ?_, h4⟩
    have k15 : Kp H1 H5 := (k3.trans k4).trans k5
    cases bb with
    | true =>
      refine ⟨ρ4, S5, _, _, se4.at k5 so5, fun _ _ _ _ w => w.elim, fun yd S6 h6 yv H6 k6 so6 r6 => ?_, h5⟩
      split at h6
      · rename_i acc ea
        obtain ⟨vs, q1, q2⟩ := so6 p _ ea
        exact ⟨vs, q1, by rw [q2.length]; exact h6.1, (k15.trans k6).trans (Kp.lst q1), _, so6.lst (l := acc) q1 (q2.append (Rps.one r6)), h6.2⟩
      · exact h6.elim
    | false => exact ⟨k15, S5, so5, h5⟩
  · have ei : i = ds.length := by omega
    subst ei
    rw [List.drop_length] at hl
    obtain ⟨hsrc, hl⟩ := hl
    exact .inl ⟨wk.stop H2 S2 k2 so hsrc, pl _ _ hl _ _ (k1.trans k2) so rfl⟩
theorem l_lc {elt : Expr} {ifs : List Expr} {scope : Scope} {own : List (Str × Nat)} {wi : AI} {g : ATg} {tt : AT} {te : AE} (hc : X.calm = true) (hN : X.N.Nodup) (hi : PI X tg iter (LI X.K Wh wi)) (ok : BlkOk X.N X.env.scope scope own)
    (hg : ∀ (s : Shared) (H : Hp) (C : Addr) (cl : List (Str × Addr)) (fp : List Addr), PG (X.blk s H scope (compEnvC scope cl C X.env) fp) tg (LG X.K (fun _ _ _ _ => False) (own.map (·.2)) g))
    (ht : ∀ (s : Shared) (H : Hp) (C : Addr) (cl : List (Str × Addr)) (fp : List Addr), PTs (X.blk s H scope (compEnvC scope cl C X.env) fp) ifs (LT X.K (fun _ _ _ _ => False) tt))
    (he : ∀ (s : Shared) (H : Hp) (C : Addr) (cl : List (Str × Addr)) (fp : List Addr), PE (X.blk s H scope (compEnvC scope cl C X.env) fp) elt (LE X.K (fun _ _ _ _ => False) te))
    (hs : ∀ x, foldedSetIterable iter X.env x = pure x) :
    PE X (.ListComp elt [⟨tg, iter, ifs, 0⟩] scope pos) (LE X.K Wh fun ρ S P W => wi ρ S (fun ds src S1 => ∀ p, S1 p = none → lcS g tt te src p (wipeD ρ (own.map (·.2))) (fun S2 => P (.ref p) S2) ds (S1.up p (.lst true []))) W) :=
  PE.imp (pe_lc hc hN hi ok hg ht he hs) fun _ _ _ hw => lc_imp hw
theorem s_setLc {i : Nat} {y : Str} {py spos : Pos} {elt : Expr} {ifs : List Expr} {scope : Scope} {own : List (Str × Nat)} {wi : AI} {g : ATg} {tt : AT} {te : AE} (hc : X.calm = true) (hN : X.N.Nodup) (hy : X.N[i]? = some y) (hyl : X.env.scope.names.lookup y = some .local)
    (hsw : swapsWith (.ListComp elt [⟨tg, iter, ifs, 0⟩] scope pos) (some (.Name y py)) spos.line X.env = pure true) (hi : PI X tg iter (LI X.K Wh wi)) (ok : BlkOk X.N X.env.scope scope own)
    (hg : ∀ (s : Shared) (H : Hp) (C : Addr) (cl : List (Str × Addr)) (fp : List Addr), PG (X.blk s H scope (compEnvC scope cl C X.env) fp) tg (LG X.K (fun _ _ _ _ => False) (own.map (·.2)) g))
    (ht : ∀ (s : Shared) (H : Hp) (C : Addr) (cl : List (Str × Addr)) (fp : List Addr), PTs (X.blk s H scope (compEnvC scope cl C X.env) fp) ifs (LT X.K (fun _ _ _ _ => False) tt))
    (he : ∀ (s : Shared) (H : Hp) (C : Addr) (cl : List (Str × Addr)) (fp : List Addr), PE (X.blk s H scope (compEnvC scope cl C X.env) fp) elt (LE X.K (fun _ _ _ _ => False) te))
    (hs : ∀ x, foldedSetIterable iter X.env x = pure x) :
    PS X (.Assign [.Name y py] (.ListComp elt [⟨tg, iter, ifs, 0⟩] scope pos) spos) (LS X.K Wh fun N ρ S W => wi ρ S (fun ds src S1 => ∀ p, S1 p = none → lcS g tt te src p (wipeD ρ (own.map (·.2))) (fun S2 => N.nx (ρ.set i (some (.ref p))) S2) ds (S1.up p (.lst true []))) W) :=
  PS.imp (ps_setLc hc hN hy hyl hsw hi ok hg ht he hs) fun D σ H ⟨ρ, S, W, N, se, wl, sl, h⟩ =>
    lc_imp ⟨ρ, S, W, fun d S2 => N.nx (ρ.set i (some d)) S2, se, wl, fun d S2 q v H2 k2 s2 r2 => sl.nx _ _ q _ H2 k2 ((se.at k2 s2).set i r2), h⟩
end
end Sd
namespace Sd
open PySem PySem.Spec PyProof.Rows L2
section
variable {X : Cx} {Wh : WX} {Γ : Gam} {A B C : AE} {As : AA} {a b c e tg iter : Expr} {es rest : List Expr} {pos : Pos} {K : PySem.W.Frag} {H : Hp} {S : Sto} {st : Stmt} {sts sts' : List Stmt} {Az Bz : AS}
theorem s_nil : PSs X [] (LS X.K Wh fun N ρ S _ => N.nx ρ S) := PSs.imp pss_nil fun D σ H ⟨ρ, S, W, N, se, wl, sl, h⟩ => sl.nx _ _ h _ H (Kp.refl H) se
theorem s_cons (h1 : PS X st (LS X.K Wh Az)) (h2 : PSs X sts (LS X.K Wh Bz)) : PSs X (st :: sts) (LS X.K Wh fun N ρ S W => Az { N with nx := fun ρ1 S1 => Bz N ρ1 S1 W } ρ S W) :=
  PSs.imp (pss_cons h1 h2) fun D σ H ⟨ρ, S, W, N, se, wl, sl, h⟩ =>
    ⟨ρ, S, W, { N with nx := fun ρ1 S1 => Bz N ρ1 S1 W }, se, wl, ⟨fun ρ1 S1 q σ1 H1 k1 se1 => ⟨ρ1, S1, W, N, se1, wl.at k1, sl.at k1, q⟩, sl.rt, sl.bk, sl.ct⟩, h⟩
theorem s_asg {G : ATg} {sl : List Nat} (he : PE X e (LE X.K Wh A)) (hg : PG X tg (LG X.K Wh sl G)) (hs : swapsWithSole [tg] e pos.line X.env = pure false) (hw : swappedStores [tg] e X.env = pure none) (h1 : (assignEach [tg] X.env).map (·.2) = [assign tg X.env]) :
    PS X (.Assign [tg] e pos) (LS X.K Wh fun N ρ S W => A ρ S (fun d S1 => G d ρ S1 N.nx W) W) :=
  PS.imp (ps_asg he hg hs hw h1) fun D σ H ⟨ρ, S, W, N, se, wl, sl, h⟩ =>
    ⟨ρ, S, W, _, se, wl, fun d S1 h1 v H1 k1 s1 r1 => ⟨d, ρ, S1, W, N.nx, r1, se.at k1 s1, wl.at k1, fun ρ2 S2 q σ2 H2 k2 se2 _ => sl.nx _ _ q σ2 H2 (k1.trans k2) se2, h1⟩, h⟩
theorem s_set {i : Nat} {x : Str} {pos' : Pos} (hN : X.N.Nodup) (hi : X.N[i]? = some x) (hx : Loc X.env.scope x) (he : PE X e (LE X.K Wh A)) (hs : swapsWith e (some (.Name x pos')) pos.line X.env = pure false) (hf : X.fn x = true ∨ X.env.scope.names.lookup x = some .local) :
    PS X (.Assign [.Name x pos'] e pos) (LS X.K Wh fun N ρ S W => A ρ S (fun d S1 => N.nx (ρ.set i (some d)) S1) W) :=
  PS.imp (ps_set hN hi hx he hs hf) fun D σ H ⟨ρ, S, W, N, se, wl, sl, h⟩ =>
    ⟨ρ, S, W, _, se, wl, fun d S1 h1 v H1 k1 s1 r1 => sl.nx _ _ h1 _ H1 k1 ((se.at k1 s1).set i r1), h⟩
/-- a, b = x, y -/
theorem s_par {i j : Nat} {x y : Str} {a b : Expr} {px py pt : Pos} {kt k2 pt2} (hc : X.calm = true) (hN : X.N.Nodup) (hi : X.N[i]? = some x) (hj : X.N[j]? = some y) (hij : i ≠ j)
    (hx : X.env.scope.names.lookup x = some .local) (hy : X.env.scope.names.lookup y = some .local) (ha : PE X a (LE X.K Wh A)) (hb : PE X b (LE X.K Wh B)) (h1 : starEach [a, b] X.env = (false, eval a X.env) :: starEach [b] X.env) (h2 : starEach [b] X.env = (false, eval b X.env) :: starEach [] X.env)
    (hw : swappedStores [.Tuple [.Name x px, .Name y py] kt pt] (.Tuple [a, b] k2 pt2) X.env = pure (some [x, y])) :
    PS X (.Assign [.Tuple [.Name x px, .Name y py] kt pt] (.Tuple [a, b] k2 pt2) pos) (LS X.K Wh fun N ρ S W => A ρ S (fun d S1 => B ρ S1 (fun d' S2 => N.nx ((ρ.set i (some d)).set j (some d')) S2) W) W) :=
  PS.imp (ps_par hc hN hi hj hij hx hy (pa_cons ha (pa_cons hb pa_nil h2) h1) hw rfl) fun D σ H ⟨ρ, S, W, N, se, wl, sl, h⟩ =>
    ⟨ρ, S, W, _, se, wl, fun d S1 h1 v H1 k1 s1 r1 => ⟨ρ, S1, W, _, se.at k1 s1, wl.at k1, fun d2 S2 h2 v2 H2 k2 s2 r2 => ⟨v, v2, rfl, sl.nx _ _ h2 _ H2 (k1.trans k2) (((se.at (k1.trans k2) s2).set i (Rp.kp k2 _ r1)).set j r2)⟩, h1⟩, h⟩
/-- a, b, c = x, y, z -/
theorem s_par3 {i j l : Nat} {x y z : Str} {a b c : Expr} {px py pz pt : Pos} {kt k2 pt2} {C : AE} (hc : X.calm = true) (hN : X.N.Nodup) (hi : X.N[i]? = some x) (hj : X.N[j]? = some y) (hl : X.N[l]? = some z) (hij : i ≠ j) (hil : i ≠ l) (hjl : j ≠ l)
    (hx : X.env.scope.names.lookup x = some .local) (hy : X.env.scope.names.lookup y = some .local) (hz : X.env.scope.names.lookup z = some .local) (ha : PE X a (LE X.K Wh A)) (hb : PE X b (LE X.K Wh B)) (hcc : PE X c (LE X.K Wh C))
    (h1 : starEach [a, b, c] X.env = (false, eval a X.env) :: starEach [b, c] X.env) (h2 : starEach [b, c] X.env = (false, eval b X.env) :: starEach [c] X.env) (h3 : starEach [c] X.env = (false, eval c X.env) :: starEach [] X.env)
    (hw : swappedStores [.Tuple [.Name x px, .Name y py, .Name z pz] kt pt] (.Tuple [a, b, c] k2 pt2) X.env = pure (some [x, y, z])) :
    PS X (.Assign [.Tuple [.Name x px, .Name y py, .Name z pz] kt pt] (.Tuple [a, b, c] k2 pt2) pos) (LS X.K Wh fun N ρ S W => A ρ S (fun d S1 => B ρ S1 (fun d' S2 => C ρ S2 (fun d'' S3 => N.nx (((ρ.set i (some d)).set j (some d')).set l (some d'')) S3) W) W) W) :=
  PS.imp (ps_par3 hc hN hi hj hl hij hil hjl hx hy hz (pa_cons ha (pa_cons hb (pa_cons hcc pa_nil h3) h2) h1) hw rfl) fun D σ H ⟨ρ, S, W, N, se, wl, sl, h⟩ =>
    ⟨ρ, S, W, _, se, wl, fun d S1 h1 v H1 k1 s1 r1 => ⟨ρ, S1, W, _, se.at k1 s1, wl.at k1, fun d2 S2 h2 v2 H2 k2 s2 r2 => ⟨ρ, S2, W, _, se.at (k1.trans k2) s2, wl.at (k1.trans k2), fun d3 S3 h3 v3 H3 k3 s3 r3 =>
      ⟨v, v2, v3, rfl, sl.nx _ _ h3 _ H3 ((k1.trans k2).trans k3) ((((se.at ((k1.trans k2).trans k3) s3).set i (Rp.kp (k2.trans k3) _ r1)).set j (Rp.kp k3 _ r2)).set l r3)⟩, h2⟩, h1⟩, h⟩
theorem s_ex (he : PE X e (LE X.K Wh A)) (hs : swapsWith e none pos.line X.env = pure false) : PS X (.Expr e pos) (LS X.K Wh fun N ρ S W => A ρ S (fun _ S1 => N.nx ρ S1) W) :=
  PS.imp (ps_expr he hs) fun D σ H ⟨ρ, S, W, N, se, wl, sl, h⟩ => ⟨ρ, S, W, _, se, wl, fun d S1 h1 v H1 k1 s1 r1 => sl.nx _ _ h1 _ H1 k1 (se.at k1 s1), h⟩
theorem s_ret (he : PE X e (LE X.K Wh A)) : PS X (.Return (some e) pos) (LS X.K Wh fun N ρ S W => A ρ S N.rt W) :=
  PS.imp (ps_ret he) fun D σ H ⟨ρ, S, W, N, se, wl, sl, h⟩ => ⟨ρ, S, W, _, se, wl, sl.rt, h⟩
theorem s_retN : PS X (.Return none pos) (LS X.K Wh fun N ρ S W => N.rt .non S) :=
  PS.imp ps_retN fun D σ H ⟨ρ, S, W, N, se, wl, sl, h⟩ => sl.rt _ _ h _ H (Kp.refl H) se.sto rfl
theorem s_if (hc : PT X c (LT X.K Wh (aTru C))) (ha : PSs X sts (LS X.K Wh Az)) (hb : PSs X sts' (LS X.K Wh Bz)) : PS X (.If c sts sts' pos) (LS X.K Wh fun N ρ S W => aTru C ρ S (fun b S1 => if b = true then Az N ρ S1 W else Bz N ρ S1 W) W) :=
  PS.imp (ps_if hc ha hb) fun D σ H ⟨ρ, S, W, N, se, wl, sl, h⟩ => ⟨ρ, S, W, _, se, wl, fun b S1 h1 H1 k1 s1 => by
    cases b with
    | true => exact ⟨ρ, S1, W, N, se.at k1 s1, wl.at k1, sl.at k1, h1⟩
    | false => exact ⟨ρ, S1, W, N, se.at k1 s1, wl.at k1, sl.at k1, h1⟩, h⟩
theorem s_while (hp : PassesOwn (model X.prog X.w) X.A X.env X.xe) (hc : PT X c (LT X.K Wh (aTru C))) (hb : PSs X sts (LS X.K Wh Az)) : PS X (.While c sts [] pos) (LS X.K Wh fun N ρ S W => ∃ J : Nat → DSt → Sto → Prop, (∃ m, J m ρ S) ∧ ∀ m ρ S, J m ρ S → aTru C ρ S (fun c S1 => if c = true then
      Az { nx := fun ρ2 S2 => ∃ m', m' < m ∧ J m' ρ2 S2, rt := N.rt, bk := N.nx, ct := fun ρ2 S2 => ∃ m', m' < m ∧ J m' ρ2 S2 } ρ S1 W else N.nx ρ S1) W) :=
  PS.imp (ps_while hp hc hb) fun D σ H ⟨ρ, S, W, N, se, wl, sl, J, ⟨m0, j0⟩, turn⟩ => by
    refine ⟨fun m σ1 H1 => Kp H H1 ∧ ∃ ρ1 S1, Sees X.K H1 σ1 ρ1 S1 ∧ J m ρ1 S1, ⟨m0, Kp.refl H, ρ, S, se, j0⟩, fun m σ1 H1 ⟨k1, ρ1, S1, se1, j1⟩ => ?_⟩
    refine ⟨ρ1, S1, W, _, se1, wl.at k1, fun bb S2 h2 H2 k2 s2 => ?_, turn m ρ1 S1 j1⟩
    cases bb with
    | true =>
      refine ⟨fun σ3 H3 => ∃ m', m' < m ∧ Kp H H3 ∧ ∃ ρ3 S3, Sees X.K H3 σ3 ρ3 S3 ∧ J m' ρ3 S3, fun σ3 H3 ⟨m', hm, q⟩ => ⟨m', hm, q⟩, ?_⟩
      exact ⟨ρ1, S2, W, { nx := fun ρ2 S2 => ∃ m', m' < m ∧ J m' ρ2 S2, rt := N.rt, bk := N.nx, ct := fun ρ2 S2 => ∃ m', m' < m ∧ J m' ρ2 S2 }, se1.at k2 s2, wl.at (k1.trans k2), ⟨fun ρ3 S3 ⟨m', hm, q⟩ σ3 H3 k3 se3 => ⟨m', hm, (k1.trans k2).trans k3, ρ3, S3, se3, q⟩, sl.rt.at (k1.trans k2), sl.nx.at (k1.trans k2), fun ρ3 S3 ⟨m', hm, q⟩ σ3 H3 k3 se3 => ⟨m', hm, (k1.trans k2).trans k3, ρ3, S3, se3, q⟩⟩, h2⟩
    | false => exact sl.nx _ _ h2 _ H2 (k1.trans k2) (se1.at k2 s2)
theorem s_for {wi : AI} {g : ATg} {sl0 : List Nat} (hp : PassesOwn (model X.prog X.w) X.A X.env X.xe) (hc : X.calm = true) (hi : PI X tg iter (LI X.K Wh wi)) (hg : PG X tg (LG X.K Wh sl0 g)) (hb : PSs X sts (LS X.K Wh Az)) (hs : ∀ x, foldedSetIterable iter X.env x = pure x) :
    PS X (.For tg iter sts [] pos) (LS X.K Wh fun N ρ S W => wi ρ S (fun ds src S1 => forS g Az src N W ds ρ S1) W) :=
  PS.imp (ps_for hp hc hi hg hb hs) fun D σ H ⟨ρ, S, W, N, se, wl, sl, h⟩ => by
    refine ⟨ρ, S, W, _, se, wl, fun ds src S1 h1 J H1 k1 s1 wk => ?_, h⟩
    refine ⟨fun i m σ2 H2 => m = ds.length - i ∧ i ≤ ds.length ∧ Kp H1 H2 ∧ ∃ ρ2 S2, Sees X.K H2 σ2 ρ2 S2 ∧ forS g Az src N W (ds.drop i) ρ2 S2, ⟨ds.length, by simp, Nat.zero_le _, Kp.refl H1, ρ, S1, se.at k1 s1, by simpa using h1⟩, ?_⟩
    rintro i m σ2 H2 ⟨rfl, hi2, k2, ρ2, S2, se2, hl⟩
    by_cases hlt : i < ds.length
    · rw [List.drop_eq_getElem_cons hlt] at hl
      simp only [forS] at hl
      obtain ⟨hsrc, hl⟩ := hl
      refine .inr ⟨wk.go i H2 S2 hlt k2 se2.sto hsrc, fun σ3 H3 => Kp H1 H3 ∧ ∃ ρ3 S3, Sees X.K H3 σ3 ρ3 S3 ∧ forS g Az src N W (ds.drop (i + 1)) ρ3 S3, fun σ3 H3 ⟨k3, q⟩ => ⟨ds.length - (i + 1), by omega, rfl, by omega, k3, q⟩, fun x H3 y => ?_⟩
      obtain ⟨sm, d, ed, rd⟩ := wk.yld i H2 S2 x H3 hlt k2 se2.sto hsrc y
      have ed' : ds[i] = d := by
        rw [List.getElem?_eq_getElem hlt] at ed
        exact Option.some.inj ed
      rw [ed'] at hl
      have k3 : Kp H1 H3 := k2.trans sm.kp
      refine ⟨d, ρ2, S2, W, _, rd, se2.at sm.kp (se2.sto.sm sm), wl.at (k1.trans k3), fun ρ4 S4 h4 σ4 H4 k4 se4 _ => ?_, hl⟩
      have k14 := k3.trans k4
      exact ⟨ρ4, S4, W, { nx := fun ρ2 S2 => forS g Az src N W (ds.drop (i + 1)) ρ2 S2, rt := N.rt, bk := N.nx, ct := fun ρ2 S2 => forS g Az src N W (ds.drop (i + 1)) ρ2 S2 }, se4, wl.at (k1.trans k14), ⟨fun ρ5 S5 q σ5 H5 k5 se5 => ⟨k14.trans k5, ρ5, S5, se5, q⟩, sl.rt.at (k1.trans k14), sl.nx.at (k1.trans k14), fun ρ5 S5 q σ5 H5 k5 se5 => ⟨k14.trans k5, ρ5, S5, se5, q⟩⟩, h4⟩
    · have ei : i = ds.length := by omega
      subst ei
      rw [List.drop_length] at hl
      obtain ⟨hsrc, hl⟩ := hl
      exact .inl ⟨wk.stop H2 S2 k2 se2.sto hsrc, sl.nx _ _ hl _ H2 (k1.trans k2) se2⟩
theorem s_aug {i : Nat} {x : Str} {o : Operator} {pos' : Pos} (ho : o = .Add ∨ o = .Sub) (hN : X.N.Nodup) (hi : X.N[i]? = some x) (hx : Loc X.env.scope x) (he : PE X e (LE X.K Wh A)) (hf : X.fn x = true ∨ X.env.scope.names.lookup x = some .local) :
    PS X (.AugAssign (.Name x pos') o e pos) (LS X.K Wh fun N ρ S W => match lk ρ i with
    | some x => A ρ S (fun y S1 => augS o x y fun d => N.nx (ρ.set i (some d)) S1) W
    | none => False) := by
  have key : ∀ (f : Int → Int → Int), PIp X o (ipI f) → (∀ d y P, augS o d y P → ∃ p q, d = .int p ∧ y = .int q ∧ P (.int (f p q))) → PS X (.AugAssign (.Name x pos') o e pos) (LS X.K Wh fun N ρ S W => match lk ρ i with
    | some x => A ρ S (fun y S1 => augS o x y fun d => N.nx (ρ.set i (some d)) S1) W
    | none => False) := fun f hf2 hk =>
    PS.imp (ps_aug hN hi hx he hf2 hf) fun D σ H ⟨ρ, S, W, N, se, wl, sl, h⟩ => by
      dsimp only at h
      split at h
      · rename_i d ed
        obtain ⟨v, h1, h2⟩ := se.loc i d (lk_some ed)
        refine ⟨v, h1, ρ, S, W, _, se, wl, fun y S1 q u H1 k1 s1 r1 => ?_, h⟩
        obtain ⟨p1, q1, rfl, rfl, z⟩ := hk _ _ _ q
        cases h2; cases r1
        exact ⟨p1, q1, rfl, rfl, sl.nx _ _ z _ H1 k1 ((se.at k1 s1).set i rfl)⟩
      · exact h.elim
  rcases ho with rfl | rfl
  · exact key _ ip_add fun d y P h => by
      cases d <;> cases y <;> first
        | exact (show False from h).elim
        | exact ⟨_, _, rfl, rfl, h⟩
  · exact key _ ip_sub fun d y P h => by
      cases d <;> cases y <;> first
        | exact (show False from h).elim
        | exact ⟨_, _, rfl, rfl, h⟩
theorem s_pass : PS X (.Pass pos) (LS X.K Wh fun N ρ S _ => N.nx ρ S) := PS.imp ps_pass fun D σ H ⟨ρ, S, W, N, se, wl, sl, h⟩ => sl.nx _ _ h _ H (Kp.refl H) se
theorem s_cont : PS X (.Continue pos) (LS X.K Wh fun N ρ S _ => N.ct ρ S) := PS.imp ps_continue fun D σ H ⟨ρ, S, W, N, se, wl, sl, h⟩ => sl.ct _ _ h _ H (Kp.refl H) se
theorem s_brk : PS X (.Break pos) (LS X.K Wh fun N ρ S _ => N.bk ρ S) := PS.imp ps_break fun D σ H ⟨ρ, S, W, N, se, wl, sl, h⟩ => sl.bk _ _ h _ H (Kp.refl H) se
/-- raise X('..') -/
theorem s_rz {k : Nat} {m : Str} {j : Nat} {p p2 pos2 : Pos} (hc : X.calm = true) (tk : Takes X Wh) (kn : Kn X.K k) (q : PySem.W.excIn X.K (gaK X.K (clsN k)) [.type "ValueError", .type "Exception", .type "BaseException", .type "object"] "ValueError.__new__" = true) (gC : X.mg (clsN k) = some (.ref (gaK X.K (clsN k)))) (kC : PySem.W.keepIn X.K (.ref (gaK X.K (clsN k))) = true)
    (h1 : PySem.W.subIn X.K (.ref (gaK X.K (clsN k))) (.type "BaseException") = some true) (h2 : PySem.W.typeIn X.K (.ref (gaK X.K (clsN k))) = some (.type "type")) (hg : Gl X (clsN k)) (hdb : (clsN k == ("__debug__" : Str)) = false) :
    PS X (.Raise (some (.Call (.Name (clsN k) p) [.Constant (.str m) j p2] [] pos)) none pos2) (LS X.K Wh fun _ ρ S W => W k none ρ S) :=
  PS.imp (ps_raise hc tk (pmk_own PySem.F.excBase_ValueError q gC kC (raises_own h1 h2) hg hdb)) fun D σ H ⟨ρ, S, W, N, se, wl, sl, h⟩ => wl k none ρ S h none σ H (Kp.refl H) se ⟨kn, rfl⟩
end
end Sd
namespace Sd
open PySem PySem.Spec PyProof.Rows L2
/-- an object of ours that is pinned becomes tracked: a caught error -/
theorem inv_keep {X : Cx} {pins : List (Addr × Obj)} {σ : L2.St} {H : Hp} {s : Shared} {a : Addr} {oe : Obj} {cls : Value} {d : Option Addr} {vs : Array Value} (I : L2.Inv X ((a, oe) :: pins) σ H s) (hz : Zc cls d oe) (hd : oe.data = .fields vs)
    (h0 : X.s_0.heap.get? a = none) (hex : X.ex = []) (hp : ∀ p, p ∈ X.pn ++ pins → p.1 ≠ a) : L2.Inv X pins σ (upd H a (ExV cls d a)) s := by
  obtain ⟨ga, na, nl, nf, nc⟩ := I.pin (a, oe) (List.mem_append_right _ List.mem_cons_self)
  have ne0 : ∀ b o, X.s_0.heap.get? b = some o → b ≠ a := fun b o e z => by
    rw [z, h0] at e
    cases e
  have neH : ∀ b u, H b = some u → b ≠ a := fun b u e z => by
    rw [z] at e
    exact absurd (e.symm.trans na) (by simp)
  refine { ok := I.ok, os := I.os, bare := I.bare, base := ?_, loc := I.loc, cell := I.cell, free := ?_, freeC := ?_, pin := ?_, hok := ?_, len := I.len }
  · have B := I.base
    exact { keep := B.keep, slot := B.slot, there := B.there
            free := fun b o e n hx => by rw [upd_ne (ne0 b o e)]; exact B.free b o e n hx
            tups := fun b xs e => by rw [upd_ne (neH _ _ (B.tups b xs e))]; exact B.tups b xs e
            frzs := fun b o u e => by rw [upd_ne (neH _ _ (B.frzs b o u e))]; exact B.frzs b o u e
            tbls := fun b ps e => by
              obtain ⟨m, z⟩ := B.tbls b ps e
              exact ⟨m, by rw [upd_ne (neH _ _ z)]; exact z⟩ }
  · rw [upd_ne (Ne.symm nl)]
    exact I.free
  · intro x c e
    have z : c ≠ a := fun z => by
      obtain ⟨v, o, ho, hv⟩ := I.cell x c e
      rw [z] at ho
      rw [show s.heap.get? a = some oe from ga] at ho
      cases ho
      exact nc v hv
    rw [upd_ne z]
    exact I.freeC x c e
  · intro p hm
    obtain ⟨e1, e2, e3, e4, e5⟩ := I.pin p ((List.mem_append.mp hm).elim (fun z => List.mem_append_left _ z) fun z => List.mem_append_right _ (List.mem_cons_of_mem _ z))
    exact ⟨e1, by rw [upd_ne (hp p hm)]; exact e2, e3, e4, e5⟩
  · intro b u e
    by_cases hb : b = a
    · subst hb
      rw [upd_same] at e
      cases e
      exact ⟨⟨oe, vs, ga, hz, hd⟩, ⟨oe, ga⟩, fun h1 h2 ⟨o, v, q1, q2⟩ k => ⟨o, v, k o q1, q2⟩⟩
    · rw [upd_ne hb] at e
      exact (I.hok b u e).stay (fun _ _ _ q => q) (fun c q => by rw [upd_ne (neH _ _ q)]; exact q) fun c xs q => by rw [upd_ne (neH _ _ q)]; exact q
/-- what «except x as n: y = n» wishes of an error -/
def wKeep (K : PySem.W.Frag) (c : Value) (n y : Nat) (Wout : WX) (D : Ends) : WX := fun cls d σ H =>
  ∃ b, PySem.W.exmOne K cls c = some b ∧ (b = true → ∀ a, H a = none → D.nx ((((σ.set n (some (.ref a))).set y (some (.ref a)))).set n none) (upd H a (ExV cls d a))) ∧ (b = false → Wout cls d σ H)
section
variable {X : Cx} {x nn yy : Str} {c : Value} {i j : Nat} {body : List Stmt} {np pos pos' p1 p2 p3 : Pos} {tb : WX → TS} {Wout : WX}
theorem ps_try_keep (hs : X.stack = X.env :: X.outer) (hf : X.env.frame = some X.env.locals) (hex : X.ex = []) (hN : X.N.Nodup) (hi : X.N[i]? = some nn) (hln : X.env.kindOf nn = some .local) (hj : X.N[j]? = some yy) (hly : Loc X.env.scope yy) (hfy : X.fn yy = true ∨ X.env.scope.names.lookup yy = some .local)
    (hd1 : (nn == ("__debug__" : Str)) = false) (hd2 : (nn == ("__classdict__" : Str)) = false) (hc : Names X x c) (tk : Takes X Wout)
    (hb : ∀ (W : WX) (pn : List (Addr × Obj)) (xe : Value → Shared → Prop), Takes (X.tr pn xe) W → PassesOwn (model X.prog X.w) X.A X.env xe → PSs (X.tr pn xe) body (tb W)) :
    PS X (.Try body [.ExceptHandler (some (.Name x np)) (some nn) [.Assign [.Name yy p1] (.Name nn p2) p3] pos'] [] [] pos) (fun D σ H => tb (wKeep X.K c i j Wout D) D σ H) := by
  refine ⟨fun pins s σ H D I h => ?_⟩
  have ok := I.ok
  have hfr : X.A.frames = some (X.env :: X.outer) := ok.frames.trans (congrArg some hs)
  let hd : List ExceptHandler := [.ExceptHandler (some (.Name x np)) (some nn) [.Assign [.Name yy p1] (.Name nn p2) p3] pos']
  let E1 : Value → Shared → Prop := fun e s1 => wpAny (model X.prog X.w) X.A (noteFrame e X.env) (fun _ s2 => wpAny (model X.prog X.w) X.A (setFlight e none) (fun _ s3 => wpAny (model X.prog X.w) X.A (handleBy e X.env hd) (SP X pins D) X.xe s3) X.xe s2) X.xe s1
  refine wpAny_Try_except ?_
  have tk1 : Takes (X.tr (X.pn ++ pins) E1) (wKeep X.K c i j Wout D) := by
    intro u s' xx
    obtain ⟨a, B, sI, pins', σ', H', cls, d, rfl, J', nb, up, sky, na, os, ag, bb, hb1, hyes, hno⟩ := xx
    have J : L2.Inv X pins σ' H' sI := J'.ofTry ok
    have sky' : Sky B (X.env :: X.outer) a (Zc cls d) X.env.locals s'.heap := by rw [← hs]; exact sky
    show wpAny (model X.prog X.w) X.A (noteFrame (.ref a) X.env) _ _ _
    refine Sky.land Zc.steady hfr hf sky' fun h3 fl3 up3 => ?_
    have J3 : L2.Inv X pins σ' H' { s' with heap := h3 } := J.landed nb fl3.1 (up.trans up3) os ag
    obtain ⟨o3, v3, he3, hz3, hd3⟩ := fl3.there
    have nfr : a ∉ frs (X.env :: X.outer) := fun hm => by
      obtain ⟨_, o', e', hnf⟩ := fl3.2.2.1.mem hm
      rw [he3] at e'
      cases e'
      exact hnf _ hd3
    have nL : a ≠ X.env.locals := fun z => nfr (List.mem_filterMap.mpr ⟨X.env, List.mem_cons_self, by rw [hf, z]⟩)
    have nF : a ∉ X.fs := fun hm => by
      obtain ⟨e, he, q⟩ := List.mem_filterMap.mp hm
      exact nfr (List.mem_filterMap.mpr ⟨e, List.mem_cons_of_mem _ he, q⟩)
    -- the error is younger than the entry
    have nI : sI.heap.get? a = none := by
      cases q : sI.heap.get? a with
      | none => rfl
      | some o =>
        have z := nb a o q (by rw [hs]; exact nfr)
        rw [fl3.2.1] at z
        cases z
    have n0 : X.s_0.heap.get? a = none := by
      cases q : X.s_0.heap.get? a with
      | none => rfl
      | some o =>
        obtain ⟨o', z⟩ := J.base.there a o q (by rw [hex]; simp)
        rw [nI] at z
        cases z
    have npin : ∀ p, p ∈ X.pn ++ pins → p.1 ≠ a := fun p hp z => by
      have := (J.pin p hp).1
      rw [z, nI] at this
      cases this
    have S3 := J3.suite he3 hd3 na nL nF
    refine wpAny_handleBy_cons (codeAny_handlers_test ?_) (by intro q; cases q)
    have LT3 : PySem.W.Looks (model X.prog X.w) h3 (typeOf (.ref a)) cls := fun A Q E s k q => wpAny_typeOf_ref (k _ _ he3) (by rw [hz3.1]; exact q)
    have LM := PySem.W.exm_one (M := model X.prog X.w) J3.kIn LT3 hb1
    have test : ∀ {Q : Value → Shared → Prop} {E : Value → Shared → Prop}, Q c { s' with heap := h3 } → wpAny (model X.prog X.w) (X.A.mark (some (.ref a))) (eval (.Name x np) X.env) Q E { s' with heap := h3 } := fun {Q E} q => by
      obtain ⟨hg, hdbg, hm | ⟨hm, hv, hnn⟩⟩ := hc
      · exact ld_glob (X := X.suite a ((a, o3) :: (X.pn ++ pins))) S3 hg hm q hdbg
      · exact ld_blt (X := X.suite a ((a, o3) :: (X.pn ++ pins))) S3 hg hm hv q hnn hdbg
    refine test (LM.here ?_)
    cases bb with
    | true =>
      refine codeAny_handlers_suite_as (HandSPX.lands_againZ fl3 fun h4 fl4 up4 => ?_)
      have J4 : L2.Inv X pins σ' H' { s' with heap := h4 } := J.landed nb fl4.1 ((up.trans up3).trans up4) os ag
      obtain ⟨o4, v4, he4, hz4, hd4⟩ := fl4.there
      have S4 := J4.suite he4 hd4 na nL nF
      refine store_ok (X := X.suite a ((a, o4) :: (X.pn ++ pins))) (v := .ref a) S4 hN hi (.inl hln) rfl (fun s5 S5 => ?_) (.inr hln)
      -- y = n, in the suite
      have suite : PSs (X.suite a ((a, o4) :: (X.pn ++ pins))) [.Assign [.Name yy p1] (.Name nn p2) p3] (tAsg (tVar i) (gName j)) :=
        pss_one (ps_set (X := X.suite a ((a, o4) :: (X.pn ++ pins))) hN hj hly (pe_var (X := X.suite a ((a, o4) :: (X.pn ++ pins))) hi (.inl hln) hd1 hd2) rfl hfy)
      have hil : i < σ'.length := by
        rw [J.len]
        exact (List.getElem?_eq_some_iff.mp hi).1
      refine wpAny_mono (suite.run [] s5 _ H' { nx := fun σ6 H6 => σ6 = (σ'.set i (some (.ref a))).set j (some (.ref a)) ∧ H6 = H', rt := fun _ _ => False } S5 ⟨.ref a, List.getElem?_set_self hil, rfl, rfl⟩) (fun f s6 hsp => ?_) (fun _ _ z => False.elim z)
      cases f with
      | next =>
        obtain ⟨σ6, H6, S6, rfl, rfl⟩ := hsp
        have J6 : L2.Inv X ((a, o4) :: pins) _ H6 s6 := (S6.unsuite ok).pins_of fun p hp => by
          rcases List.mem_cons.mp hp with rfl | hp
          · obtain ⟨q1, q2, q3, q4, q5⟩ := S6.pin (a, o4) (List.mem_append_left _ List.mem_cons_self)
            exact ⟨q1, q2, q3, q4, q5⟩
          · obtain ⟨q1, q2, q3, q4, q5⟩ := S6.pin p (List.mem_append_left _ (List.mem_cons_of_mem _ (List.mem_append_right _ hp)))
            exact ⟨q1, q2, q3, q4, q5⟩
        refine gone_ok J6 hN hi hln fun s7 J7 => ?_
        exact ⟨_, _, inv_keep J7 hz4 hd4 n0 hex npin, hyes rfl a na⟩
      | brk => obtain ⟨_, _, _, q⟩ := hsp; exact q.elim
      | cont => obtain ⟨_, _, _, q⟩ := hsp; exact q.elim
      | ret u => obtain ⟨_, _, _, _, _, q⟩ := hsp; exact q.elim
    | false =>
      show wpAny _ X.A (handleBy (.ref a) X.env []) _ _ _
      refine wpAny_handleBy_nil ?_
      obtain ⟨f1, f2, f3, oe, vs, T, oT, ts', he, hz, hdd, g1, hr⟩ := id fl3
      unfold PySem.passOn
      refine wpAny_bind (wpAny_field he hdd g1 ?_)
      rw [if_neg (show ¬ ((Value.ref T == Value.none) = true) by simp)]
      have fin : wpAny (model X.prog X.w) X.A (setFlight (.ref a) X.env.frame) (fun _ s4 => wpAny (model X.prog X.w) X.A (throw (.ref a) : Sem Flow) (SP X pins D) X.xe s4) X.xe { s' with heap := h3 } := by
        rw [hf]
        refine HandSPX.setFlight_upZ fl3 fun h4 hh4 up4 => wpAny_throw (tk _ _ ⟨a, B, sI, pins, σ', H', cls, d, rfl, J, nb, (up.trans up3).trans up4, .inr (.inr ?_), na, os, ag, hno rfl⟩)
        rw [hs]
        exact hh4
      first
        | exact wpAny_bind (wpAny_pure (wpAny_bind fin))
        | exact wpAny_bind fin
  refine wpAny_mono ((hb (wKeep X.K c i j Wout D) (X.pn ++ pins) E1 tk1 PassesOwn.looking).run [] s σ H D (I.toTry _) h) (fun f s1 hsp => ?_) (fun _ _ he => he)
  cases f with
  | next =>
    obtain ⟨σ', H', J', q⟩ := hsp
    exact wpAny_execs_nil ⟨_, _, J'.ofTry ok, q⟩
  | brk =>
    obtain ⟨σ', H', J', q⟩ := hsp
    exact ⟨_, _, J'.ofTry ok, q⟩
  | cont =>
    obtain ⟨σ', H', J', q⟩ := hsp
    exact ⟨_, _, J'.ofTry ok, q⟩
  | ret u =>
    obtain ⟨v, σ', H', J', r, q⟩ := hsp
    exact ⟨_, _, _, J'.ofTry ok, r, q⟩
end
/-- what «except x as n: y = n; z = None» wishes of an error -/
def wKeep2 (K : PySem.W.Frag) (c : Value) (n y z : Nat) (Wout : WX) (D : Ends) : WX := fun cls d σ H =>
  ∃ b, PySem.W.exmOne K cls c = some b ∧ (b = true → ∀ a, H a = none → D.nx (((((σ.set n (some (.ref a))).set y (some (.ref a)))).set z (some .non)).set n none) (upd H a (ExV cls d a))) ∧ (b = false → Wout cls d σ H)
section
variable {X : Cx} {x nn yy zz : Str} {c : Value} {i j l : Nat} {body : List Stmt} {np pos pos' p1 p2 p3 p4 p5 p6 : Pos} {kk : Nat} {tb : WX → TS} {Wout : WX}
theorem ps_try_keep2 (hs : X.stack = X.env :: X.outer) (hf : X.env.frame = some X.env.locals) (hex : X.ex = []) (hN : X.N.Nodup) (hi : X.N[i]? = some nn) (hln : X.env.kindOf nn = some .local) (hj : X.N[j]? = some yy) (hly : Loc X.env.scope yy) (hfy : X.fn yy = true ∨ X.env.scope.names.lookup yy = some .local) (hl : X.N[l]? = some zz) (hlz : Loc X.env.scope zz) (hfz : X.fn zz = true ∨ X.env.scope.names.lookup zz = some .local)
    (hd1 : (nn == ("__debug__" : Str)) = false) (hd2 : (nn == ("__classdict__" : Str)) = false) (hc : Names X x c) (tk : Takes X Wout)
    (hb : ∀ (W : WX) (pn : List (Addr × Obj)) (xe : Value → Shared → Prop), Takes (X.tr pn xe) W → PassesOwn (model X.prog X.w) X.A X.env xe → PSs (X.tr pn xe) body (tb W)) :
    PS X (.Try body [.ExceptHandler (some (.Name x np)) (some nn) [.Assign [.Name yy p1] (.Name nn p2) p3, .Assign [.Name zz p4] (.Constant .none kk p5) p6] pos'] [] [] pos) (fun D σ H => tb (wKeep2 X.K c i j l Wout D) D σ H) := by
  refine ⟨fun pins s σ H D I h => ?_⟩
  have ok := I.ok
  have hfr : X.A.frames = some (X.env :: X.outer) := ok.frames.trans (congrArg some hs)
  let hd : List ExceptHandler := [.ExceptHandler (some (.Name x np)) (some nn) [.Assign [.Name yy p1] (.Name nn p2) p3, .Assign [.Name zz p4] (.Constant .none kk p5) p6] pos']
  let E1 : Value → Shared → Prop := fun e s1 => wpAny (model X.prog X.w) X.A (noteFrame e X.env) (fun _ s2 => wpAny (model X.prog X.w) X.A (setFlight e none) (fun _ s3 => wpAny (model X.prog X.w) X.A (handleBy e X.env hd) (SP X pins D) X.xe s3) X.xe s2) X.xe s1
  refine wpAny_Try_except ?_
  have tk1 : Takes (X.tr (X.pn ++ pins) E1) (wKeep2 X.K c i j l Wout D) := by
    intro u s' xx
    obtain ⟨a, B, sI, pins', σ', H', cls, d, rfl, J', nb, up, sky, na, os, ag, bb, hb1, hyes, hno⟩ := xx
    have J : L2.Inv X pins σ' H' sI := J'.ofTry ok
    have sky' : Sky B (X.env :: X.outer) a (Zc cls d) X.env.locals s'.heap := by rw [← hs]; exact sky
    show wpAny (model X.prog X.w) X.A (noteFrame (.ref a) X.env) _ _ _
    refine Sky.land Zc.steady hfr hf sky' fun h3 fl3 up3 => ?_
    have J3 : L2.Inv X pins σ' H' { s' with heap := h3 } := J.landed nb fl3.1 (up.trans up3) os ag
    obtain ⟨o3, v3, he3, hz3, hd3⟩ := fl3.there
    have nfr : a ∉ frs (X.env :: X.outer) := fun hm => by
      obtain ⟨_, o', e', hnf⟩ := fl3.2.2.1.mem hm
      rw [he3] at e'
      cases e'
      exact hnf _ hd3
    have nL : a ≠ X.env.locals := fun z => nfr (List.mem_filterMap.mpr ⟨X.env, List.mem_cons_self, by rw [hf, z]⟩)
    have nF : a ∉ X.fs := fun hm => by
      obtain ⟨e, he, q⟩ := List.mem_filterMap.mp hm
      exact nfr (List.mem_filterMap.mpr ⟨e, List.mem_cons_of_mem _ he, q⟩)
    -- the error is younger than the entry
    have nI : sI.heap.get? a = none := by
      cases q : sI.heap.get? a with
      | none => rfl
      | some o =>
        have z := nb a o q (by rw [hs]; exact nfr)
        rw [fl3.2.1] at z
        cases z
    have n0 : X.s_0.heap.get? a = none := by
      cases q : X.s_0.heap.get? a with
      | none => rfl
      | some o =>
        obtain ⟨o', z⟩ := J.base.there a o q (by rw [hex]; simp)
        rw [nI] at z
        cases z
    have npin : ∀ p, p ∈ X.pn ++ pins → p.1 ≠ a := fun p hp z => by
      have := (J.pin p hp).1
      rw [z, nI] at this
      cases this
    have S3 := J3.suite he3 hd3 na nL nF
    refine wpAny_handleBy_cons (codeAny_handlers_test ?_) (by intro q; cases q)
    have LT3 : PySem.W.Looks (model X.prog X.w) h3 (typeOf (.ref a)) cls := fun A Q E s k q => wpAny_typeOf_ref (k _ _ he3) (by rw [hz3.1]; exact q)
    have LM := PySem.W.exm_one (M := model X.prog X.w) J3.kIn LT3 hb1
    have test : ∀ {Q : Value → Shared → Prop} {E : Value → Shared → Prop}, Q c { s' with heap := h3 } → wpAny (model X.prog X.w) (X.A.mark (some (.ref a))) (eval (.Name x np) X.env) Q E { s' with heap := h3 } := fun {Q E} q => by
      obtain ⟨hg, hdbg, hm | ⟨hm, hv, hnn⟩⟩ := hc
      · exact ld_glob (X := X.suite a ((a, o3) :: (X.pn ++ pins))) S3 hg hm q hdbg
      · exact ld_blt (X := X.suite a ((a, o3) :: (X.pn ++ pins))) S3 hg hm hv q hnn hdbg
    refine test (LM.here ?_)
    cases bb with
    | true =>
      refine codeAny_handlers_suite_as (HandSPX.lands_againZ fl3 fun h4 fl4 up4 => ?_)
      have J4 : L2.Inv X pins σ' H' { s' with heap := h4 } := J.landed nb fl4.1 ((up.trans up3).trans up4) os ag
      obtain ⟨o4, v4, he4, hz4, hd4⟩ := fl4.there
      have S4 := J4.suite he4 hd4 na nL nF
      refine store_ok (X := X.suite a ((a, o4) :: (X.pn ++ pins))) (v := .ref a) S4 hN hi (.inl hln) rfl (fun s5 S5 => ?_) (.inr hln)
      -- y = n, in the suite
      have suite : PSs (X.suite a ((a, o4) :: (X.pn ++ pins))) [.Assign [.Name yy p1] (.Name nn p2) p3, .Assign [.Name zz p4] (.Constant .none kk p5) p6] (tSeq (tAsg (tVar i) (gName j)) (tAsg (tC .non) (gName l))) :=
        pss_cons (ps_set (X := X.suite a ((a, o4) :: (X.pn ++ pins))) hN hj hly (pe_var (X := X.suite a ((a, o4) :: (X.pn ++ pins))) hi (.inl hln) hd1 hd2) rfl hfy) (pss_one (ps_set (X := X.suite a ((a, o4) :: (X.pn ++ pins))) hN hl hlz pe_non rfl hfz))
      have hil : i < σ'.length := by
        rw [J.len]
        exact (List.getElem?_eq_some_iff.mp hi).1
      refine wpAny_mono (suite.run [] s5 _ H' { nx := fun σ6 H6 => σ6 = ((σ'.set i (some (.ref a))).set j (some (.ref a))).set l (some .non) ∧ H6 = H', rt := fun _ _ => False } S5 ⟨.ref a, List.getElem?_set_self hil, rfl, rfl⟩) (fun f s6 hsp => ?_) (fun _ _ z => False.elim z)
      cases f with
      | next =>
        obtain ⟨σ6, H6, S6, rfl, rfl⟩ := hsp
        have J6 : L2.Inv X ((a, o4) :: pins) _ H6 s6 := (S6.unsuite ok).pins_of fun p hp => by
          rcases List.mem_cons.mp hp with rfl | hp
          · obtain ⟨q1, q2, q3, q4, q5⟩ := S6.pin (a, o4) (List.mem_append_left _ List.mem_cons_self)
            exact ⟨q1, q2, q3, q4, q5⟩
          · obtain ⟨q1, q2, q3, q4, q5⟩ := S6.pin p (List.mem_append_left _ (List.mem_cons_of_mem _ (List.mem_append_right _ hp)))
            exact ⟨q1, q2, q3, q4, q5⟩
        refine gone_ok J6 hN hi hln fun s7 J7 => ?_
        exact ⟨_, _, inv_keep J7 hz4 hd4 n0 hex npin, hyes rfl a na⟩
      | brk => obtain ⟨_, _, _, q⟩ := hsp; exact q.elim
      | cont => obtain ⟨_, _, _, q⟩ := hsp; exact q.elim
      | ret u => obtain ⟨_, _, _, _, _, q⟩ := hsp; exact q.elim
    | false =>
      show wpAny _ X.A (handleBy (.ref a) X.env []) _ _ _
      refine wpAny_handleBy_nil ?_
      obtain ⟨f1, f2, f3, oe, vs, T, oT, ts', he, hz, hdd, g1, hr⟩ := id fl3
      unfold PySem.passOn
      refine wpAny_bind (wpAny_field he hdd g1 ?_)
      rw [if_neg (show ¬ ((Value.ref T == Value.none) = true) by simp)]
      have fin : wpAny (model X.prog X.w) X.A (setFlight (.ref a) X.env.frame) (fun _ s4 => wpAny (model X.prog X.w) X.A (throw (.ref a) : Sem Flow) (SP X pins D) X.xe s4) X.xe { s' with heap := h3 } := by
        rw [hf]
        refine HandSPX.setFlight_upZ fl3 fun h4 hh4 up4 => wpAny_throw (tk _ _ ⟨a, B, sI, pins, σ', H', cls, d, rfl, J, nb, (up.trans up3).trans up4, .inr (.inr ?_), na, os, ag, hno rfl⟩)
        rw [hs]
        exact hh4
      first
        | exact wpAny_bind (wpAny_pure (wpAny_bind fin))
        | exact wpAny_bind fin
  refine wpAny_mono ((hb (wKeep2 X.K c i j l Wout D) (X.pn ++ pins) E1 tk1 PassesOwn.looking).run [] s σ H D (I.toTry _) h) (fun f s1 hsp => ?_) (fun _ _ he => he)
  cases f with
  | next =>
    obtain ⟨σ', H', J', q⟩ := hsp
    exact wpAny_execs_nil ⟨_, _, J'.ofTry ok, q⟩
  | brk =>
    obtain ⟨σ', H', J', q⟩ := hsp
    exact ⟨_, _, J'.ofTry ok, q⟩
  | cont =>
    obtain ⟨σ', H', J', q⟩ := hsp
    exact ⟨_, _, J'.ofTry ok, q⟩
  | ret u =>
    obtain ⟨v, σ', H', J', r, q⟩ := hsp
    exact ⟨_, _, _, J'.ofTry ok, r, q⟩
end
end Sd
namespace Sd
open PySem PySem.Spec PyProof.Rows L2
/-! ### from the text to the core -/
structure SC where
  N : List Str
  sc : Scope
  st : Str → Bool
  fns : List (Str × Nat)
  css : List (Str × Nat)
  cls : List (Str × Nat)
def ixOf (x : Str) : List Str → Option Nat
  | [] => none
  | y :: r => if x = y then some 0 else (match ixOf x r with
    | some i => some (i + 1)
    | none => none)
theorem ixOf_get {x : Str} : ∀ {l : List Str} {i : Nat}, ixOf x l = some i → l[i]? = some x
  | [], _, h => by cases h
  | y :: r, i, h => by
    unfold ixOf at h
    split at h
    · rename_i e
      cases h
      simp [e]
    · split at h
      · rename_i j ej
        cases h
        simpa using ixOf_get ej
      · cases h
def plainN (x : Str) : Bool := !(x == ("__debug__" : Str)) && (!(x == ("__classdict__" : Str)) && !decide (x = "__name__"))
def isVis : Option NameKind → Bool
  | some .local => true
  | some .cell => true
  | some .free => true
  | _ => false
def isGlo : Option NameKind → Bool
  | some .globalImplicit => true
  | _ => false
def SC.look (c : SC) (x : Str) : Option NameKind := c.sc.names.lookup x
def SC.can (c : SC) (x : Str) : Bool := match c.look x with
  | some .local => true
  | some .cell => c.st x
  | _ => false
def biTab : List (Str × Nat × BI) := [("abs", 1, .abs), ("len", 1, .len), ("int", 1, .int), ("min", 1, .min1), ("max", 1, .max1), ("sum", 1, .sum), ("all", 1, .all), ("any", 1, .any), ("list", 1, .list), ("tuple", 1, .tuple), ("str", 1, .str), ("sorted", 1, .sorted), ("min", 2, .min2), ("max", 2, .max2)]
def biOf (x : Str) (n : Nat) : Option BI := match biTab.find? fun t => decide (t.1 = x) && t.2.1 == n with
  | some t => some t.2.2
  | none => none
theorem biTab_ok : ∀ t, t ∈ biTab → biX t.2.2 = t.1 := by decide +kernel
theorem biOf_x {x : Str} {n : Nat} {b : BI} (h : biOf x n = some b) : biX b = x := by
  unfold biOf at h
  split at h
  · rename_i t e
    cases h
    have h1 := List.find?_some e
    have h2 := biTab_ok t (List.mem_of_find?_eq_some e)
    simp only [Bool.and_eq_true, decide_eq_true_eq] at h1
    rw [h2, h1.1]
  · cases h
def btX (x : Str) : Option String := if x = "int" then some "int" else if x = "bool" then some "bool" else if x = "tuple" then some "tuple" else if x = "list" then some "list" else if x = "str" then some "str" else if x = "dict" then some "dict" else if x = "ValueError" then some "ValueError" else none
def cTy (c : SC) : Expr → Option TyN
  | .Name x _ => if plainN x && isGlo (c.look x) then (match c.cls.lookup x with
    | some k => some (.cl k)
    | none => (match btX x with
      | some n => some (.bt n)
      | none => none)) else none
  | _ => none
def cTys (c : SC) : List Expr → Option (List TyN)
  | [] => some []
  | e :: es => match cTy c e, cTys c es with
    | some t, some ts => some (t :: ts)
    | _, _ => none
def meOf (x : Str) (n : Nat) : Option ME :=
  if n = 1 then (if x = "append" then some .append else if x = "extend" then some .extend else none)
  else if n = 2 then (if x = "insert" then some .insert else none)
  else if n = 0 then (if x = "pop" then some .pop0 else if x = "reverse" then some .reverse else if x = "clear" then some .clear else none) else none
/-- the block of a comprehension -/
def SC.blk (c : SC) (scope : Scope) : SC := { c with sc := relS scope c.sc, st := fun x => scope.names.lookup x == some .cell }
/-- the own names of a comprehension, with their slots -/
def ownOf (c : SC) (scope : Scope) : Option (List (Str × Nat)) := go scope.names
where
  go : List (Str × NameKind) → Option (List (Str × Nat))
    | [] => some []
    | (x, .local) :: r => (match ixOf x c.N, go r with
      | some i, some l => some ((x, i) :: l)
      | _, o => o)
    | (x, .cell) :: r => (match ixOf x c.N, go r with
      | some i, some l => some ((x, i) :: l)
      | _, o => o)
    | _ :: r => go r
/-- shapes with nothing odd about them -/
def okSh : Expr → Bool
  | .Name .. | .Constant .. | .BinOp .. | .UnaryOp .. | .BoolOp .. | .IfExp .. | .Compare .. | .Tuple .. | .List .. | .Subscript .. | .Attribute .. | .ListComp .. => true
  | .Call (.Name x _) [] [] _ => x != ("super" : Str)
  | .Call (.Name _ _) [] _ _ => false
  | .Call .. => true
  | _ => false
def isComp : Expr → Bool
  | .ListComp .. => true
  | _ => false
def isSlice : Expr → Bool
  | .Slice .. => true
  | _ => false
def isTup : Expr → Bool
  | .Tuple .. => true
  | _ => false
/-- a zip walks into a tuple of targets -/
def tgOk : I → Expr → Bool
  | .zip _ _, e => isTup e
  | _, _ => true
def chkT (tg : Expr) : Option I → Option I
  | some it => if tgOk it tg then some it else none
  | none => none
/-- steps of slices: written numbers -/
def stK : Expr → Option Int
  | .UnaryOp .USub (.Constant (.int i) _ _) _ => some (-i)
  | .Constant (.int i) _ _ => some i
  | _ => none
def loK : Option Expr → Option (Option Int)
  | none => some none
  | some (.Constant (.int i) _ _) => some (some i)
  | _ => none
/-- [lo::k] -/
def stOf : Expr → Option (Option Int × Int)
  | .Slice lo none (some k) _ => (match loK lo, stK k with
    | some l, some j => some (l, j)
    | _, _ => none)
  | _ => none
def o2 {α β γ : Type} (f : α → β → γ) : Option α → Option β → Option γ
  | some a, some b => some (f a b)
  | _, _ => none
def o3 {α β γ δ : Type} (f : α → β → γ → δ) : Option α → Option β → Option γ → Option δ
  | some a, some b, some c => some (f a b c)
  | _, _, _ => none
def o1 {α β : Type} (f : α → β) : Option α → Option β
  | some a => some (f a)
  | none => none
/-- a call by name: xs its arguments, hd the first one -/
def cCall (c : SC) (x : Str) (args : List Expr) (xs : Option (List X)) (hd : Option X) : Option X := if plainN x && isGlo (c.look x) then (match c.fns.lookup x with
    | some k => if args.isEmpty then (if x != ("super" : Str) then some (.fn k []) else none) else o1 (X.fn k) xs
    | none => if x = "isinstance" then (match args with
      | [_, t] => (match cTy c t with
        | some ty => o1 (fun y => X.isi y [ty]) hd
        | none => (match t with
          | .Tuple ts _ _ => (match cTys c ts with
            | some (t1 :: tr) => if ts.length ≤ 100 then o1 (fun y => X.isi y (t1 :: tr)) hd else none
            | _ => none)
          | _ => none))
      | _ => none) else (match biOf x args.length with
        | some b => if args.isEmpty then none else o1 (X.bi b) xs
        | none => none)) else none
def cSub (a : Option X) (s : Option (X × X)) (i : Option X) : Option X := match s with
  | some p => o1 (fun y => X.sl y p.1 p.2) a
  | none => o2 X.ix a i
mutual
def cE (c : SC) : Expr → Option X
  | .Name x _ => if plainN x then (if isVis (c.look x) then (match ixOf x c.N with
      | some i => some (.var i)
      | none => none) else if isGlo (c.look x) then (match c.css.lookup x with
      | some k => some (.g k)
      | none => none) else none) else none
  | .Constant v _ _ => (match v with
    | .int i => some (.c (.int i))
    | .bool b => some (.c (.bl b))
    | .none => some (.c .non)
    | .str x => some (.c (.str x))
    | _ => none)
  | .BinOp a o b _ => o2 (X.op o) (cE c a) (cE c b)
  | .UnaryOp .Not a _ => o1 X.no (cE c a)
  | .UnaryOp .USub a _ => o1 X.neg (cE c a)
  | .BoolOp o es _ => cB c o es
  | .IfExp t a b _ => o3 X.ite (cE c t) (cE c a) (cE c b)
  | .Compare a [o] [b] _ => o2 (X.cmp o) (cE c a) (cE c b)
  | .Compare a [o, o'] [b, d] _ => o3 (X.chain o o') (cE c a) (cE c b) (cE c d)
  | .Tuple es _ _ => o1 X.tp (cEs c es)
  | .List es _ => o1 X.ls (cEs c es)
  | .Subscript a i _ => (match stOf i with
    | some q => o1 (fun x => X.st x q.1 q.2) (cE c a)
    | none => cSub (cE c a) (cSl c i) (cE c i))
  | .Call (.Name x _) args [] _ => cCall c x args (cEs c args) (cHd c args)
  | .Call (.Attribute o m ap) args [] p => (match meOf m args.length with
    | some me => if ap.endLine == p.line then o2 (X.me me) (cE c o) (cEs c args) else none
    | none => none)
  | .ListComp elt [⟨tg, iter, ifs, 0⟩] scope _ => (match ownOf c scope with
    | some own => if blkC c.N c.sc scope own then (match cE (c.blk scope) elt, cT (c.blk scope) (own.map (·.2)) tg, chkT tg (match cR c iter with
        | some it => some it
        | none => o1 I.e (cE c iter)), cIfs (c.blk scope) ifs with
      | some e, some t, some it, some cond => some (.lc e t it cond (own.map (·.2)))
      | _, _, _, _ => none) else none
    | none => none)
  | _ => none
def cB (c : SC) (o : BoolOp) : List Expr → Option X
  | [] => none
  | [e] => cE c e
  | e :: e' :: es => (match o with
    | .And => o2 X.an (cE c e) (cB c o (e' :: es))
    | .Or => o2 X.ro (cE c e) (cB c o (e' :: es)))
def cEs (c : SC) : List Expr → Option (List X)
  | [] => some []
  | e :: es => o2 (fun x xs => x :: xs) (cE c e) (cEs c es)
def cSl (c : SC) : Expr → Option (X × X)
  | .Slice lo hi none _ => o2 Prod.mk (cO c lo) (cO c hi)
  | _ => none
def cHd (c : SC) : List Expr → Option X
  | [] => none
  | e :: _ => cE c e
def cO (c : SC) : Option Expr → Option X
  | none => some (.c .non)
  | some e => o1 X.aI (cE c e)
def cIfs (c : SC) : List Expr → Option X
  | [] => some (.c (.bl true))
  | [e] => cE c e
  | _ => none
/-- targets, all slots among sl -/
def cT (c : SC) (sl : List Nat) : Expr → Option T
  | .Name x _ => if c.can x then (match ixOf x c.N with
    | some i => if sl.contains i then some (.nm i) else none
    | none => none) else none
  | .Tuple ts _ _ => o1 T.tp (cTs c sl ts)
  | .Subscript o i _ => if isSlice i then none else o2 T.ix (cE c o) (cE c i)
  | _ => none
def cTs (c : SC) (sl : List Nat) : List Expr → Option (List T)
  | [] => some []
  | e :: es => o2 (fun x xs => x :: xs) (cT c sl e) (cTs c sl es)
/-- a range -/
def cR (c : SC) : Expr → Option I
  | .Call (.Name x _) args [] _ => if x = "range" then (if plainN x && (isGlo (c.look x) && (c.fns.lookup x).isNone) then (match args with
      | [b] => o1 I.rng1 (cE c b)
      | [a, b] => o2 I.rng2 (cE c a) (cE c b)
      | _ => none) else none) else if x = "zip" then (if plainN x && (isGlo (c.look x) && (c.fns.lookup x).isNone) then (match args with
      | [a, b] => o2 I.zip (cE c a) (cE c b)
      | _ => none) else none) else none
  | _ => none
end
def cI (c : SC) (tg e : Expr) : Option I := chkT tg (match cR c e with
  | some it => some it
  | none => o1 I.e (cE c e))
theorem chkT_some {tg : Expr} {o : Option I} {it : I} (h : chkT tg o = some it) : o = some it ∧ tgOk it tg = true := by
  cases o with
  | none => cases h
  | some i =>
    unfold chkT at h
    dsimp only at h
    split at h
    · rename_i hk
      cases h
      exact ⟨rfl, hk⟩
    · cases h
end Sd
namespace Sd
open PySem PySem.Spec PyProof.Rows L2
def bltAll : List Str := ["abs", "len", "int", "min", "max", "sum", "all", "any", "list", "tuple", "isinstance", "range", "bool", "str", "dict", "ValueError", "zip", "sorted", "enumerate", "set", "divmod", "reversed"]
/-- what the written part and the module's names say -/
structure Fx (Γ : Gam) (lev : Nat) (c : SC) (P : Program) (w : World) (K : PySem.W.Frag) (mg : Str → Option Value) (base : Heap) : Prop where
  fn : ∀ x k, c.fns.lookup x = some k → ∃ f fd ps, mg x = some (.ref f) ∧ PySem.W.keepIn K (.ref f) = true ∧ Binds K fd ps [] ∧ FnOk P w K mg base (L2.CX P w) lev f fd ps (spOf K (Γ.ar k) (Γ.fn k))
  cst : ∀ x k d, c.css.lookup x = some k → Γ.cst k = some d → ∃ v u, mg x = some u ∧ RelV v u ∧ ∀ H, Rp K H d v
  blt : ∀ x, x ∈ bltAll → mg x = none
  cls : ∀ x k, c.cls.lookup x = some k → clsN k = x ∧ Kn K k ∧ mg x = some (.ref (gaK K x))
  cfs : CFs K
structure XOk (Γ : Gam) (lev : Nat) (c : SC) (X : Cx) : Prop where
  N : X.N = c.N
  nd : c.N.Nodup
  sc : X.env.scope = c.sc
  fn : ∀ x, c.st x = true → X.fn x = true
  calm : X.calm = true
  room : Room lev X.A
  F : Fx Γ lev c X.prog X.w X.K X.mg X.base
section
variable {Γ : Gam} {lev : Nat} {c : SC} {X : Cx} {Wh : WX}
theorem Fx.blk {P : Program} {w : World} {K : PySem.W.Frag} {mg : Str → Option Value} {base : Heap} (h : Fx Γ lev c P w K mg base) (scope : Scope) : Fx Γ lev (c.blk scope) P w K mg base := ⟨h.fn, h.cst, h.blt, h.cls, h.cfs⟩
theorem XOk.units (h : XOk Γ lev c X) (hl : 2 ≤ lev) : X.A.units + 65 < cLine := by
  have := h.room.un
  omega
theorem XOk.gl (h : XOk Γ lev c X) {x : Str} (e : isGlo (c.look x) = true) : Gl X x := by
  unfold Gl Env.kindOf
  rw [h.sc]
  unfold SC.look at e
  cases q : c.sc.names.lookup x with
  | none => rw [q] at e; cases e
  | some k =>
    rw [q] at e
    cases k <;> first | rfl | cases e
theorem XOk.vis (h : XOk Γ lev c X) {x : Str} (e : isVis (c.look x) = true) : L2.Vis X.env.scope x := by
  unfold L2.Vis
  rw [h.sc]
  unfold SC.look at e
  cases q : c.sc.names.lookup x with
  | none => rw [q] at e; cases e
  | some k =>
    rw [q] at e
    cases k <;> first | exact .inl rfl | exact .inr (.inl rfl) | exact .inr (.inr rfl) | cases e
theorem XOk.can (h : XOk Γ lev c X) {x : Str} (e : c.can x = true) : L2.Loc X.env.scope x ∧ (X.fn x = true ∨ X.env.scope.names.lookup x = some .local) := by
  unfold L2.Loc
  rw [h.sc]
  unfold SC.can SC.look at e
  cases q : c.sc.names.lookup x with
  | none => rw [q] at e; cases e
  | some k =>
    rw [q] at e
    cases k with
    | «local» => exact ⟨.inl rfl, .inr rfl⟩
    | cell => exact ⟨.inr rfl, .inl (h.fn x e)⟩
    | _ => cases e
theorem plain_parts {x : Str} (h : plainN x = true) : (x == ("__debug__" : Str)) = false ∧ (x == ("__classdict__" : Str)) = false ∧ x ≠ "__name__" := by
  unfold plainN at h
  simp only [Bool.and_eq_true, Bool.not_eq_true', decide_eq_false_iff_not] at h
  exact ⟨h.1, h.2.1, h.2.2⟩
/-! ### shapes -/
theorem sh_star {e : Expr} (h : okSh e = true) (es : List Expr) (env : Env) : starEach (e :: es) env = (false, eval e env) :: starEach es env := by
  cases e <;> first | rfl | cases h
theorem attr_base0 {id attr : Str} {p pos : Pos} {env : Env} {whole : Sem Value} (h : (id != ("super" : Str)) = true) : attributeBase (.Call (.Name id p) [] [] pos) attr env whole = whole := by
  unfold attributeBase
  cases q : (id == ("super" : Str)) with
  | true =>
    unfold bne at h
    rw [q] at h
    cases h
  | false =>
    have q' : id ≠ ("super" : Str) := by simpa using q
    simp [q, q']
theorem sh_base {e : Expr} (h : okSh e = true) (n : Str) (env : Env) : attributeBase e n env (eval e env) = eval e env := by
  cases e <;> first
    | rfl
    | (cases h; done)
    | skip
  rename_i f args kw pos
  cases f <;> first
    | rfl
    | skip
  cases args with
  | nil =>
    cases kw with
    | nil =>
      have h' : (_ != ("super" : Str)) = true := h
      exact attr_base0 h'
    | cons => cases h
  | cons => rfl
theorem sh_fold {e : Expr} (h : okSh e = true) (env : Env) : ∀ x, foldedSetIterable e env x = pure x := by
  intro x
  cases e <;> first | rfl | cases h
theorem sh_in {e : Expr} (h : okSh e = true) (o : CmpOp) : behindInMarks o e = false := by
  cases e <;> first | rfl | cases h
theorem sh_ix {e : Expr} (h : okSh e = true) : PlainIx e := by
  intro o i
  cases e <;> first | rfl | cases h
theorem sh_sw {e : Expr} (h : okSh e = true) (hc : isComp e = false) (t : Option Expr) (l : Nat) (env : Env) : swapsWith e t l env = pure false := by
  cases e <;> first | rfl | (cases h; done) | (cases hc; done)
theorem any_back {pos : Pos} : ∀ {l : List (Bool × Sem Value)}, (∀ p, p ∈ l → p.1 = false) → (backTo pos l).any (·.1) = false
  | [], _ => rfl
  | p :: l, h => by
    have h1 := h p List.mem_cons_self
    have h2 := any_back (pos := pos) fun q hq => h q (List.mem_cons_of_mem _ hq)
    unfold backTo at h2 ⊢
    rw [List.map_cons, List.any_cons, h2]
    simp [h1]
theorem all_back {pos : Pos} : ∀ {l : List (Bool × Sem Value)}, (∀ p, p ∈ l → p.1 = false) → (backTo pos l).all (fun x => !x.1) = true
  | [], _ => rfl
  | p :: l, h => by
    have h1 := h p List.mem_cons_self
    have h2 := all_back (pos := pos) fun q hq => h q (List.mem_cons_of_mem _ hq)
    unfold backTo at h2 ⊢
    rw [List.map_cons, List.all_cons, h2]
    simp [h1]
theorem star_no {env : Env} : ∀ {es : List Expr}, es.all okSh = true → ∀ p, p ∈ starEach es env → p.1 = false
  | [], _, p, h => by cases h
  | e :: es, ho, p, h => by
    rw [List.all_cons, Bool.and_eq_true] at ho
    rw [sh_star ho.1] at h
    rcases List.mem_cons.mp h with rfl | h
    · rfl
    · exact star_no ho.2 p h
/-- what an expression's core is to be -/
structure EOk (Γ : Gam) (lev : Nat) (c : SC) (e : Expr) (x : Sd.X) : Prop where
  sh : okSh e = true
  pe : ∀ X Wh, XOk Γ lev c X → Takes X Wh → PE X e (LE X.K Wh (wE Γ x))
  pt : ∀ X Wh, XOk Γ lev c X → Takes X Wh → PT X e (LT X.K Wh (aTru (wE Γ x)))
/-- .. where its test is its value's truth -/
theorem EOk.plain {e : Expr} {x : Sd.X} (sh : okSh e = true) (he : ∀ env whole, isTrue e env whole = (do let v ← whole; standAt e.pos; holding [v] (truthy v))) (pe : ∀ X Wh, XOk Γ lev c X → Takes X Wh → PE X e (LE X.K Wh (wE Γ x))) : EOk Γ lev c e x :=
  ⟨sh, pe, fun X Wh ok tk => l_test (pe X Wh ok tk) (he X.env)⟩
theorem cTy_ok {e : Expr} {t : TyN} (h : cTy c e = some t) (ok : XOk Γ lev c X) : ClsE X e t := by
  cases e <;> (try (cases h; done))
  rename_i x pos
  simp only [cTy] at h
  split at h
  · rename_i hp
    rw [Bool.and_eq_true] at hp
    obtain ⟨p1, p2, p3⟩ := plain_parts hp.1
    have hg := ok.gl hp.2
    split at h
    · rename_i k ek
      cases h
      obtain ⟨z1, z2, z3⟩ := ok.F.cls x k ek
      subst z1
      exact ⟨.ref (gaK X.K (clsN k)), _, pe_glob hg z3 rfl p1, ⟨z2, rfl, rfl⟩, fun es => rfl⟩
    · split at h
      · rename_i n en
        cases h
        have key : x ∈ bltAll ∧ bootBuiltins x = some (.type n) ∧ n ∈ btNames := by
          unfold btX at en
          by_cases h1 : x = "int"
          · subst h1; cases en; exact ⟨by decide, by decide +kernel, by decide⟩
          rw [if_neg h1] at en
          by_cases h2 : x = "bool"
          · subst h2; cases en; exact ⟨by decide, by decide +kernel, by decide⟩
          rw [if_neg h2] at en
          by_cases h3 : x = "tuple"
          · subst h3; cases en; exact ⟨by decide, by decide +kernel, by decide⟩
          rw [if_neg h3] at en
          by_cases h4 : x = "list"
          · subst h4; cases en; exact ⟨by decide, by decide +kernel, by decide⟩
          rw [if_neg h4] at en
          by_cases h5 : x = "str"
          · subst h5; cases en; exact ⟨by decide, by decide +kernel, by decide⟩
          rw [if_neg h5] at en
          by_cases h6 : x = "dict"
          · subst h6; cases en; exact ⟨by decide, by decide +kernel, by decide⟩
          rw [if_neg h6] at en
          by_cases h7 : x = "ValueError"
          · subst h7; cases en; exact ⟨by decide, by decide +kernel, by decide⟩
          rw [if_neg h7] at en
          cases en
        exact ⟨.ty n, .type n, pe_bltn hg (ok.F.blt x key.1) key.2.1 rfl p3 p1, ⟨key.2.2, rfl, rfl⟩, fun es => rfl⟩
      · cases h
  · cases h
theorem cTys_ok : ∀ {es : List Expr} {ts : List TyN}, cTys c es = some ts → XOk Γ lev c X → ∃ cs us, ClsEs X es ts cs us
  | [], _, h, _ => by
    cases h
    exact ⟨[], [], .nil⟩
  | e :: es, ts, h, ok => by
    simp only [cTys] at h
    split at h
    · rename_i t tr e1 e2
      cases h
      obtain ⟨cv, u, h1, h2, h3⟩ := cTy_ok e1 ok
      obtain ⟨cs, us, h4⟩ := cTys_ok e2 ok
      exact ⟨cv :: cs, u :: us, .cons h1 h2 (h3 es) h4⟩
    · cases h
theorem o1_some {α β : Type} {f : α → β} {o : Option α} {y : β} (h : o1 f o = some y) : ∃ a, o = some a ∧ y = f a := by
  cases o with
  | none => cases h
  | some a => exact ⟨a, rfl, (Option.some.inj h).symm⟩
theorem o2_some {α β γ : Type} {f : α → β → γ} {o : Option α} {p : Option β} {y : γ} (h : o2 f o p = some y) : ∃ a b, o = some a ∧ p = some b ∧ y = f a b := by
  cases o with
  | none => cases h
  | some a =>
    cases p with
    | none => cases h
    | some b => exact ⟨a, b, rfl, rfl, (Option.some.inj h).symm⟩
theorem o3_some {α β γ δ : Type} {f : α → β → γ → δ} {o : Option α} {p : Option β} {q : Option γ} {y : δ} (h : o3 f o p q = some y) : ∃ a b d, o = some a ∧ p = some b ∧ q = some d ∧ y = f a b d := by
  cases o with
  | none => cases h
  | some a =>
    cases p with
    | none => cases h
    | some b =>
      cases q with
      | none => cases h
      | some d => exact ⟨a, b, d, rfl, rfl, rfl, (Option.some.inj h).symm⟩
/-- the methods -/
theorem me_ok {x : Str} {n : Nat} {m : ME} (h : meOf x n = some m) : ∃ r, Slot "list" x (meId m) ∧ typeOf (.builtin (meId m)) = pure (.type "method_descriptor") ∧ MtR X (meId m) r ∧ MeAbs X.K r (meS m) := by
  unfold meOf at h
  split at h
  · by_cases h1 : x = "append"
    · rw [if_pos h1] at h; cases h; subst h1
      exact ⟨_, PySem.F.slot_list_append, PySem.F.type_list_append, mt_append, me_append⟩
    · rw [if_neg h1] at h
      by_cases h2 : x = "extend"
      · rw [if_pos h2] at h; cases h; subst h2
        exact ⟨_, PySem.F.slot_list_extend, PySem.F.type_list_extend, mt_extend, me_extend⟩
      · rw [if_neg h2] at h; cases h
  · split at h
    · by_cases h1 : x = "insert"
      · rw [if_pos h1] at h; cases h; subst h1
        exact ⟨rInsert, PySem.F.slot_list_insert, PySem.F.type_list_insert, mt_insert, me_insert⟩
      · rw [if_neg h1] at h; cases h
    split at h
    · by_cases h1 : x = "pop"
      · rw [if_pos h1] at h; cases h; subst h1
        exact ⟨_, PySem.F.slot_list_pop, PySem.F.type_list_pop, mt_pop, me_pop0⟩
      rw [if_neg h1] at h
      by_cases h2 : x = "reverse"
      · rw [if_pos h2] at h; cases h; subst h2
        exact ⟨_, PySem.F.slot_list_reverse, PySem.F.type_list_reverse, mt_reverse, me_reverse⟩
      rw [if_neg h2] at h
      by_cases h3 : x = "clear"
      · rw [if_pos h3] at h; cases h; subst h3
        exact ⟨_, PySem.F.slot_list_clear, PySem.F.type_list_clear, mt_clear, me_clear⟩
      rw [if_neg h3] at h
      cases h
    · cases h
end
end Sd
namespace Sd
open PySem PySem.Spec PyProof.Rows L2
section
variable {Γ : Gam} {lev : Nat} {X : Cx} {Wh : WX}
theorem takes_blk {X : Cx} {s : Shared} {H : Hp} {scope : Scope} {cenv : Env} {fp : List Addr} : Takes (X.blk s H scope cenv fp) (fun _ _ _ _ => False) := fun _ _ x => by
  obtain ⟨_, _, _, _, _, _, _, _, _, _, _, _, _, _, _, _, z⟩ := x
  exact z.elim
theorem XOk.blk {c : SC} (ok : XOk Γ lev c X) (scope : Scope) (s : Shared) (H : Hp) (C : Addr) (cl : List (Str × Addr)) (fp : List Addr) : XOk Γ lev (c.blk scope) (X.blk s H scope (compEnvC scope cl C X.env) fp) where
  N := ok.N
  nd := ok.nd
  sc := by
    show relabel scope X.env = relS scope c.sc
    rw [← ok.sc]
    rfl
  fn := fun x h => h
  calm := ok.calm
  room := ok.room
  F := ok.F.blk scope
def BOk (Γ : Gam) (lev : Nat) (c : SC) (o : BoolOp) (es : List Expr) (x : Sd.X) : Prop := ∀ X Wh pos, XOk Γ lev c X → Takes X Wh → PE X (.BoolOp o es pos) (LE X.K Wh (wE Γ x)) ∧ PW X (.BoolOp o es pos) (LT X.K Wh (aTru (wE Γ x)))
def AOk (Γ : Gam) (lev : Nat) (c : SC) (es : List Expr) (xs : List Sd.X) : Prop := es.all okSh = true ∧ ∀ X Wh, XOk Γ lev c X → Takes X Wh → PA X es (LA X.K Wh (wEs Γ xs))
def OOk (Γ : Gam) (lev : Nat) (c : SC) (o : Option Expr) (x : Sd.X) : Prop := ∀ X Wh, XOk Γ lev c X → Takes X Wh → PO X o (LO X.K Wh (wE Γ x))
def IfOk (Γ : Gam) (lev : Nat) (c : SC) (es : List Expr) (x : Sd.X) : Prop := ∀ X Wh, XOk Γ lev c X → Takes X Wh → PTs X es (LT X.K Wh (aTru (wE Γ x)))
def TOk (Γ : Gam) (lev : Nat) (c : SC) (sl : List Nat) (e : Expr) (t : T) : Prop := (∀ es env, (assignEach (e :: es) env) = (false, assign e env) :: assignEach es env) ∧ ∀ X Wh, XOk Γ lev c X → Takes X Wh → PG X e (LG X.K Wh sl (wT Γ t))
def TsOk (Γ : Gam) (lev : Nat) (c : SC) (sl : List Nat) (es : List Expr) (ts : List T) : Prop := (∀ env, (assignEach es env).length = ts.length ∧ (assignEach es env).findIdx? (·.1) = none) ∧ ∀ X Wh, XOk Γ lev c X → Takes X Wh → PGs X es (LGs X.K Wh sl (wTs Γ ts))
def IOk (Γ : Gam) (lev : Nat) (c : SC) (e : Expr) (it : I) : Prop := okSh e = true ∧ ∀ X Wh tg, tgOk it tg = true → XOk Γ lev c X → Takes X Wh → PI X tg e (LI X.K Wh (wI Γ it))
theorem i_of {c : SC} {e : Expr} {x : Sd.X} (h : EOk Γ lev c e x) : IOk Γ lev c e (.e x) := ⟨h.sh, fun X Wh tg _ ok tk => i_seq (h.pe X Wh ok tk)⟩
theorem lo_non {X : Cx} {A : AE} {o : Option Expr} (h : PO X o (LO X.K Wh A)) : PO X o (LO X.K Wh A) := h
theorem ifs_nil {c : SC} : IfOk Γ lev c [] (.c (.bl true)) := fun X Wh ok tk => by
  have h := pts_nil (X := X)
  refine ⟨fun pins s σ H Q I hw => h.run pins s σ H Q I ?_⟩
  obtain ⟨ρ, S, W, P, se, wl, pl, hw⟩ := hw
  exact pl true S hw H (Kp.refl H) se.sto
theorem ifs_one {c : SC} {e : Expr} {x : Sd.X} (h : EOk Γ lev c e x) : IfOk Γ lev c [e] x := fun X Wh ok tk => pts_one (h.pt X Wh ok tk)
theorem e_lc {c : SC} {elt tg iter : Expr} {ifs : List Expr} {scope : Scope} {pos : Pos} {own : List (Str × Nat)} {e cond : Sd.X} {t : T} {it : I} (hb : blkC c.N c.sc scope own = true) (he : EOk Γ lev (c.blk scope) elt e) (ht : TOk Γ lev (c.blk scope) (own.map (·.2)) tg t) (hi : IOk Γ lev c iter it) (hk : tgOk it tg = true) (hf : IfOk Γ lev (c.blk scope) ifs cond) :
    EOk Γ lev c (.ListComp elt [⟨tg, iter, ifs, 0⟩] scope pos) (.lc e t it cond (own.map (·.2))) :=
  EOk.plain rfl (fun _ _ => rfl) fun X Wh ok tk => by
    have bo : BlkOk X.N X.env.scope scope own := by
      rw [ok.N, ok.sc]
      exact blkOk_by hb
    exact l_lc ok.calm (by rw [ok.N]; exact ok.nd) (hi.2 X Wh tg hk ok tk) bo (fun s H C cl fp => ht.2 _ _ (ok.blk scope s H C cl fp) takes_blk) (fun s H C cl fp => hf _ _ (ok.blk scope s H C cl fp) takes_blk) (fun s H C cl fp => he.pe _ _ (ok.blk scope s H C cl fp) takes_blk) (sh_fold hi.1 X.env)
theorem e_bool {c : SC} {o : BoolOp} {es : List Expr} {x : Sd.X} {pos : Pos} (h : BOk Γ lev c o es x) : EOk Γ lev c (.BoolOp o es pos) x := ⟨rfl, fun X Wh ok tk => (h X Wh pos ok tk).1, fun X Wh ok tk => (h X Wh pos ok tk).2.pt⟩
theorem b_one {c : SC} {o : BoolOp} {e : Expr} {x : Sd.X} (h : EOk Γ lev c e x) : BOk Γ lev c o [e] x := fun X Wh pos ok tk => ⟨pe_one (h.pe X Wh ok tk), by
  cases o with
  | And => exact pw_and1 (h.pt X Wh ok tk)
  | Or => exact pw_or1 (h.pt X Wh ok tk)⟩
theorem b_an {c : SC} {e e' : Expr} {es : List Expr} {x y : Sd.X} (h : EOk Γ lev c e x) (hr : BOk Γ lev c .And (e' :: es) y) : BOk Γ lev c .And (e :: e' :: es) (.an x y) := fun X Wh pos ok tk =>
  ⟨l_an (h.pe X Wh ok tk) (hr X Wh pos ok tk).1, l_anT (h.pt X Wh ok tk) (hr X Wh pos ok tk).2⟩
theorem b_ro {c : SC} {e e' : Expr} {es : List Expr} {x y : Sd.X} (h : EOk Γ lev c e x) (hr : BOk Γ lev c .Or (e' :: es) y) : BOk Γ lev c .Or (e :: e' :: es) (.ro x y) := fun X Wh pos ok tk =>
  ⟨l_ro (h.pe X Wh ok tk) (hr X Wh pos ok tk).1, l_roT (h.pt X Wh ok tk) (hr X Wh pos ok tk).2⟩
theorem a_cons {c : SC} {e : Expr} {es : List Expr} {x : Sd.X} {xs : List Sd.X} (h : EOk Γ lev c e x) (hr : AOk Γ lev c es xs) : AOk Γ lev c (e :: es) (x :: xs) :=
  ⟨by rw [List.all_cons, h.sh, hr.1]; rfl, fun X Wh ok tk => l_cons (h.pe X Wh ok tk) (hr.2 X Wh ok tk) (sh_star h.sh es X.env)⟩
theorem t_name {c : SC} {x : Str} {pos : Pos} {i : Nat} {sl : List Nat} (h1 : c.can x = true) (h2 : ixOf x c.N = some i) (h3 : sl.contains i = true) : TOk Γ lev c sl (.Name x pos) (.nm i) :=
  ⟨fun _ _ => rfl, fun X Wh ok tk => g_nm (by rw [ok.N]; exact ok.nd) (by rw [ok.N]; exact ixOf_get h2) (ok.can h1).1 (ok.can h1).2 (by simpa using h3)⟩
theorem t_tp {c : SC} {es : List Expr} {ts : List T} {sl : List Nat} {k : Nat} {pos : Pos} (h : TsOk Γ lev c sl es ts) : TOk Γ lev c sl (.Tuple es k pos) (.tp ts) :=
  ⟨fun _ _ => rfl, fun X Wh ok tk => g_tp ok.calm (h.2 X Wh ok tk) (h.1 X.env).1 (h.1 X.env).2⟩
theorem t_ix {c : SC} {a b : Expr} {x y : Sd.X} {sl : List Nat} {pos : Pos} (hs : isSlice b = false) (ha : EOk Γ lev c a x) (hb : EOk Γ lev c b y) : TOk Γ lev c sl (.Subscript a b pos) (.ix x y) :=
  ⟨fun _ _ => rfl, fun X Wh ok tk => g_ix (ha.pe X Wh ok tk) (hb.pe X Wh ok tk) (by
    intro v
    cases b <;> first | rfl | (cases hs; done))⟩
theorem ts_nil {c : SC} {sl : List Nat} : TsOk Γ lev c sl [] [] := ⟨fun _ => ⟨rfl, rfl⟩, fun X Wh ok tk => gs_nil⟩
theorem ts_cons {c : SC} {sl : List Nat} {e : Expr} {es : List Expr} {t : T} {ts : List T} (h : TOk Γ lev c sl e t) (hr : TsOk Γ lev c sl es ts) : TsOk Γ lev c sl (e :: es) (t :: ts) := by
  refine ⟨fun env => ?_, fun X Wh ok tk => gs_cons (h.2 X Wh ok tk) (hr.2 X Wh ok tk) (by rw [h.1 es X.env]; rfl)⟩
  obtain ⟨h1, h2⟩ := hr.1 env
  rw [h.1 es env]
  refine ⟨by simp [h1], ?_⟩
  rw [List.findIdx?_cons, h2]
  rfl
end
end Sd
namespace Sd
open PySem PySem.Spec PyProof.Rows L2
section
variable {Γ : Gam} {lev : Nat} (hlev : 2 ≤ lev)
include hlev
omit hlev in
theorem call_ok {c : SC} {n : Str} {np p : Pos} {args : List Expr} {x : Sd.X} (hA : ∀ xs, cEs c args = some xs → AOk Γ lev c args xs) (hH : ∀ x, cHd c args = some x → ∃ e es, args = e :: es ∧ EOk Γ lev c e x) (h : cCall c n args (cEs c args) (cHd c args) = some x) :
    EOk Γ lev c (.Call (.Name n np) args [] p) x := by
  unfold cCall at h
  split at h
  · rename_i hp
    rw [Bool.and_eq_true] at hp
    obtain ⟨p1, p2, p3⟩ := plain_parts hp.1
    split at h
    · rename_i k ek
      cases args with
      | nil =>
        have h' : (if (n != ("super" : Str)) = true then some (X.fn k []) else none) = some x := h
        clear h
        have h := h'
        split at h
        · rename_i hsu
          cases h
          refine EOk.plain hsu (fun _ _ => rfl) fun X Wh ok tk => ?_
          obtain ⟨f, fd, ps, f1, f2, f3, f4⟩ := ok.F.fn n k ek
          exact l_fn0 tk f4 ok.room (ok.gl hp.2) f1 f2 f3 p1
        · cases h
      | cons e es =>
        rw [if_neg (by simp)] at h
        obtain ⟨xs, h1, rfl⟩ := o1_some h
        have ha := hA xs h1
        have h3 := ha.1
        rw [List.all_cons, Bool.and_eq_true] at h3
        refine EOk.plain rfl (fun _ _ => rfl) fun X Wh ok tk => ?_
        obtain ⟨f, fd, ps, f1, f2, f3, f4⟩ := ok.F.fn n k ek
        exact l_fn tk f4 ok.room (ok.gl hp.2) f1 f2 f3 (ha.2 X Wh ok tk) p1 (sh_star h3.1 es X.env) (any_back (star_no h3.2))
    · split at h
      · rename_i hn
        subst hn
        split at h
        · rename_i a t
          split at h
          · rename_i ty ety
            obtain ⟨xa, h1, rfl⟩ := o1_some h
            obtain ⟨e, es, he, ha⟩ := hH xa h1
            cases he
            exact EOk.plain rfl (fun _ _ => rfl) fun X Wh ok tk => l_isi1 ok.F.cfs (ok.gl hp.2) (ok.F.blt _ (by decide)) (ha.pe X Wh ok tk) (cTy_ok ety ok) (sh_star ha.sh _ X.env)
          · split at h
            · rename_i ts tk1 tp _
              split at h
              · rename_i t1 tr ets
                split at h
                · rename_i hz
                  obtain ⟨xa, h1, rfl⟩ := o1_some h
                  obtain ⟨e, es, he, ha⟩ := hH xa h1
                  cases he
                  refine EOk.plain rfl (fun _ _ => rfl) fun X Wh ok tk => ?_
                  obtain ⟨cs, us, hcs⟩ := cTys_ok ets ok
                  exact l_isiT ok.F.cfs (ok.gl hp.2) (ok.F.blt _ (by decide)) (ha.pe X Wh ok tk) hcs hz (sh_star ha.sh _ X.env)
                · cases h
              · cases h
            · cases h
        · cases h
      · split at h
        · rename_i b eb
          have hx := biOf_x eb
          cases args with
          | nil => simp at h
          | cons e es =>
            rw [if_neg (by simp)] at h
            obtain ⟨xs, h1, rfl⟩ := o1_some h
            have ha := hA xs h1
            have h3 := ha.1
            rw [List.all_cons, Bool.and_eq_true] at h3
            subst hx
            refine EOk.plain rfl (fun _ _ => rfl) fun X Wh ok tk => ?_
            exact l_bi ok.calm (ok.gl hp.2) (ok.F.blt _ (by cases b <;> decide)) (ha.2 X Wh ok tk) (sh_star h3.1 es X.env) (any_back (star_no h3.2))
        · cases h
  · cases h
omit hlev in
theorem sub_ok {c : SC} {a i : Expr} {p : Pos} {x : Sd.X} (hA : ∀ x, cE c a = some x → EOk Γ lev c a x) (hI : ∀ x, cE c i = some x → EOk Γ lev c i x) (hS : ∀ p, cSl c i = some p → ∃ lo hi q, i = .Slice lo hi none q ∧ OOk Γ lev c lo p.1 ∧ OOk Γ lev c hi p.2)
    (h : cSub (cE c a) (cSl c i) (cE c i) = some x) : EOk Γ lev c (.Subscript a i p) x := by
  unfold cSub at h
  split at h
  · rename_i sp es
    obtain ⟨xa, h1, rfl⟩ := o1_some h
    have ha := hA xa h1
    obtain ⟨lo, hi, q, rfl, hl, hh⟩ := hS sp es
    exact EOk.plain rfl (fun _ _ => rfl) fun X Wh ok tk => l_sl (ha.pe X Wh ok tk) (hl X Wh ok tk) (hh X Wh ok tk)
  · obtain ⟨xa, xi, h1, h2, rfl⟩ := o2_some h
    have ha := hA xa h1
    have hi := hI xi h2
    exact EOk.plain rfl (fun _ _ => rfl) fun X Wh ok tk => l_ix (ha.pe X Wh ok tk) (hi.pe X Wh ok tk) (sh_ix hi.sh)
mutual
theorem cE_ok : ∀ (e : Expr) (c : SC) (x : Sd.X), cE c e = some x → EOk Γ lev c e x
  | .Name n p, c, x, h => by
    simp only [cE] at h
    split at h
    · rename_i hp
      obtain ⟨p1, p2, p3⟩ := plain_parts hp
      split at h
      · rename_i hv
        split at h
        · rename_i i ei
          cases h
          exact EOk.plain rfl (fun _ _ => rfl) fun X Wh ok tk => l_var (by rw [ok.N]; exact ixOf_get ei) (ok.vis hv) p1 p2
        · cases h
      · split at h
        · rename_i hg
          split at h
          · rename_i k ek
            cases h
            refine EOk.plain rfl (fun _ _ => rfl) fun X Wh ok tk => ?_
            cases q : Γ.cst k with
            | none =>
              refine ⟨fun pins s σ H Q I hw => ?_⟩
              obtain ⟨ρ, S, W, P, se, wl, pl, hw⟩ := hw
              simp only [wE, q] at hw
            | some d =>
              obtain ⟨v, u, h1, h2, h3⟩ := ok.F.cst n k d ek q
              refine PE.imp (pe_glob (ok.gl hg) h1 h2 p1) fun σ H Q ⟨ρ, S, W, P, se, wl, pl, hw⟩ => ?_
              simp only [wE, q] at hw
              exact pl.now hw se.sto (h3 H)
          · cases h
        · cases h
    · cases h
  | .Constant v k p, c, x, h => by
    simp only [cE] at h
    cases v <;> (try (cases h; done))
    · cases h; exact EOk.plain rfl (fun _ _ => rfl) fun X Wh ok tk => l_c pe_non fun H => rfl
    · cases h; exact EOk.plain rfl (fun _ _ => rfl) fun X Wh ok tk => l_c pe_bl fun H => rfl
    · cases h; exact EOk.plain rfl (fun _ _ => rfl) fun X Wh ok tk => l_c pe_int fun H => rfl
    · cases h; exact EOk.plain rfl (fun _ _ => rfl) fun X Wh ok tk => l_c pe_str fun H => rfl
  | .BinOp a o b p, c, x, h => by
    simp only [cE] at h
    obtain ⟨xa, xb, h1, h2, rfl⟩ := o2_some h
    have ha := cE_ok a c xa h1
    have hb := cE_ok b c xb h2
    exact EOk.plain rfl (fun _ _ => rfl) fun X Wh ok tk => l_op (ha.pe X Wh ok tk) (hb.pe X Wh ok tk)
  | .UnaryOp o a p, c, x, h => by
    cases o <;> simp only [cE] at h <;> (try (cases h; done))
    · obtain ⟨xa, h1, rfl⟩ := o1_some h
      have ha := cE_ok a c xa h1
      exact ⟨rfl, fun X Wh ok tk => l_no (ha.pe X Wh ok tk), fun X Wh ok tk => l_noT (ha.pt X Wh ok tk)⟩
    · obtain ⟨xa, h1, rfl⟩ := o1_some h
      have ha := cE_ok a c xa h1
      exact EOk.plain rfl (fun _ _ => rfl) fun X Wh ok tk => l_neg (ha.pe X Wh ok tk)
  | .BoolOp o es p, c, x, h => by
    simp only [cE] at h
    exact e_bool (cB_ok es c o x h)
  | .IfExp t a b p, c, x, h => by
    simp only [cE] at h
    obtain ⟨xt, xa, xb, h1, h2, h3, rfl⟩ := o3_some h
    have ht := cE_ok t c xt h1
    have ha := cE_ok a c xa h2
    have hb := cE_ok b c xb h3
    refine ⟨rfl, fun X Wh ok tk => l_ite (ht.pt X Wh ok tk) (ha.pe X Wh ok tk) (hb.pe X Wh ok tk), fun X Wh ok tk => ?_⟩
    exact l_iteT (ht.pt X Wh ok tk) (ha.pt X Wh ok tk) (hb.pt X Wh ok tk)
  | .Compare a ops bs p, c, x, h => by
    match ops, bs, h with
    | [o], [b], h =>
      simp only [cE] at h
      obtain ⟨xa, xb, h1, h2, rfl⟩ := o2_some h
      have ha := cE_ok a c xa h1
      have hb := cE_ok b c xb h2
      exact ⟨rfl, fun X Wh ok tk => l_cmp (ok.units hlev) (ha.pe X Wh ok tk) (hb.pe X Wh ok tk) (sh_in hb.sh o), fun X Wh ok tk => l_cmpT (ok.units hlev) (ha.pe X Wh ok tk) (hb.pe X Wh ok tk) (sh_in hb.sh o)⟩
    | [o, o'], [b, d], h =>
      simp only [cE] at h
      obtain ⟨xa, xb, xd, h1, h2, h3, rfl⟩ := o3_some h
      have ha := cE_ok a c xa h1
      have hb := cE_ok b c xb h2
      have hd := cE_ok d c xd h3
      exact ⟨rfl, fun X Wh ok tk => l_chain (ok.units hlev) (ha.pe X Wh ok tk) (hb.pe X Wh ok tk) (hd.pe X Wh ok tk) (sh_in hb.sh o) (sh_in hd.sh o'), fun X Wh ok tk => l_chainT (ok.units hlev) (ha.pe X Wh ok tk) (hb.pe X Wh ok tk) (hd.pe X Wh ok tk) (sh_in hb.sh o) (sh_in hd.sh o')⟩
  | .Tuple es k p, c, x, h => by
    simp only [cE] at h
    obtain ⟨xs, h1, rfl⟩ := o1_some h
    have ha := cEs_ok es c xs h1
    exact EOk.plain rfl (fun _ _ => rfl) fun X Wh ok tk => l_tp (ha.2 X Wh ok tk)
  | .List es p, c, x, h => by
    simp only [cE] at h
    obtain ⟨xs, h1, rfl⟩ := o1_some h
    have ha := cEs_ok es c xs h1
    exact EOk.plain rfl (fun _ _ => rfl) fun X Wh ok tk => l_ls (ha.2 X Wh ok tk)
  | .Subscript a i p, c, x, h => by
    simp only [cE] at h
    have hA : ∀ x, cE c a = some x → EOk Γ lev c a x := fun x hx => cE_ok a c x hx
    have hI : ∀ x, cE c i = some x → EOk Γ lev c i x := fun x hx => cE_ok i c x hx
    have hS : ∀ p, cSl c i = some p → ∃ lo hi q, i = .Slice lo hi none q ∧ OOk Γ lev c lo p.1 ∧ OOk Γ lev c hi p.2 := fun p hx => cSl_ok i c p hx
    cases hr : stOf i with
    | some q =>
      rw [hr] at h
      obtain ⟨xa, h1, rfl⟩ := o1_some h
      have ha := hA xa h1
      unfold stOf at hr
      split at hr
      · rename_i lo k p3
        split at hr
        · rename_i l j e1 e2
          cases hr
          refine EOk.plain rfl (fun _ _ => rfl) fun X Wh ok tk => l_st (ha.pe X Wh ok tk) ?_ ?_
          · unfold loK at e1
            split at e1
            · cases e1; exact po_pt_none
            · cases e1; exact po_pt_int
            · cases e1
          · unfold stK at e2
            split at e2
            · cases e2; exact po_pt_neg
            · cases e2; exact po_pt_int
            · cases e2
        · cases hr
      · cases hr
    | none =>
    rw [hr] at h
    exact sub_ok hA hI hS h
  | .Call f args kw p, c, x, h => by
    cases kw with
    | cons k1 k2 => cases f <;> simp [cE] at h
    | nil =>
      cases f <;> (try (simp [cE] at h; done))
      · -- a method
        rename_i o m ap
        simp only [cE] at h
        split at h
        · rename_i me hm
          split at h
          · rename_i hl
            obtain ⟨xo, xs, h1, h2, rfl⟩ := o2_some h
            have ho := cE_ok o c xo h1
            have ha := cEs_ok args c xs h2
            refine EOk.plain rfl (fun _ _ => rfl) fun X Wh ok tk => ?_
            obtain ⟨r, r1, r2, r3, r4⟩ := me_ok (X := X) hm
            cases args with
            | nil =>
              have e : xs = [] := by
                simp only [cEs] at h2
                exact (Option.some.inj h2).symm
              subst e
              exact l_me0 r1 r2 r3 r4 (ho.pe X Wh ok tk) (sh_base ho.sh m X.env) hl
            | cons e es =>
              have hall := star_no (env := X.env) ha.1
              have h3 := ha.1
              rw [List.all_cons, Bool.and_eq_true] at h3
              have hz : (e :: es).length < 20 := by
                unfold meOf at hm
                split at hm
                · rename_i q; rw [q]; decide
                · split at hm
                  · rename_i q; rw [q]; decide
                  · split at hm
                    · rename_i q; rw [q]; decide
                    · cases hm
              exact l_me r1 r2 r3 r4 (ho.pe X Wh ok tk) (ha.2 X Wh ok tk) (sh_base ho.sh m X.env) (sh_star h3.1 es X.env) (any_back (star_no h3.2)) hz hl (all_back hall)
          · cases h
        · cases h
      · -- a name
        rename_i n np
        simp only [cE] at h
        have hA : ∀ xs, cEs c args = some xs → AOk Γ lev c args xs := fun xs hx => cEs_ok args c xs hx
        have hH : ∀ x, cHd c args = some x → ∃ e es, args = e :: es ∧ EOk Γ lev c e x := fun x hx => cHd_ok args c x hx
        exact call_ok hA hH h
  | .ListComp elt gens scope p, c, x, h => by
    match gens, h with
    | [⟨tg, iter, ifs, 0⟩], h =>
      simp only [cE] at h
      split at h
      · rename_i own eo
        split at h
        · rename_i hb
          split at h
          · rename_i e t it cond e1 e2 e3 e4
            cases h
            have he := cE_ok elt (c.blk scope) e e1
            have ht := cT_ok tg (c.blk scope) (own.map (·.2)) t e2
            have hf : IfOk Γ lev (c.blk scope) ifs cond := cIfs_ok ifs (c.blk scope) cond e4
            obtain ⟨e3, hk⟩ := chkT_some e3
            have hi : IOk Γ lev c iter it := by
              split at e3
              · rename_i it2 er
                cases e3
                exact cR_ok iter c it er
              · obtain ⟨xi, h1, rfl⟩ := o1_some e3
                exact i_of (cE_ok iter c xi h1)
            exact e_lc hb he ht hi hk hf
          · cases h
        · cases h
      · cases h
  | .NamedExpr .., c, x, h => by simp [cE] at h
  | .Lambda .., c, x, h => by simp [cE] at h
  | .Dict .., c, x, h => by simp [cE] at h
  | .Set .., c, x, h => by simp [cE] at h
  | .SetComp .., c, x, h => by simp [cE] at h
  | .DictComp .., c, x, h => by simp [cE] at h
  | .GeneratorExp .., c, x, h => by simp [cE] at h
  | .Await .., c, x, h => by simp [cE] at h
  | .Yield .., c, x, h => by simp [cE] at h
  | .YieldFrom .., c, x, h => by simp [cE] at h
  | .FormattedValue .., c, x, h => by simp [cE] at h
  | .JoinedStr .., c, x, h => by simp [cE] at h
  | .Attribute .., c, x, h => by simp [cE] at h
  | .Starred .., c, x, h => by simp [cE] at h
  | .Slice .., c, x, h => by simp [cE] at h
theorem cB_ok : ∀ (es : List Expr) (c : SC) (o : BoolOp) (x : Sd.X), cB c o es = some x → BOk Γ lev c o es x
  | [], c, o, x, h => by simp [cB] at h
  | [e], c, o, x, h => by
    simp only [cB] at h
    exact b_one (cE_ok e c x h)
  | e :: e' :: es, c, o, x, h => by
    cases o <;> simp only [cB] at h
    · obtain ⟨xa, xb, h1, h2, rfl⟩ := o2_some h
      exact b_an (cE_ok e c xa h1) (cB_ok (e' :: es) c .And xb h2)
    · obtain ⟨xa, xb, h1, h2, rfl⟩ := o2_some h
      exact b_ro (cE_ok e c xa h1) (cB_ok (e' :: es) c .Or xb h2)
theorem cEs_ok : ∀ (es : List Expr) (c : SC) (xs : List Sd.X), cEs c es = some xs → AOk Γ lev c es xs
  | [], c, xs, h => by
    simp only [cEs, Option.some.injEq] at h
    subst h
    exact ⟨rfl, fun X Wh ok tk => l_nil⟩
  | e :: es, c, xs, h => by
    simp only [cEs] at h
    obtain ⟨xa, xb, h1, h2, rfl⟩ := o2_some h
    exact a_cons (cE_ok e c xa h1) (cEs_ok es c xb h2)
theorem cSl_ok : ∀ (e : Expr) (c : SC) (p : Sd.X × Sd.X), cSl c e = some p → ∃ lo hi q, e = .Slice lo hi none q ∧ OOk Γ lev c lo p.1 ∧ OOk Γ lev c hi p.2
  | .Slice lo hi none q, c, p, h => by
    simp only [cSl] at h
    obtain ⟨xl, xh, h1, h2, rfl⟩ := o2_some h
    exact ⟨lo, hi, q, rfl, cO_ok lo c xl h1, cO_ok hi c xh h2⟩
  | .Slice lo hi (some st) q, c, p, h => by simp [cSl] at h
  | .BoolOp .., c, t, h | .NamedExpr .., c, t, h | .BinOp .., c, t, h | .UnaryOp .., c, t, h | .Lambda .., c, t, h | .IfExp .., c, t, h | .Dict .., c, t, h | .Set .., c, t, h | .ListComp .., c, t, h | .SetComp .., c, t, h
  | .DictComp .., c, t, h | .GeneratorExp .., c, t, h | .Await .., c, t, h | .Yield .., c, t, h | .YieldFrom .., c, t, h | .Compare .., c, t, h | .FormattedValue .., c, t, h | .JoinedStr .., c, t, h
  | .Constant .., c, t, h | .Attribute .., c, t, h | .Starred .., c, t, h | .List .., c, t, h | .Call .., c, t, h | .Name .., c, t, h | .Tuple .., c, t, h | .Subscript .., c, t, h => by simp [cSl] at h
theorem cHd_ok : ∀ (es : List Expr) (c : SC) (x : Sd.X), cHd c es = some x → ∃ e r, es = e :: r ∧ EOk Γ lev c e x
  | [], c, x, h => by simp [cHd] at h
  | e :: es, c, x, h => by
    simp only [cHd] at h
    exact ⟨e, es, rfl, cE_ok e c x h⟩
theorem cO_ok : ∀ (o : Option Expr) (c : SC) (x : Sd.X), cO c o = some x → OOk Γ lev c o x
  | none, c, x, h => by
    simp only [cO, Option.some.injEq] at h
    subst h
    exact fun X Wh ok tk => l_nopart rfl
  | some e, c, x, h => by
    simp only [cO] at h
    obtain ⟨xa, h1, rfl⟩ := o1_some h
    have he := cE_ok e c xa h1
    exact fun X Wh ok tk => l_part (he.pe X Wh ok tk)
theorem cIfs_ok : ∀ (es : List Expr) (c : SC) (x : Sd.X), cIfs c es = some x → IfOk Γ lev c es x
  | [], c, x, h => by
    simp only [cIfs, Option.some.injEq] at h
    subst h
    exact ifs_nil
  | [e], c, x, h => by
    simp only [cIfs] at h
    exact ifs_one (cE_ok e c x h)
  | _ :: _ :: _, c, x, h => by simp [cIfs] at h
theorem cT_ok : ∀ (e : Expr) (c : SC) (sl : List Nat) (t : T), cT c sl e = some t → TOk Γ lev c sl e t
  | .Name n p, c, sl, t, h => by
    simp only [cT] at h
    split at h
    · rename_i h1
      split at h
      · rename_i i ei
        split at h
        · rename_i h3
          cases h
          exact t_name h1 ei h3
        · cases h
      · cases h
    · cases h
  | .Tuple es k p, c, sl, t, h => by
    simp only [cT] at h
    obtain ⟨ts, h1, rfl⟩ := o1_some h
    exact t_tp (cTs_ok es c sl ts h1)
  | .Subscript a i p, c, sl, t, h => by
    simp only [cT] at h
    split at h
    · cases h
    · rename_i hs
      obtain ⟨xa, xi, h1, h2, rfl⟩ := o2_some h
      exact t_ix (by simpa using hs) (cE_ok a c xa h1) (cE_ok i c xi h2)
  | .BoolOp .., c, sl, t, h | .NamedExpr .., c, sl, t, h | .BinOp .., c, sl, t, h | .UnaryOp .., c, sl, t, h | .Lambda .., c, sl, t, h | .IfExp .., c, sl, t, h | .Dict .., c, sl, t, h | .Set .., c, sl, t, h | .ListComp .., c, sl, t, h | .SetComp .., c, sl, t, h
  | .DictComp .., c, sl, t, h | .GeneratorExp .., c, sl, t, h | .Await .., c, sl, t, h | .Yield .., c, sl, t, h | .YieldFrom .., c, sl, t, h | .Compare .., c, sl, t, h | .Call .., c, sl, t, h | .FormattedValue .., c, sl, t, h | .JoinedStr .., c, sl, t, h
  | .Constant .., c, sl, t, h | .Attribute .., c, sl, t, h | .Starred .., c, sl, t, h | .List .., c, sl, t, h | .Slice .., c, sl, t, h => by simp [cT] at h
theorem cTs_ok : ∀ (es : List Expr) (c : SC) (sl : List Nat) (ts : List T), cTs c sl es = some ts → TsOk Γ lev c sl es ts
  | [], c, sl, ts, h => by
    simp only [cTs, Option.some.injEq] at h
    subst h
    exact ts_nil
  | e :: es, c, sl, ts, h => by
    simp only [cTs] at h
    obtain ⟨xa, xb, h1, h2, rfl⟩ := o2_some h
    exact ts_cons (cT_ok e c sl xa h1) (cTs_ok es c sl xb h2)
theorem cR_ok : ∀ (e : Expr) (c : SC) (it : I), cR c e = some it → IOk Γ lev c e it
  | .Call f args kw p, c, it, h => by
    cases kw with
    | cons k1 k2 => cases f <;> simp [cR] at h
    | nil =>
      cases f <;> (try (simp [cR] at h; done))
      rename_i n np
      rw [cR.eq_def] at h
      dsimp only at h
      split at h
      · rename_i hn
        subst hn
        split at h
        · rename_i hp
          rw [Bool.and_eq_true, Bool.and_eq_true] at hp
          split at h
          · rename_i b
            obtain ⟨xb, h1, rfl⟩ := o1_some h
            have hb := cE_ok b c xb h1
            exact ⟨rfl, fun X Wh tg _ ok tk => i_rng1 (ok.gl hp.2.1) (ok.F.blt _ (by decide)) (hb.pe X Wh ok tk) (sh_star hb.sh [] X.env)⟩
          · rename_i a b
            obtain ⟨xa, xb, h1, h2, rfl⟩ := o2_some h
            have ha := cE_ok a c xa h1
            have hb := cE_ok b c xb h2
            exact ⟨rfl, fun X Wh tg _ ok tk => i_rng2 (ok.gl hp.2.1) (ok.F.blt _ (by decide)) (ha.pe X Wh ok tk) (hb.pe X Wh ok tk) (sh_star hb.sh [] X.env) (sh_star ha.sh [b] X.env)⟩
          · cases h
        · cases h
      · split at h
        · rename_i hn
          subst hn
          split at h
          · rename_i hp
            rw [Bool.and_eq_true, Bool.and_eq_true] at hp
            split at h
            · rename_i a b
              obtain ⟨xa, xb, h1, h2, rfl⟩ := o2_some h
              have ha := cE_ok a c xa h1
              have hb := cE_ok b c xb h2
              refine ⟨rfl, fun X Wh tg ht ok tk => ?_⟩
              cases tg <;> (try (cases ht; done))
              exact i_zip (ok.gl hp.2.1) (ok.F.blt _ (by decide)) (ha.pe X Wh ok tk) (hb.pe X Wh ok tk) (sh_star hb.sh [] X.env) (sh_star ha.sh [b] X.env)
            · cases h
          · cases h
        · cases h
  | .BoolOp .., c, t, h | .NamedExpr .., c, t, h | .BinOp .., c, t, h | .UnaryOp .., c, t, h | .Lambda .., c, t, h | .IfExp .., c, t, h | .Dict .., c, t, h | .Set .., c, t, h | .ListComp .., c, t, h | .SetComp .., c, t, h
  | .DictComp .., c, t, h | .GeneratorExp .., c, t, h | .Await .., c, t, h | .Yield .., c, t, h | .YieldFrom .., c, t, h | .Compare .., c, t, h | .FormattedValue .., c, t, h | .JoinedStr .., c, t, h
  | .Constant .., c, t, h | .Attribute .., c, t, h | .Starred .., c, t, h | .List .., c, t, h | .Slice .., c, t, h | .Name .., c, t, h | .Tuple .., c, t, h | .Subscript .., c, t, h => by simp [cR] at h
end
end
end Sd
namespace Sd
open PySem PySem.Spec PyProof.Rows L2
def isLoc : Option NameKind → Bool
  | some .local => true
  | _ => false
/-- x = [..], the list stored within -/
def swC (c : SC) (e : Expr) (x : Str) (pl : Nat) : Bool := match e with
  | .ListComp _ _ s p => isLoc (c.look x) && (pl == p.line && !(s.names.any fun (n, k) => n == x && (k == .local || k == .cell)))
  | _ => false
/-- a, b = x, y with plain names -/
def parB (c : SC) (x : Str) (px : Pos) (y : Str) (py : Pos) (a b : Expr) : Bool := isLoc (c.look x) && (isLoc (c.look y) && (py.line == px.line && (!decide (x = y) && (!(foldedForSure 8 a && foldedForSure 8 b) && !(constantsAlone 8 a && constantsAlone 8 b)))))
/-- targets that are no plain names -/
def noNames : List Expr → Bool
  | [] => false
  | .Name _ _ :: r => noNames r
  | _ => true
/-- targets that are no plain local names -/
def anyCell (c : SC) : List Expr → Bool
  | [] => false
  | .Name x _ :: r => !isLoc (c.look x) || anyCell c r
  | _ => true
def genT (c : SC) (ts : List Expr) : Bool := anyCell c ts || decide (3 < ts.length)
/-- a, b, c = x, y, z with plain names -/
def parT (c : SC) (x : Str) (px : Pos) (y : Str) (py : Pos) (z : Str) (pz : Pos) (a b d : Expr) : Bool := isLoc (c.look x) && (isLoc (c.look y) && (isLoc (c.look z) && (py.line == px.line && (pz.line == px.line && (!decide (x = y) && (!decide (x = z) && (!decide (y = z) && (!(foldedForSure 8 a && (foldedForSure 8 b && foldedForSure 8 d)) && !(constantsAlone 8 a && (constantsAlone 8 b && constantsAlone 8 d))))))))))
def cAsg (c : SC) (tg e : Expr) (xe : Option X) (t : Option T) (xa xb xc : Option X) : Option Z := match tg, e with
  | .Name x p, e => (match ixOf x c.N with
    | some i => if c.can x then o1 (fun v => Z.asg (.nm i) v) xe else none
    | none => none)
  | .Tuple [.Name x px, .Name y py] _ _, .Tuple [a, b] _ _ => if parB c x px y py a b then (match ixOf x c.N, ixOf y c.N with
      | some i, some j => o2 (fun u v => Z.asg (.tp [.nm i, .nm j]) (.tp [u, v])) xa xb
      | _, _ => none) else if genT c [.Name x px, .Name y py] || [a, b].all (foldedForSure 8) then o2 (fun v t => Z.asg t v) xe t else none
  | .Tuple [.Name x px, .Name y py, .Name z pz] _ _, .Tuple [a, b, d] _ _ => if parT c x px y py z pz a b d then (match ixOf x c.N, ixOf y c.N, ixOf z c.N with
      | some i, some j, some l => o3 (fun u v w => Z.asg (.tp [.nm i, .nm j, .nm l]) (.tp [u, v, w])) xa xb xc
      | _, _, _ => none) else if genT c [.Name x px, .Name y py, .Name z pz] || [a, b, d].all (foldedForSure 8) then o2 (fun v t => Z.asg t v) xe t else none
  | .Tuple ts _ _, e => if isTup e && !genT c ts then none else o2 (fun v t => Z.asg t v) xe t
  | .Subscript .., e => o2 (fun v t => Z.asg t v) xe t
  | _, _ => none
def twoE : Expr → Option (Expr × Expr × Expr)
  | .Tuple [a, b] _ _ => some (a, b, a)
  | .Tuple [a, b, d] _ _ => some (a, b, d)
  | _ => none
def plainC (k : Nat) : Bool := !(k == 4 || (k == 15 || k == 17))
def cRz (c : SC) : Option Expr → Option Expr → Option Z
  | some (.Call (.Name x _) [.Constant (.str _) _ _] [] _), none => if plainN x && isGlo (c.look x) then (match c.cls.lookup x with
    | some k => if plainC k then some (.rz k) else none
    | none => none) else none
  | _, _ => none
/-- except x as n: y = n; z = None -/
def cHand2 (c : SC) : List ExceptHandler → Option (Nat × Nat × Nat × Nat)
  | [.ExceptHandler (some (.Name x _)) (some n) [.Assign [.Name y _] (.Name m _) _, .Assign [.Name z _] (.Constant .none _ _) _] _] => if plainN x && (isGlo (c.look x) && (plainN n && (isLoc (c.look n) && (c.can y && (c.can z && decide (m = n)))))) then (match c.cls.lookup x, ixOf n c.N, ixOf y c.N, ixOf z c.N with
    | some k, some i, some j, some l => if i = j ∨ i = l then none else some (k, i, j, l)
    | _, _, _, _ => none) else none
  | _ => none
/-- except x as n: y = n -/
def cHand (c : SC) : List ExceptHandler → Option (Nat × Nat × Nat)
  | [.ExceptHandler (some (.Name x _)) (some n) [.Assign [.Name y _] (.Name m _) _] _] => if plainN x && (isGlo (c.look x) && (plainN n && (isLoc (c.look n) && (c.can y && decide (m = n))))) then (match c.cls.lookup x, ixOf n c.N, ixOf y c.N with
    | some k, some i, some j => if i = j then none else some (k, i, j)
    | _, _, _ => none) else none
  | _ => none
def augOp : Operator → Bool
  | .Add => true
  | .Sub => true
  | _ => false
mutual
def cZ (c : SC) (all : List Nat) : Stmt → Option Z
  | .Assign [tg] e p => cAsg c tg e (cE c e) (cT c all tg) ((twoE e).bind fun q => cE c q.1) ((twoE e).bind fun q => cE c q.2.1) ((twoE e).bind fun q => cE c q.2.2)
  | .AugAssign (.Name x _) o e _ => if augOp o && c.can x then (match ixOf x c.N with
    | some i => o1 (Z.aug i o) (cE c e)
    | none => none) else none
  | .Expr e _ => if isComp e then none else o1 Z.ex (cE c e)
  | .Return (some e) _ => o1 Z.ret (cE c e)
  | .Return none _ => some (.ret (.c .non))
  | .If t a b _ => o3 Z.iff (cE c t) (cZs c all a) (cZs c all b)
  | .While t b [] _ => o2 Z.whl (cE c t) (cZs c all b)
  | .For tg it b [] _ => o3 Z.for_ (cT c all tg) (cI c tg it) (cZs c all b)
  | .Raise a b _ => cRz c a b
  | .Try b hs [] [] _ => (match cHand c hs with
    | some q => o1 (fun zs => Z.tr zs q.1 q.2.1 q.2.2) (cZs c all b)
    | none => (match cHand2 c hs with
      | some q => o1 (fun zs => Z.tr2 zs q.1 q.2.1 q.2.2.1 q.2.2.2) (cZs c all b)
      | none => none))
  | .Pass _ => some .pass
  | .Continue _ => some .cont
  | .Break _ => some .brk
  | _ => none
def cZs (c : SC) (all : List Nat) : List Stmt → Option (List Z)
  | [] => some []
  | s :: r => o2 (fun z zs => z :: zs) (cZ c all s) (cZs c all r)
end
/-- a def's body: all slots may be stored -/
def cBody (c : SC) (ss : List Stmt) : Option (List Z) := cZs c (List.range c.N.length) ss
structure XS (Γ : Gam) (c : SC) (X : Cx) : Prop where
  kind : X.env.scope.kind = .function
  stk : X.stack = X.env :: X.outer
  frm : X.env.frame = some X.env.locals
  exn : X.ex = []
  own : PassesOwn (model X.prog X.w) X.A X.env X.xe
  rz : ∀ x k, c.cls.lookup x = some k → plainC k = true → PySem.W.excIn X.K (gaK X.K (clsN k)) [.type "ValueError", .type "Exception", .type "BaseException", .type "object"] "ValueError.__new__" = true ∧ PySem.W.keepIn X.K (.ref (gaK X.K (clsN k))) = true ∧
    PySem.W.subIn X.K (.ref (gaK X.K (clsN k))) (.type "BaseException") = some true ∧ PySem.W.typeIn X.K (.ref (gaK X.K (clsN k))) = some (.type "type")
def ZOk (Γ : Gam) (lev : Nat) (c : SC) (st : Stmt) (z : Z) : Prop := ∀ X Wh, XOk Γ lev c X → XS Γ c X → Takes X Wh → PS X st (LS X.K Wh (wZ Γ z))
def ZsOk (Γ : Gam) (lev : Nat) (c : SC) (st : List Stmt) (z : List Z) : Prop := ∀ X Wh, XOk Γ lev c X → XS Γ c X → Takes X Wh → PSs X st (LS X.K Wh (wZs Γ z))
section
variable {Γ : Gam} {lev : Nat} {c : SC} {X : Cx} {Wh : WX}
theorem isLoc_eq {o : Option NameKind} (h : isLoc o = true) : o = some .local := by
  cases o with
  | none => cases h
  | some k => cases k <;> first | rfl | cases h
theorem XOk.tr (ok : XOk Γ lev c X) (pn : List (Addr × Obj)) (xe : Value → Shared → Prop) : XOk Γ lev c (X.tr pn xe) := ⟨ok.N, ok.nd, ok.sc, ok.fn, ok.calm, ok.room, ok.F⟩
theorem XS.tr (s : XS Γ c X) {pn : List (Addr × Obj)} {xe : Value → Shared → Prop} (h : PassesOwn (model X.prog X.w) X.A X.env xe) : XS Γ c (X.tr pn xe) := ⟨s.kind, s.stk, s.frm, s.exn, h, s.rz⟩
theorem blkFn {env : Env} (h : env.scope.kind = .function) : env.blockKind = .function := by
  unfold Env.blockKind
  rw [h]
  rfl
theorem sw_no {e : Expr} {x : Str} {px : Pos} {l : Nat} (sc : X.env.scope = c.sc) (sh : okSh e = true) (h : swC c e x px.line = false) (hk : X.env.scope.kind = .function) : swapsWith e (some (.Name x px)) l X.env = pure false := by
  by_cases hc : isComp e = false
  · exact sh_sw sh hc _ _ _
  · cases e <;> (try exact absurd rfl hc)
    rename_i elt gs s p
    unfold swapsWith
    have hb := blkFn hk
    simp only [hb, Expr.pos]
    have ek : X.env.kindOf x = c.look x := by
      unfold Env.kindOf SC.look
      rw [sc]
    rw [ek]
    have h' : (isLoc (c.look x) && (px.line == p.line && !(s.names.any fun (n, k) => n == x && (k == .local || k == .cell)))) = false := h
    have e1 : (c.look x == some NameKind.local) = isLoc (c.look x) := by
      cases q : c.look x with
      | none => rfl
      | some k => cases k <;> rfl
    rw [e1]
    have e2 : ((ScopeKind.function == ScopeKind.function) && isLoc (c.look x) && px.line == p.line && !(s.names.any fun (n, k) => n == x && (k == .local || k == .cell))) = false := by
      rw [← h']
      simp [Bool.and_assoc]
    rw [e2]
theorem par_st {x y : Str} {px py pt pt2 : Pos} {a b : Expr} {k k2} (sc : X.env.scope = c.sc) (sa : okSh a = true) (sb : okSh b = true) (h : parB c x px y py a b = true) (hk : X.env.scope.kind = .function) :
    swappedStores [.Tuple [.Name x px, .Name y py] k pt] (.Tuple [a, b] k2 pt2) X.env = pure (some [x, y]) := by
  unfold parB at h
  simp only [Bool.and_eq_true, Bool.not_eq_true', decide_eq_false_iff_not] at h
  obtain ⟨h1, h2, h3, h4, h5, h6⟩ := h
  have k1 : X.env.kindOf x = some .local := by
    unfold Env.kindOf
    rw [sc]
    exact isLoc_eq h1
  have k2' : X.env.kindOf y = some .local := by
    unfold Env.kindOf
    rw [sc]
    exact isLoc_eq h2
  have hb := blkFn hk
  have h3' : py.line = px.line := by simpa using h3
  have n2 : ([x, y] : List Str).eraseDups = [x, y] := by
    rw [List.eraseDups_cons]
    have : ([y] : List Str).filter (fun b => !b == x) = [y] := by
      simp [Ne.symm h4]
    rw [this]
    rfl
  have n3 : ([a, b] : List Expr).all (foldedForSure 8) = false := by simpa using h5
  have n4 : ([a, b] : List Expr).all (constantsAlone 8) = false := by simpa using h6
  have q1 : (Expr.Name x px).pos = px := by first | rfl | simp [Expr.pos]
  unfold swappedStores
  cases a <;> (try (cases sa; done)) <;> cases b <;> (try (cases sb; done)) <;>
    simp [hb, List.filterMap_cons, k1, k2', q1, h3', n2, n3, n4, h5, h6]
theorem par3_st {x y z : Str} {px py pz pt pt2 : Pos} {a b d : Expr} {k k2} (sc : X.env.scope = c.sc) (sa : okSh a = true) (sb : okSh b = true) (sd : okSh d = true) (h : parT c x px y py z pz a b d = true) (hk : X.env.scope.kind = .function) :
    swappedStores [.Tuple [.Name x px, .Name y py, .Name z pz] k pt] (.Tuple [a, b, d] k2 pt2) X.env = pure (some [x, y, z]) := by
  unfold parT at h
  simp only [Bool.and_eq_true, Bool.not_eq_true', decide_eq_false_iff_not] at h
  obtain ⟨h1, h2, h3, h4, h5, h6, h7, h8, h9, h10⟩ := h
  have kx : X.env.kindOf x = some .local := by
    unfold Env.kindOf
    rw [sc]
    exact isLoc_eq h1
  have ky : X.env.kindOf y = some .local := by
    unfold Env.kindOf
    rw [sc]
    exact isLoc_eq h2
  have kz : X.env.kindOf z = some .local := by
    unfold Env.kindOf
    rw [sc]
    exact isLoc_eq h3
  have hb := blkFn hk
  have h4' : py.line = px.line := by simpa using h4
  have h5' : pz.line = px.line := by simpa using h5
  have n2 : ([x, y, z] : List Str).eraseDups = [x, y, z] := by
    have f1 : ([y, z] : List Str).filter (fun b => !b == x) = [y, z] := by
      simp [Ne.symm h6, Ne.symm h7]
    have f2 : ([z] : List Str).filter (fun b => !b == y) = [z] := by
      simp [Ne.symm h8]
    rw [List.eraseDups_cons, f1, List.eraseDups_cons, f2]
    rfl
  have n3 : ([a, b, d] : List Expr).all (foldedForSure 8) = false := by simpa using h9
  have n4 : ([a, b, d] : List Expr).all (constantsAlone 8) = false := by simpa using h10
  have q1 : (Expr.Name x px).pos = px := by first | rfl | simp [Expr.pos]
  unfold swappedStores
  dsimp only
  split
  · rename_i h0
    simp [hb] at h0
  · split
    · rename_i h0
      exfalso
      simp only [List.any_cons, List.any_nil, Bool.or_false, Bool.or_eq_true] at h0
      rcases h0 with h0 | h0 | h0
      · cases a <;> first | (cases h0; done) | (cases sa; done)
      · cases b <;> first | (cases h0; done) | (cases sb; done)
      · cases d <;> first | (cases h0; done) | (cases sd; done)
    · simp [List.filterMap_cons, kx, ky, kz, q1, h4', h5', n2, n3, n4, h9, h10]
end
end Sd
namespace Sd
open PySem PySem.Spec PyProof.Rows L2
section
variable {Γ : Gam} {lev : Nat} {c : SC} {X : Cx} {Wh : WX}
theorem lc_parts (hlev : 2 ≤ lev) {elt : Expr} {gens : List Comprehension} {scope : Scope} {p : Pos} {x : Sd.X} (h : cE c (.ListComp elt gens scope p) = some x) :
    ∃ tg iter ifs own e t it cond, gens = [⟨tg, iter, ifs, 0⟩] ∧ x = .lc e t it cond (own.map (·.2)) ∧ blkC c.N c.sc scope own = true ∧ EOk Γ lev (c.blk scope) elt e ∧ TOk Γ lev (c.blk scope) (own.map (·.2)) tg t ∧ IOk Γ lev c iter it ∧ tgOk it tg = true ∧ IfOk Γ lev (c.blk scope) ifs cond := by
  match gens, h with
  | [⟨tg, iter, ifs, 0⟩], h =>
    simp only [cE] at h
    split at h
    · rename_i own eo
      split at h
      · rename_i hb
        split at h
        · rename_i e t it cond e1 e2 e3 e4
          cases h
          obtain ⟨e3, hk⟩ := chkT_some e3
          have hi : IOk Γ lev c iter it := by
            split at e3
            · rename_i it2 er
              cases e3
              exact cR_ok hlev iter c it er
            · obtain ⟨xi, h1, rfl⟩ := o1_some e3
              exact i_of (cE_ok hlev iter c xi h1)
          exact ⟨tg, iter, ifs, own, e, t, it, cond, rfl, rfl, hb, cE_ok hlev elt _ e e1, cT_ok hlev tg _ _ t e2, hi, hk, cIfs_ok hlev ifs _ cond e4⟩
        · cases h
      · cases h
    · cases h
theorem sw_yes {elt : Expr} {gs : List Comprehension} {s : Scope} {p px : Pos} {x : Str} {l : Nat} (ok : XOk Γ lev c X) (hk : X.env.scope.kind = .function) (h : swC c (.ListComp elt gs s p) x px.line = true) :
    X.env.scope.names.lookup x = some .local ∧ swapsWith (.ListComp elt gs s p) (some (.Name x px)) l X.env = pure true := by
  have h' : (isLoc (c.look x) && (px.line == p.line && !(s.names.any fun (n, k) => n == x && (k == .local || k == .cell)))) = true := h
  rw [Bool.and_eq_true, Bool.and_eq_true, Bool.not_eq_true'] at h'
  have e : X.env.scope.names.lookup x = some .local := by
    rw [ok.sc]
    exact isLoc_eq h'.1
  exact ⟨e, sw_true hk e h'.2.1 h'.2.2⟩
theorem no_names {f : Expr → Option Str} (hf : ∀ e, f e ≠ none → ∃ x p, e = .Name x p) : ∀ {ts : List Expr}, noNames ts = true → (ts.filterMap f).length ≠ ts.length
  | [], h => by cases h
  | e :: r, h => by
    have hl : ∀ r : List Expr, (r.filterMap f).length ≤ r.length := fun r => List.length_filterMap_le f r
    cases q : f e with
    | none =>
      rw [List.filterMap_cons, q]
      have := hl r
      simp only [List.length_cons]
      omega
    | some y =>
      obtain ⟨x, p, rfl⟩ := hf e (by rw [q]; simp)
      have h' : noNames r = true := h
      rw [List.filterMap_cons, q]
      have := no_names hf h'
      simpa using this
theorem st_none {ts : List Expr} {k : Nat} {pt : Pos} {e : Expr} {env : Env} (h : (isTup e && !noNames ts) = false) : swappedStores [.Tuple ts k pt] e env = pure none := by
  by_cases he : isTup e = true
  · cases e <;> (try (cases he; done))
    rename_i vs k2 p2
    have hn : noNames ts = true := by
      cases q : noNames ts with
      | true => rfl
      | false => rw [q] at h; cases h
    unfold swappedStores
    dsimp only
    split
    · rfl
    · split
      · rfl
      · rw [if_pos]
        rw [Bool.or_eq_true]
        left
        refine bne_iff_ne.mpr (no_names ?_ hn)
        intro e0 h0
        cases e0 <;> first
          | exact ⟨_, _, rfl⟩
          | exact absurd rfl h0
  · cases e <;> first | rfl | exact absurd rfl he
theorem any_cell {c : SC} {f : Expr → Option Str} (hf : ∀ e, f e ≠ none → ∃ x p, e = .Name x p ∧ isLoc (c.look x) = true) : ∀ {ts : List Expr}, anyCell c ts = true → (ts.filterMap f).length ≠ ts.length
  | [], h => by cases h
  | e :: r, h => by
    have hl : ∀ r : List Expr, (r.filterMap f).length ≤ r.length := fun r => List.length_filterMap_le f r
    cases q : f e with
    | none =>
      rw [List.filterMap_cons, q]
      have := hl r
      simp only [List.length_cons]
      omega
    | some y =>
      obtain ⟨x, p, rfl, hx⟩ := hf e (by rw [q]; simp)
      have h' : (!isLoc (c.look x) || anyCell c r) = true := h
      rw [hx, Bool.not_true, Bool.false_or] at h'
      rw [List.filterMap_cons, q]
      have := any_cell hf h'
      simpa using this
theorem st_gen {ts : List Expr} {k : Nat} {pt : Pos} {e : Expr} (sc : X.env.scope = c.sc) (h : (isTup e && !genT c ts) = false) : swappedStores [.Tuple ts k pt] e X.env = pure none := by
  by_cases he : isTup e = true
  · cases e <;> (try (cases he; done))
    rename_i vs k2 p2
    have hn : genT c ts = true := by
      cases q : genT c ts with
      | true => rfl
      | false => rw [q] at h; cases h
    unfold genT at hn
    rw [Bool.or_eq_true] at hn
    unfold swappedStores
    dsimp only
    split
    · rfl
    · rename_i hlen
      split
      · rfl
      · rcases hn with hn | hn
        · rw [if_pos]
          rw [Bool.or_eq_true]
          left
          refine bne_iff_ne.mpr (any_cell (c := c) ?_ hn)
          intro e0 h0
          cases e0 <;> (try (exact absurd rfl h0))
          rename_i x px
          refine ⟨x, px, rfl, ?_⟩
          dsimp only at h0
          have ek : X.env.kindOf x = c.look x := by
            unfold Env.kindOf SC.look
            rw [sc]
          rw [ek] at h0
          cases ql : c.look x with
          | none => rw [ql] at h0; exact absurd rfl h0
          | some kk => cases kk <;> first | rfl | (rw [ql] at h0; exact absurd rfl h0)
        · exfalso
          have hn' : 3 < ts.length := of_decide_eq_true hn
          apply hlen
          simp only [Bool.or_eq_true, Bool.not_eq_true', Bool.or_eq_false_iff, beq_eq_false_iff_ne, ne_eq]
          left
          left
          omega
  · cases e <;> first | rfl | exact absurd rfl he
theorem st_fold {ts vs : List Expr} {k k2 : Nat} {pt p2 : Pos} {env : Env} (h : vs.all (foldedForSure 8) = true) : swappedStores [.Tuple ts k pt] (.Tuple vs k2 p2) env = pure none := by
  unfold swappedStores
  dsimp only
  split
  · rfl
  · split
    · rfl
    · split
      · rfl
      · first | rfl | (rw [if_pos h]; done) | (rw [if_pos h]; rfl)
theorem sole_no {tg e : Expr} {l : Nat} {env : Env} (h : ∀ x p, tg ≠ .Name x p) : swapsWithSole [tg] e l env = pure false := by
  unfold swapsWithSole swapsWith
  cases e <;> first
    | rfl
    | (cases tg <;> first | rfl | exact absurd rfl (h _ _))
theorem sub_none {a i e : Expr} {p : Pos} {env : Env} : swappedStores [.Subscript a i p] e env = pure none := by
  cases e <;> rfl
theorem asg_ok (hlev : 2 ≤ lev) {tg e : Expr} {p : Pos} {all : List Nat} {z : Z} (h : cAsg c tg e (cE c e) (cT c all tg) ((twoE e).bind fun q => cE c q.1) ((twoE e).bind fun q => cE c q.2.1) ((twoE e).bind fun q => cE c q.2.2) = some z) : ZOk Γ lev c (.Assign [tg] e p) z := by
  unfold cAsg at h
  split at h
  · rename_i x px
    split at h
    · rename_i i ei
      split at h
      · rename_i hc
        obtain ⟨v, h1, rfl⟩ := o1_some h
        intro X Wh ok s tk
        cases hsw : swC c e x px.line with
        | true =>
          cases e <;> (try (cases hsw; done))
          rename_i elt gens scope pe
          obtain ⟨tg, iter, ifs, own, e, t, it, cond, rfl, rfl, hb, he, ht, hi, hk, hf⟩ := lc_parts (Γ := Γ) hlev h1
          obtain ⟨w1, w2⟩ := sw_yes (l := p.line) ok s.kind hsw
          have bo : BlkOk X.N X.env.scope scope own := by
            rw [ok.N, ok.sc]
            exact blkOk_by hb
          exact s_setLc ok.calm (by rw [ok.N]; exact ok.nd) (by rw [ok.N]; exact ixOf_get ei) w1 w2 (hi.2 X Wh tg hk ok tk) bo (fun s H C cl fp => ht.2 _ _ (ok.blk scope s H C cl fp) takes_blk) (fun s H C cl fp => hf _ _ (ok.blk scope s H C cl fp) takes_blk) (fun s H C cl fp => he.pe _ _ (ok.blk scope s H C cl fp) takes_blk) (sh_fold hi.1 X.env)
        | false =>
          have he := cE_ok (Γ := Γ) hlev e c v h1
          exact s_set (by rw [ok.N]; exact ok.nd) (by rw [ok.N]; exact ixOf_get ei) (ok.can hc).1 (he.pe X Wh ok tk) (sw_no ok.sc he.sh hsw s.kind) (ok.can hc).2
      · cases h
    · cases h
  · rename_i x px y py k1 p1 a b k2 p2
    split at h
    · rename_i hp
      split at h
      · rename_i i j ei ej
        obtain ⟨u, v, h1, h2, rfl⟩ := o2_some h
        have ha := cE_ok (Γ := Γ) hlev a c u h1
        have hb := cE_ok (Γ := Γ) hlev b c v h2
        intro X Wh ok s tk
        have hp' := hp
        unfold parB at hp'
        simp only [Bool.and_eq_true, Bool.not_eq_true', decide_eq_false_iff_not] at hp'
        have hij : i ≠ j := fun q => by
          subst q
          have e1 := ixOf_get ei
          rw [ixOf_get ej] at e1
          exact hp'.2.2.2.1 (Option.some.inj e1).symm
        have key : (wZ Γ (.asg (.tp [.nm i, .nm j]) (.tp [u, v]))) = fun N ρ S W => wE Γ u ρ S (fun d S1 => wE Γ v ρ S1 (fun d' S2 => N.nx ((ρ.set i (some d)).set j (some d')) S2) W) W := by
          funext N ρ S W
          simp only [wZ, wE, wEs, wT, wTs, List.length_cons, List.length_nil]
          have e0 : (0 + 1 + 1 ≤ sizeLine) = True := by
            rw [sizeLine_eq]
            simp
          simp only [e0, true_and]
        rw [key]
        exact s_par ok.calm (by rw [ok.N]; exact ok.nd) (by rw [ok.N]; exact ixOf_get ei) (by rw [ok.N]; exact ixOf_get ej) hij (by rw [ok.sc]; exact isLoc_eq hp'.1) (by rw [ok.sc]; exact isLoc_eq hp'.2.1) (ha.pe X Wh ok tk) (hb.pe X Wh ok tk) (sh_star ha.sh _ _) (sh_star hb.sh _ _) (par_st ok.sc ha.sh hb.sh hp s.kind)
      · cases h
    · split at h
      · rename_i hg
        obtain ⟨v, t, h1, h2, rfl⟩ := o2_some h
        have he := cE_ok (Γ := Γ) hlev _ c v h1
        have ht := cT_ok (Γ := Γ) hlev _ c all t h2
        intro X Wh ok s tk
        rw [Bool.or_eq_true] at hg
        refine s_asg (he.pe X Wh ok tk) (ht.2 X Wh ok tk) (sole_no (fun _ _ q => by cases q)) ?_ rfl
        rcases hg with hg | hg
        · exact st_gen ok.sc (by rw [hg]; simp)
        · exact st_fold hg
      · cases h
  · rename_i x px y py z pz k1 p1 a b d k2 p2
    split at h
    · rename_i hp
      split at h
      · rename_i i j l ei ej el
        obtain ⟨u, v, w, h1, h2, h3, rfl⟩ := o3_some h
        have ha := cE_ok (Γ := Γ) hlev a c u h1
        have hb := cE_ok (Γ := Γ) hlev b c v h2
        have hd := cE_ok (Γ := Γ) hlev d c w h3
        intro X Wh ok s tk
        have hp' := hp
        unfold parT at hp'
        simp only [Bool.and_eq_true, Bool.not_eq_true', decide_eq_false_iff_not] at hp'
        obtain ⟨w1, w2, w3, _, _, w6, w7, w8, _, _⟩ := hp'
        have hij : i ≠ j := fun q => by
          subst q
          have e1 := ixOf_get ei
          rw [ixOf_get ej] at e1
          exact w6 (Option.some.inj e1).symm
        have hil : i ≠ l := fun q => by
          subst q
          have e1 := ixOf_get ei
          rw [ixOf_get el] at e1
          exact w7 (Option.some.inj e1).symm
        have hjl : j ≠ l := fun q => by
          subst q
          have e1 := ixOf_get ej
          rw [ixOf_get el] at e1
          exact w8 (Option.some.inj e1).symm
        have key : (wZ Γ (.asg (.tp [.nm i, .nm j, .nm l]) (.tp [u, v, w]))) = fun N ρ S W => wE Γ u ρ S (fun d S1 => wE Γ v ρ S1 (fun d' S2 => wE Γ w ρ S2 (fun d'' S3 => N.nx (((ρ.set i (some d)).set j (some d')).set l (some d'')) S3) W) W) W := by
          funext N ρ S W
          simp only [wZ, wE, wEs, wT, wTs, List.length_cons, List.length_nil]
          have e0 : (0 + 1 + 1 + 1 ≤ sizeLine) = True := by
            rw [sizeLine_eq]
            simp
          simp only [e0, true_and]
        rw [key]
        exact s_par3 ok.calm (by rw [ok.N]; exact ok.nd) (by rw [ok.N]; exact ixOf_get ei) (by rw [ok.N]; exact ixOf_get ej) (by rw [ok.N]; exact ixOf_get el) hij hil hjl (by rw [ok.sc]; exact isLoc_eq w1) (by rw [ok.sc]; exact isLoc_eq w2) (by rw [ok.sc]; exact isLoc_eq w3) (ha.pe X Wh ok tk) (hb.pe X Wh ok tk) (hd.pe X Wh ok tk) (sh_star ha.sh _ _) (sh_star hb.sh _ _) (sh_star hd.sh _ _) (par3_st ok.sc ha.sh hb.sh hd.sh hp s.kind)
      · cases h
    · split at h
      · rename_i hg
        obtain ⟨v, t, h1, h2, rfl⟩ := o2_some h
        have he := cE_ok (Γ := Γ) hlev _ c v h1
        have ht := cT_ok (Γ := Γ) hlev _ c all t h2
        intro X Wh ok s tk
        rw [Bool.or_eq_true] at hg
        refine s_asg (he.pe X Wh ok tk) (ht.2 X Wh ok tk) (sole_no (fun _ _ q => by cases q)) ?_ rfl
        rcases hg with hg | hg
        · exact st_gen ok.sc (by rw [hg]; simp)
        · exact st_fold hg
      · cases h
  · rename_i ts k1 p1 e _ 
    split at h
    · cases h
    · rename_i hn
      obtain ⟨v, t, h1, h2, rfl⟩ := o2_some h
      have he := cE_ok (Γ := Γ) hlev _ c v h1
      have ht := cT_ok (Γ := Γ) hlev _ c all t h2
      intro X Wh ok s tk
      exact s_asg (he.pe X Wh ok tk) (ht.2 X Wh ok tk) (sole_no (fun _ _ q => by cases q)) (st_gen ok.sc (by simpa using hn)) rfl
  · rename_i a i p1 e
    obtain ⟨v, t, h1, h2, rfl⟩ := o2_some h
    have he := cE_ok (Γ := Γ) hlev _ c v h1
    have ht := cT_ok (Γ := Γ) hlev _ c all t h2
    intro X Wh ok s tk
    exact s_asg (he.pe X Wh ok tk) (ht.2 X Wh ok tk) (sole_no (fun _ _ q => by cases q)) sub_none rfl
  · cases h
theorem rz_ok {a b : Option Expr} {p : Pos} {z : Z} (h : cRz c a b = some z) : ZOk Γ lev c (.Raise a b p) z := by
  unfold cRz at h
  split at h
  · rename_i x px m j p2 pc
    split at h
    · rename_i hp
      rw [Bool.and_eq_true] at hp
      split at h
      · rename_i k ek
        split at h
        · rename_i hk
          cases h
          intro X Wh ok s tk
          obtain ⟨z1, z2, z3⟩ := ok.F.cls x k ek
          obtain ⟨r1, r2, r3, r4⟩ := s.rz x k ek hk
          subst z1
          exact s_rz ok.calm tk z2 r1 z3 r2 r3 r4 (ok.gl hp.2) (plain_parts hp.1).1
        · cases h
      · cases h
    · cases h
  · cases h
theorem tr_ok {b : List Stmt} {hs : List ExceptHandler} {p : Pos} {zs : List Z} {q : Nat × Nat × Nat} (hq : cHand c hs = some q) (hb : ZsOk Γ lev c b zs) : ZOk Γ lev c (.Try b hs [] [] p) (.tr zs q.1 q.2.1 q.2.2) := by
  unfold cHand at hq
  split at hq
  · rename_i x px n y py m pm pa ph
    split at hq
    · rename_i hc
      simp only [Bool.and_eq_true, decide_eq_true_eq] at hc
      obtain ⟨c1, c2, c3, c4, c5, rfl⟩ := hc
      split at hq
      · rename_i k i j ek ei ej
        split at hq
        · cases hq
        · rename_i hij
          cases hq
          intro X Wh ok s tk
          obtain ⟨z1, z2, z3⟩ := ok.F.cls x k ek
          have hl : X.env.kindOf m = some .local := by
            unfold Env.kindOf
            rw [ok.sc]
            exact isLoc_eq c4
          refine PS.imp (ps_try_keep (tb := fun W => LS X.K W (wZs Γ zs)) s.stk s.frm s.exn (by rw [ok.N]; exact ok.nd) (by rw [ok.N]; exact ixOf_get ei) hl (by rw [ok.N]; exact ixOf_get ej) (ok.can c5).1 (ok.can c5).2 (plain_parts c3).1 (plain_parts c3).2.1
            ⟨ok.gl c2, (plain_parts c1).1, .inl z3⟩ tk (fun W pn xe tw po => hb (X.tr pn xe) W (ok.tr pn xe) (s.tr po) tw)) fun D σ H ⟨ρ, S, W, N, se, wl, sl, h⟩ => ?_
          refine ⟨ρ, S, _, N, se, fun jj f ρ1 S1 w d σ1 H1 k1 se1 fl => ?_, sl, h⟩
          subst z1
          have f2 := ok.F.cfs.two jj k fl.kn z2
          refine ⟨subK jj k, f2.exm, fun hb2 a ha => ?_, fun hb2 => ?_⟩
          · rw [if_pos hb2] at w
            have sn : S1 a = none := se1.sto.free ha
            have so2 : StoOk X.K (upd H1 a (ExV (.ref (gaK X.K (clsN jj))) d a)) (S1.up a (.exc jj f)) := se1.sto.new ha ⟨d, upd_same, fl.sm (Sm.new ha)⟩
            have se2 := se1.at (Kp.new (o := ExV (.ref (gaK X.K (clsN jj))) d a) ha) so2
            have se3 := ((se2.set i (d := .ref a) (v := .ref a) rfl).set j (d := .ref a) (v := .ref a) rfl).unset i none
            have el : (((ρ1.set i (some (Sd.D.ref a))).set j (some (Sd.D.ref a))).set i none) = (ρ1.set j (some (Sd.D.ref a))).set i none := by
              rw [List.set_comm _ _ hij, List.set_set]
            rw [el] at se3
            exact sl.nx _ _ (w a sn) _ _ (k1.trans (Kp.new ha)) se3
          · rw [if_neg (by rw [hb2]; simp)] at w
            exact wl jj f ρ1 S1 w d σ1 H1 k1 se1 fl
      · cases hq
    · cases hq
  · cases hq
theorem tr2_ok {b : List Stmt} {hs : List ExceptHandler} {p : Pos} {zs : List Z} {q : Nat × Nat × Nat × Nat} (hq : cHand2 c hs = some q) (hb : ZsOk Γ lev c b zs) : ZOk Γ lev c (.Try b hs [] [] p) (.tr2 zs q.1 q.2.1 q.2.2.1 q.2.2.2) := by
  unfold cHand2 at hq
  split at hq
  · rename_i x px n y py m pm pa z pz kz pk pa2 ph
    split at hq
    · rename_i hc
      simp only [Bool.and_eq_true, decide_eq_true_eq] at hc
      obtain ⟨c1, c2, c3, c4, c5, c6, rfl⟩ := hc
      split at hq
      · rename_i k i j l ek ei ej el
        split at hq
        · cases hq
        · rename_i hij
          cases hq
          intro X Wh ok s tk
          obtain ⟨z1, z2, z3⟩ := ok.F.cls x k ek
          have hl : X.env.kindOf m = some .local := by
            unfold Env.kindOf
            rw [ok.sc]
            exact isLoc_eq c4
          refine PS.imp (ps_try_keep2 (tb := fun W => LS X.K W (wZs Γ zs)) s.stk s.frm s.exn (by rw [ok.N]; exact ok.nd) (by rw [ok.N]; exact ixOf_get ei) hl (by rw [ok.N]; exact ixOf_get ej) (ok.can c5).1 (ok.can c5).2 (by rw [ok.N]; exact ixOf_get el) (ok.can c6).1 (ok.can c6).2 (plain_parts c3).1 (plain_parts c3).2.1
            ⟨ok.gl c2, (plain_parts c1).1, .inl z3⟩ tk (fun W pn xe tw po => hb (X.tr pn xe) W (ok.tr pn xe) (s.tr po) tw)) fun D σ H ⟨ρ, S, W, N, se, wl, sl, h⟩ => ?_
          refine ⟨ρ, S, _, N, se, fun jj f ρ1 S1 w d σ1 H1 k1 se1 fl => ?_, sl, h⟩
          subst z1
          have f2 := ok.F.cfs.two jj k fl.kn z2
          refine ⟨subK jj k, f2.exm, fun hb2 a ha => ?_, fun hb2 => ?_⟩
          · rw [if_pos hb2] at w
            have sn : S1 a = none := se1.sto.free ha
            have so2 : StoOk X.K (upd H1 a (ExV (.ref (gaK X.K (clsN jj))) d a)) (S1.up a (.exc jj f)) := se1.sto.new ha ⟨d, upd_same, fl.sm (Sm.new ha)⟩
            have se2 := se1.at (Kp.new (o := ExV (.ref (gaK X.K (clsN jj))) d a) ha) so2
            have se3 := (((se2.set i (d := .ref a) (v := .ref a) rfl).set j (d := .ref a) (v := .ref a) rfl).set l (d := .non) (v := .non) rfl).unset i none
            have hil : i ≠ l := fun e => hij (.inr e)
            have el2 : ((((ρ1.set i (some (Sd.D.ref a))).set j (some (Sd.D.ref a))).set l (some .non)).set i none) = ((ρ1.set j (some (Sd.D.ref a))).set l (some .non)).set i none := by
              rw [List.set_comm _ _ (fun e => hij (.inl e) : i ≠ j), List.set_comm _ _ hil, List.set_set]
            rw [el2] at se3
            exact sl.nx _ _ (w a sn) _ _ (k1.trans (Kp.new ha)) se3
          · rw [if_neg (by rw [hb2]; simp)] at w
            exact wl jj f ρ1 S1 w d σ1 H1 k1 se1 fl
      · cases hq
    · cases hq
  · cases hq
end
section
variable {Γ : Gam} {lev : Nat} (hlev : 2 ≤ lev)
include hlev
mutual
theorem cZ_ok : ∀ (st : Stmt) (c : SC) (all : List Nat) (z : Z), cZ c all st = some z → ZOk Γ lev c st z
  | .Assign tgs e p, c, all, z, h => by
    match tgs, h with
    | [tg], h =>
      simp only [cZ] at h
      exact asg_ok hlev h
    | [], h => simp [cZ] at h
    | _ :: _ :: _, h => simp [cZ] at h
  | .AugAssign tg o e p, c, all, z, h => by
    cases tg <;> (try (simp [cZ] at h; done))
    rename_i x px
    simp only [cZ] at h
    split at h
    · rename_i hc
      rw [Bool.and_eq_true] at hc
      split at h
      · rename_i i ei
        obtain ⟨v, h1, rfl⟩ := o1_some h
        have he := cE_ok (Γ := Γ) hlev e c v h1
        intro X Wh ok s tk
        exact s_aug (by cases o <;> first | exact .inl rfl | exact .inr rfl | (cases hc.1; done)) (by rw [ok.N]; exact ok.nd) (by rw [ok.N]; exact ixOf_get ei) (ok.can hc.2).1 (he.pe X Wh ok tk) (ok.can hc.2).2
      · cases h
    · cases h
  | .Expr e p, c, all, z, h => by
    simp only [cZ] at h
    split at h
    · cases h
    · rename_i hc
      obtain ⟨v, h1, rfl⟩ := o1_some h
      have he := cE_ok (Γ := Γ) hlev e c v h1
      intro X Wh ok s tk
      exact s_ex (he.pe X Wh ok tk) (sh_sw he.sh (by simpa using hc) _ _ _)
  | .Return o p, c, all, z, h => by
    cases o with
    | none =>
      simp only [cZ, Option.some.injEq] at h
      subst h
      intro X Wh ok s tk
      exact s_retN
    | some e =>
      simp only [cZ] at h
      obtain ⟨v, h1, rfl⟩ := o1_some h
      have he := cE_ok (Γ := Γ) hlev e c v h1
      intro X Wh ok s tk
      exact s_ret (he.pe X Wh ok tk)
  | .If t a b p, c, all, z, h => by
    simp only [cZ] at h
    obtain ⟨xt, za, zb, h1, h2, h3, rfl⟩ := o3_some h
    have ht := cE_ok (Γ := Γ) hlev t c xt h1
    have ha := cZs_ok a c all za h2
    have hb := cZs_ok b c all zb h3
    intro X Wh ok s tk
    exact s_if (ht.pt X Wh ok tk) (ha X Wh ok s tk) (hb X Wh ok s tk)
  | .While t b els p, c, all, z, h => by
    cases els with
    | cons => simp [cZ] at h
    | nil =>
      simp only [cZ] at h
      obtain ⟨xt, zb, h1, h3, rfl⟩ := o2_some h
      have ht := cE_ok (Γ := Γ) hlev t c xt h1
      have hb := cZs_ok b c all zb h3
      intro X Wh ok s tk
      exact s_while s.own (ht.pt X Wh ok tk) (hb X Wh ok s tk)
  | .For tg it b els p, c, all, z, h => by
    cases els with
    | cons => simp [cZ] at h
    | nil =>
      simp only [cZ] at h
      obtain ⟨t, i, zb, h1, h2, h3, rfl⟩ := o3_some h
      have ht := cT_ok (Γ := Γ) hlev tg c all t h1
      unfold cI at h2
      obtain ⟨h2, hk⟩ := chkT_some h2
      have hi : IOk Γ lev c it i := by
        split at h2
        · rename_i it2 er
          cases h2
          exact cR_ok hlev it c i er
        · obtain ⟨xi, h4, rfl⟩ := o1_some h2
          exact i_of (cE_ok hlev it c xi h4)
      have hb := cZs_ok b c all zb h3
      intro X Wh ok s tk
      exact s_for s.own ok.calm (hi.2 X Wh tg hk ok tk) (ht.2 X Wh ok tk) (hb X Wh ok s tk) (sh_fold hi.1 X.env)
  | .Raise a b p, c, all, z, h => by
    simp only [cZ] at h
    exact rz_ok h
  | .Try b hs els fin p, c, all, z, h => by
    cases els with
    | cons => simp [cZ] at h
    | nil =>
      cases fin with
      | cons => simp [cZ] at h
      | nil =>
        simp only [cZ] at h
        split at h
        · rename_i q hq
          obtain ⟨zs, h1, rfl⟩ := o1_some h
          exact tr_ok hq (cZs_ok b c all zs h1)
        · split at h
          · rename_i q hq
            obtain ⟨zs, h1, rfl⟩ := o1_some h
            exact tr2_ok hq (cZs_ok b c all zs h1)
          · cases h
  | .Pass p, c, all, z, h => by
    simp only [cZ, Option.some.injEq] at h
    subst h
    intro X Wh ok s tk
    exact s_pass
  | .Continue p, c, all, z, h => by
    simp only [cZ, Option.some.injEq] at h
    subst h
    intro X Wh ok s tk
    exact s_cont
  | .Break p, c, all, z, h => by
    simp only [cZ, Option.some.injEq] at h
    subst h
    intro X Wh ok s tk
    exact s_brk
  | .FunctionDef .., c, all, z, h | .AsyncFunctionDef .., c, all, z, h | .ClassDef .., c, all, z, h | .Delete .., c, all, z, h | .TypeAlias .., c, all, z, h | .AnnAssign .., c, all, z, h | .AsyncFor .., c, all, z, h | .With .., c, all, z, h | .AsyncWith .., c, all, z, h
  | .Match .., c, all, z, h | .TryStar .., c, all, z, h | .Assert .., c, all, z, h | .Import .., c, all, z, h | .ImportFrom .., c, all, z, h | .Global .., c, all, z, h | .Nonlocal .., c, all, z, h => by simp [cZ] at h
theorem cZs_ok : ∀ (ss : List Stmt) (c : SC) (all : List Nat) (zs : List Z), cZs c all ss = some zs → ZsOk Γ lev c ss zs
  | [], c, all, zs, h => by
    simp only [cZs, Option.some.injEq] at h
    subst h
    intro X Wh ok s tk
    exact s_nil
  | st :: ss, c, all, zs, h => by
    simp only [cZs] at h
    obtain ⟨z, zr, h1, h2, rfl⟩ := o2_some h
    have hz := cZ_ok st c all z h1
    have hr := cZs_ok ss c all zr h2
    intro X Wh ok s tk
    show PSs X (st :: ss) (LS X.K Wh fun N ρ S W => wZ Γ z { N with nx := fun ρ1 S1 => wZs Γ zr N ρ1 S1 W } ρ S W)
    exact s_cons (hz X Wh ok s tk) (hr X Wh ok s tk)
end
end
end Sd
namespace Sd
open PySem PySem.Spec PyProof.Rows L2
/-! ### a def keeps its contract -/
def startD (n : Nat) (ds : List D) : DSt := ds.map some ++ List.replicate (n - ds.length) none
def retE (P : PD) : DE := { nx := fun _ S => ∃ S', Sto.le S' S ∧ P .non S', rt := fun d S => ∃ S', Sto.le S' S ∧ P d S' }
def errW (W : FW) : AW := fun k f _ S => ∃ S', Sto.le S' S ∧ W k f S'
/-- what is to be shown of a body -/
def Meets (Γ : Gam) (n : Nat) (zs : List Z) (con : Con) : Prop := ∀ ds S P W, con ds S P W → wZs Γ zs (retE P) (startD n ds) S (errW W)
theorem start_sees {K : PySem.W.Frag} {H : Hp} {S : Sto} {N : List Str} {ds : List D} {vs : List V} (r : Rps K H ds vs) (s : StoOk K H S) : Sees K H (L2.start N vs) (startD N.length ds) S := by
  have hl := r.length
  refine ⟨by simp [startD, L2.start, hl], fun i d e => ?_, s⟩
  unfold startD at e
  unfold L2.start
  by_cases hi : i < ds.length
  · rw [List.getElem?_append_left (by simpa using hi), List.getElem?_map] at e
    cases q : ds[i]? with
    | none => rw [q] at e; cases e
    | some d' =>
      rw [q] at e
      cases e
      obtain ⟨v, h1, h2⟩ := r.get q
      exact ⟨v, by rw [List.getElem?_append_left (by rw [List.length_map, hl]; exact hi), List.getElem?_map, h1]; rfl, h2⟩
  · rw [List.getElem?_append_right (by simpa using hi), List.getElem?_replicate] at e
    split at e <;> cases e
structure DefOk (c : SC) (ps : List Str) (zs : List Z) (body : List Stmt) : Prop where
  sco : FnScope c.N ps c.sc
  all : c.st = fun _ => true
  com : cBody c body = some zs
theorem fn_ok {Γ : Gam} {lev : Nat} (hlev : 2 ≤ lev) {P : Program} {w : World} {K : PySem.W.Frag} {mg : Str → Option Value} {base : Heap} {x qual : Str} {params : Arguments} {body : List Stmt} {c : SC} {ps : List Str} {zs : List Z} {dvs : List V} {kws : List (Str × V)} {f : Addr} {fd : FuncData} {con : Con}
    (F : FunD K x qual params body c.sc dvs kws f fd) (dk : DefOk c ps zs body) (fx : Fx Γ lev c P w K mg base)
    (rz : ∀ x k, c.cls.lookup x = some k → plainC k = true → PySem.W.excIn K (gaK K (clsN k)) [.type "ValueError", .type "Exception", .type "BaseException", .type "object"] "ValueError.__new__" = true ∧ PySem.W.keepIn K (.ref (gaK K (clsN k))) = true ∧
      PySem.W.subIn K (.ref (gaK K (clsN k))) (.type "BaseException") = some true ∧ PySem.W.typeIn K (.ref (gaK K (clsN k))) = some (.type "type"))
    (hm : Meets Γ c.N.length zs con) : FnOk P w K mg base (L2.CX P w) (lev + 1) f fd ps (spOf K ps.length con) := by
  refine F.ok dk.sco (fun vs H Q E h => h.1) (fun cdv A outer s H vs Q E hr h => ?_)
  have X := cxOf (L2.CX P w) P w K mg base c.N qual c.sc f cdv A outer s H E
  let Wh : WX := fun cls d _ H' => E cls d H'
  have ok : XOk Γ lev c (cxOf (L2.CX P w) P w K mg base c.N qual c.sc f cdv A outer s H E) := ⟨rfl, dk.sco.nd, rfl, fun _ _ => rfl, rfl, hr, fx⟩
  have tk : Takes (cxOf (L2.CX P w) P w K mg base c.N qual c.sc f cdv A outer s H E) Wh := takes_of rfl rfl rfl rfl
  have xs : XS Γ c (cxOf (L2.CX P w) P w K mg base c.N qual c.sc f cdv A outer s H E) := ⟨dk.sco.kind, rfl, rfl, rfl, PassesOwn.leaving, rz⟩
  refine ⟨_, cZs_ok hlev body c _ zs dk.com _ Wh ok xs tk, ?_⟩
  obtain ⟨hl, ds, S, Pd, W, rd, so, pl, fl, hc⟩ := h
  refine ⟨startD c.N.length ds, S, errW W, retE Pd, start_sees rd so, fun k f' ρ S1 ⟨S2, le, w2⟩ d σ H' k1 se fd' => fl k f' S2 w2 d H' k1 (se.sto.le le) fd', ⟨fun ρ S1 ⟨S2, le, p2⟩ σ H' k1 se => pl .non S2 p2 _ H' k1 (se.sto.le le) rfl, fun d S1 ⟨S2, le, p2⟩ v H' k1 so1 r1 => pl d S2 p2 v H' k1 (so1.le le) r1, fun _ _ q => q.elim, fun _ _ q => q.elim⟩, hm ds S Pd W hc⟩
end Sd
namespace Sd
open PySem PySem.Spec PyProof.Rows L2
/-! ### the facts of the written part, as one Bool -/
def eqF (a b : Option (Option Value)) : Bool := decide (a = b)
def knB (K : PySem.W.Frag) (k : Nat) : Bool := eqF (PySem.W.nsIn K mainGlobals (clsN k)) (some (some (.ref (gaK K (clsN k)))))
def excB (K : PySem.W.Frag) (C : Addr) : Bool :=
  eqF (PySem.W.findIn K (.ref C) "__getattribute__") (some (some (.builtin "BaseException.__getattribute__"))) && (eqF (PySem.W.findIn K (.ref C) "__getattr__") (some none) && (decide (PySem.W.subIn K (.ref C) (.type "BaseException") = some true) && (PySem.W.hasDictIn K C &&
    (eqF (PySem.W.findIn K (.ref C) "__class__") (some (some (.builtin "object.__class__"))) && (eqF (PySem.W.specialIn K (.builtin "object.__class__") "__get__") (some (some (.builtin "getset_descriptor.__get__"))) && (decide (PySem.W.takesIn K (.builtin "object.__class__") = some true) && decide (PySem.W.mroIn K C (.type "object") = some true)))))))
theorem excB_ok {K : PySem.W.Frag} {C : Addr} (h : excB K C = true) : ExcC K C := by
  unfold excB eqF at h
  simp only [Bool.and_eq_true, decide_eq_true_eq] at h
  obtain ⟨h1, h2, h3, h4, h5, h6, h7, h8⟩ := h
  exact ⟨h1, h2, h3, h4, h5, h6, h7, h8⟩
def cfB (K : PySem.W.Frag) (k : Nat) : Bool :=
  excB K (gaK K (clsN k)) && (eqF (PySem.W.findIn K (.ref (gaK K (clsN k))) (fldN k)) (some none) && (btNames.all (fun n => decide (PySem.W.kitOne K (.ref (gaK K (clsN k))) (.type n) = some (n == "ValueError"))) && btKinds.all (fun b => decide (PySem.W.kitOne K (.type b) (.ref (gaK K (clsN k))) = some false))))
theorem cfB_ok {K : PySem.W.Frag} {k : Nat} (h : cfB K k = true) : CF K k := by
  unfold cfB eqF at h
  simp only [Bool.and_eq_true, decide_eq_true_eq, List.all_eq_true] at h
  exact ⟨excB_ok h.1, h.2.1, h.2.2.1, h.2.2.2⟩
def cf2B (K : PySem.W.Frag) (j k : Nat) : Bool := decide (PySem.W.exmOne K (.ref (gaK K (clsN j))) (.ref (gaK K (clsN k))) = some (subK j k)) && decide (PySem.W.kitOne K (.ref (gaK K (clsN j))) (.ref (gaK K (clsN k))) = some (subK j k))
/-- the classes that stand in the text are those of the list -/
def clsB (L : List Nat) (K : PySem.W.Frag) : Bool := (List.range 18).all (fun k => L.contains k || !knB K k) && (L.all (fun k => decide (k < 18) && (knB K k && cfB K k)) && L.all fun j => L.all fun k => cf2B K j k)
theorem clsB_ok {L : List Nat} {K : PySem.W.Frag} (h : clsB L K = true) : CFs K ∧ ∀ k, k ∈ L → Kn K k := by
  unfold clsB at h
  simp only [Bool.and_eq_true, List.all_eq_true, decide_eq_true_eq, Bool.or_eq_true, Bool.not_eq_true', List.mem_range] at h
  obtain ⟨h1, h2, h3⟩ := h
  have inL : ∀ k, Kn K k → k ∈ L := fun k kn => by
    rcases h1 k kn.1 with z | z
    · simpa using z
    · have e : knB K k = true := by
        unfold knB eqF
        exact decide_eq_true kn.2
      rw [e] at z
      cases z
  refine ⟨⟨fun k kn => cfB_ok (h2 k (inL k kn)).2.2, fun j k kj kk => ?_⟩, fun k hk => ⟨(h2 k hk).1, ?_⟩⟩
  · have z := h3 j (inL j kj) k (inL k kk)
    unfold cf2B at z
    simp only [Bool.and_eq_true, decide_eq_true_eq] at z
    exact ⟨z.1, z.2⟩
  · have z := (h2 k hk).2.1
    unfold knB eqF at z
    exact of_decide_eq_true z
def rzB (L : List Nat) (K : PySem.W.Frag) : Bool := L.all fun k => !plainC k || (PySem.W.excIn K (gaK K (clsN k)) [.type "ValueError", .type "Exception", .type "BaseException", .type "object"] "ValueError.__new__" && (PySem.W.keepIn K (.ref (gaK K (clsN k))) &&
    (decide (PySem.W.subIn K (.ref (gaK K (clsN k))) (.type "BaseException") = some true) && decide (PySem.W.typeIn K (.ref (gaK K (clsN k))) = some (.type "type")))))
/-- no list is written, the built-ins are free -/
def plainB (free : List Str) (K : PySem.W.Frag) : Bool := (K.all fun p => !decide (p.2.cls = .type "list")) && free.all fun x => eqF (PySem.W.nsIn K mainGlobals x) (some none)
def gloB (xs : List Str) (K : PySem.W.Frag) : Bool := xs.all fun x => eqF (PySem.W.nsIn K mainGlobals x) (some (some (.ref (gaK K x))))
/-- the whole look -/
def lookB (L : List Nat) (xs : List Str) (more : PySem.W.Frag → Bool) (K : PySem.W.Frag) : Bool := clsB L K && (rzB L K && (plainB bltAll K && (gloB xs K && more K)))
def obsX (ex : PySem.W.Frag → Bool) (fn : List He.DefD) (K : PySem.W.Frag) : He.AlD := (ex K && fn.all fun d => d.ok K, fn.map fun d => He.fnW K d.at_)
def valX (fn : List He.DefD) : He.AlD := (true, fn.map He.DefD.val)
def obsXG (n : Nat) (ex : PySem.W.Frag → Bool) (fn : List He.DefD) (g : Addr → Option Obj) : He.AlD := obsX ex fn (He.frG g (He.asD g n))
def hookX (n : Nat) (ex : PySem.W.Frag → Bool) (fn : List He.DefD) : PySem.W.Hook where
  α := He.AlD
  obs := fun s => obsXG n ex fn s.heap.get?
  val := fun _ => valX fn
  says := fun _ h => ∃ K : PySem.W.Frag, K.In h ∧ obsX ex fn K = valX fn
  of := fun _ _ e => ⟨_, He.frG_in, e⟩
  keeps := fun _ _ _ ⟨K, hK, c⟩ k => ⟨K, hK.keeps k, c⟩
theorem obsXG_eq {n : Nat} {ex : PySem.W.Frag → Bool} {fn : List He.DefD} {g : Addr → Option Obj} {s : Shared} (h : ∀ a, g a = s.heap.get? a) : obsXG n ex fn g = (hookX n ex fn).obs s := by
  have e : g = s.heap.get? := funext h
  rw [e]
  rfl
section
variable {ex : PySem.W.Frag → Bool} {fn : List He.DefD} {K : PySem.W.Frag}
theorem says_ex (c : obsX ex fn K = valX fn) : ex K = true := by
  have z := congrArg Prod.fst c
  have z' : (ex K && fn.all fun d => d.ok K) = true := z
  exact (Bool.and_eq_true_iff.mp z').1
theorem says_def (c : obsX ex fn K = valX fn) (i : Nat) {d : He.DefD} (h : fn[i]? = some d) : ∃ fd, FunD K d.name d.qual d.params d.body d.scope (d.dvs K) (d.kws K) (He.fAd K d.at_) fd := by
  have z' : (ex K && fn.all fun d => d.ok K) = true := congrArg Prod.fst c
  have z2 := (Bool.and_eq_true_iff.mp z').2
  have e : fn.map (fun d => He.fnW K d.at_) = fn.map He.DefD.val := congrArg Prod.snd c
  have e2 : (fn.map fun d => He.fnW K d.at_)[i]? = (fn.map He.DefD.val)[i]? := by rw [e]
  rw [List.getElem?_map, List.getElem?_map, h] at e2
  exact He.DefD.funD (Option.some.inj e2) (List.all_eq_true.mp z2 d (List.mem_of_getElem? h))
end
/-! ### the end of a law -/
theorem sq_rd {K : PySem.W.Frag} {H : Hp} {a : Addr} {xs : List V} (hn : (K.all fun p => !decide (p.2.cls = .type "list")) = true) (h : SqL K H a xs) : Rd H a (.lst xs) := by
  rcases h with h | ⟨o, its, n, e, hc, _⟩
  · exact h
  · have m : (a, o) ∈ K := by
      clear hn
      induction K with
      | nil => cases e
      | cons p r ih =>
        obtain ⟨b, u⟩ := p
        have e' : (match a == b with | true => some u | false => List.lookup a r) = some o := e
        cases q : (a == b) with
        | true =>
          rw [q] at e'
          cases e'
          rw [beq_iff_eq.mp q]
          exact List.mem_cons_self
        | false =>
          rw [q] at e'
          exact List.mem_cons_of_mem _ (ih e')
    have z := List.all_eq_true.mp hn _ m
    simp [hc] at z
/-- what the law's contract is to be: at every script it gives True -/
def LawCon (con : Con) : Prop := ∀ (a : Addr) (w : Bool) (ns : List Int) (S : Sto), ns.length ≤ 63 → (∀ z ∈ ns, Builtin.Int.intBits z ≤ 1048576) → S a = some (.lst w (ns.map D.int)) → con [.ref a] S (fun d _ => d = .bl true) (fun _ _ _ => False)
theorem law_sp {K : PySem.W.Frag} {H : Hp} {a : Addr} {ns : List Int} {con : Con} (hn : (K.all fun p => !decide (p.2.cls = .type "list")) = true) (hl : ns.length ≤ 63) (hb : ∀ z ∈ ns, Builtin.Int.intBits z ≤ 1048576) (h : SqL K H a (ns.map V.int)) (hc : LawCon con) :
    spOf K 1 con [.ref a] H (fun v _ => v = .bl true) (fun _ _ _ => False) := by
  have hr := sq_rd hn h
  have key : ∀ w, OkO K H a (.lst w (ns.map D.int)) → spOf K 1 con [.ref a] H (fun v _ => v = .bl true) (fun _ _ _ => False) := fun w ok => by
    refine ⟨rfl, [.ref a], fun b => if b = a then some (.lst w (ns.map D.int)) else none, _, _, Rps.one rfl, fun b o e => ?_, fun d S p v H' _ _ r => ?_, fun _ _ _ q => q.elim, hc a w ns _ hl hb (if_pos rfl)⟩
    · dsimp only at e
      split at e
      · rename_i hb
        cases e
        rw [hb]
        exact ok
      · cases e
    · have p' : d = .bl true := p
      subst p'
      exact r
  rcases hr with hr | ⟨o, hr⟩
  · exact key true ⟨_, hr, rps_ints ns⟩
  · exact key false ⟨o, _, hr, rps_ints ns⟩
theorem walk_X {l : PySem.W.OpenLaw} {k : Nat} {q : Program} {loose : List Str} {XP : (Str → Option Value) → Heap → Prop} {YP : World → Heap → Prop} {d : DefRec} {x : Str}
    (hn : l.most = some 63) (hdf : d.params.defaults = []) (hr : Room k callerA)
    (F : ∀ (w : World) (mg : Str → Option Value) (fa : Addr) (h : Heap), YP w h → h.Ns mainGlobals mg → mg d.name = some (.ref fa) →
      ∃ (K : PySem.W.Frag) (fd : FuncData) (con : Con), K.In h ∧ (K.all fun p => !decide (p.2.cls = .type "list")) = true ∧ LawCon con ∧ (∀ (s : Shared) (u : Value), BindsTo s fd ⟨[u], []⟩ [(x, u)]) ∧
        ∀ base : Heap, K.In base → base.Ns mainGlobals mg → FnOk l.prog w K mg base (L2.CX l.prog w) k fa fd [x] (spOf K 1 con)) :
    PySem.W.WalkO q loose XP YP l.row.toRowW d [] (fun f vs => PySem.call f vs) := by
  refine Att.attach_callB hn hdf fun w s₀ s₁ mg mb fa o pm cd doc a vs ns G Y ho hd hcd hmg hobj hints hlen hbits hg => ?_
  obtain ⟨K, fd, con, KX, hno, hcon, hb, hF⟩ := F w mg fa _ Y G.T.g hmg
  refine law_call KX G.T.g G.T.b G.T.builtins G.T.nolimit hg hobj hints (Nat.le_trans hlen (by decide)) hr hF hb (fun H hO hS => law_sp hno hlen hbits hS hcon) fun H e s' hx => ?_
  obtain ⟨_, _, _, _, _, _, _, _, _, _, _, _, z⟩ := hx
  exact z
end Sd
namespace Sd
open PySem PySem.Spec PyProof.Rows L2
/-- a def by its name and number, at the level lev -/
def FnAt (Γ : Gam) (lev : Nat) (P : Program) (w : World) (K : PySem.W.Frag) (mg : Str → Option Value) (base : Heap) (p : Str × Nat) : Prop :=
  ∃ f fd ps, mg p.1 = some (.ref f) ∧ PySem.W.keepIn K (.ref f) = true ∧ Binds K fd ps [] ∧ FnOk P w K mg base (L2.CX P w) lev f fd ps (spOf K (Γ.ar p.2) (Γ.fn p.2))
section
variable {Γ : Gam} {lev : Nat} {P : Program} {w : World} {K : PySem.W.Frag} {mg : Str → Option Value} {base : Heap}
theorem FnAt.up {p : Str × Nat} {lev' : Nat} (h : FnAt Γ lev P w K mg base p) (hl : lev ≤ lev') : FnAt Γ lev' P w K mg base p := by
  obtain ⟨f, fd, ps, h1, h2, h3, h4⟩ := h
  exact ⟨f, fd, ps, h1, h2, h3, h4.mono hl⟩
theorem look_mem {α : Type} : ∀ {l : List (Str × α)} {x : Str} {k : α}, l.lookup x = some k → (x, k) ∈ l
  | [], _, _, h => by cases h
  | (y, j) :: r, x, k, h => by
    have h' : (match x == y with | true => some j | false => r.lookup x) = some k := h
    cases q : (x == y) with
    | true =>
      rw [q] at h'
      cases h'
      rw [beq_iff_eq.mp q]
      exact List.mem_cons_self
    | false =>
      rw [q] at h'
      exact List.mem_cons_of_mem _ (look_mem h')
/-- what the whole look tells -/
structure World' (L : List Nat) (xs : List Str) (more : PySem.W.Frag → Bool) (K : PySem.W.Frag) (mg : Str → Option Value) : Prop where
  cfs : CFs K
  kn : ∀ k, k ∈ L → Kn K k
  rz : ∀ k, k ∈ L → plainC k = true → PySem.W.excIn K (gaK K (clsN k)) [.type "ValueError", .type "Exception", .type "BaseException", .type "object"] "ValueError.__new__" = true ∧ PySem.W.keepIn K (.ref (gaK K (clsN k))) = true ∧
      PySem.W.subIn K (.ref (gaK K (clsN k))) (.type "BaseException") = some true ∧ PySem.W.typeIn K (.ref (gaK K (clsN k))) = some (.type "type")
  nol : (K.all fun p => !decide (p.2.cls = .type "list")) = true
  blt : ∀ x, x ∈ bltAll → mg x = none
  glo : ∀ x, x ∈ xs → mg x = some (.ref (gaK K x))
  more : more K = true
theorem look_ok {L : List Nat} {xs : List Str} {more : PySem.W.Frag → Bool} {h : Heap} (X : K.In h) (G : h.Ns mainGlobals mg) (c : lookB L xs more K = true) : World' L xs more K mg := by
  unfold lookB at c
  simp only [Bool.and_eq_true] at c
  obtain ⟨c1, c2, c3, c4, c5⟩ := c
  obtain ⟨a1, a2⟩ := clsB_ok c1
  unfold plainB eqF at c3
  unfold gloB eqF at c4
  simp only [Bool.and_eq_true, List.all_eq_true, decide_eq_true_eq] at c3 c4
  refine ⟨a1, a2, fun k hk hp => ?_, ?_, fun x hx => PySem.W.mg_none_of X G (c3.2 x hx), fun x hx => PySem.W.mg_of X G (c4 x hx), c5⟩
  · unfold rzB at c2
    have z := List.all_eq_true.mp c2 k hk
    rw [hp] at z
    simp only [Bool.not_true, Bool.false_or, Bool.and_eq_true, decide_eq_true_eq] at z
    exact z
  · exact List.all_eq_true.mpr c3.1
/-- the constants that a def reads -/
def CstAt (Γ : Gam) (K : PySem.W.Frag) (mg : Str → Option Value) (p : Str × Nat) : Prop := ∀ d, Γ.cst p.2 = some d → ∃ v u, mg p.1 = some u ∧ RelV v u ∧ ∀ H, Rp K H d v
theorem mk_fx {L : List Nat} {xs : List Str} {more : PySem.W.Frag → Bool} {c : SC} (W : World' L xs more K mg) (hf : ∀ p, p ∈ c.fns → FnAt Γ lev P w K mg base p) (hc : ∀ p, p ∈ c.css → CstAt Γ K mg p) (hk : (c.cls.all fun p => decide (clsN p.2 = p.1) && (L.contains p.2 && xs.contains p.1)) = true) :
    Fx Γ lev c P w K mg base where
  fn := fun x k e => hf (x, k) (look_mem e)
  cst := fun x k d e e2 => hc (x, k) (look_mem e) d e2
  blt := W.blt
  cls := fun x k e => by
    have z := List.all_eq_true.mp hk _ (look_mem e)
    simp only [Bool.and_eq_true, decide_eq_true_eq] at z
    obtain ⟨z1, z2, z3⟩ := z
    have e1 : clsN k = x := z1
    exact ⟨e1, W.kn k (by simpa using z2), W.glo x (by simpa using z3)⟩
  cfs := W.cfs
theorem mk_fn {L : List Nat} {xs : List Str} {more : PySem.W.Frag → Bool} {ex : PySem.W.Frag → Bool} {fn : List He.DefD} {c : SC} {ps : List Str} {zs : List Z} {x : Str} {k : Nat} {params : Arguments} {body : List Stmt} {con : Con} (hlev : 2 ≤ lev) (W : World' L xs more K mg) (says : obsX ex fn K = valX fn) (i : Nat)
    (hd : fn[i]? = some ⟨(x, none), x, x, params, body, c.sc, [], []⟩) (dk : DefOk c ps zs body) (hf : ∀ p, p ∈ c.fns → FnAt Γ lev P w K mg base p) (hc : ∀ p, p ∈ c.css → CstAt Γ K mg p) (hk : (c.cls.all fun p => decide (clsN p.2 = p.1) && (L.contains p.2 && xs.contains p.1)) = true)
    (hx : xs.contains x = true) (hb : ∀ (kV doc pm : Value) (an : Option Addr) (cdv ct : Value) (us : List Value), us.length = ps.length → bindArgs (PySem.W.fnOf x x params body c.sc .none kV doc pm an cdv ct) ⟨us, []⟩ = pure (ps.zip us))
    (ha : Γ.ar k = ps.length) (hcon : Γ.fn k = con) (hm : Meets Γ c.N.length zs con) : FnAt Γ (lev + 1) P w K mg base (x, k) := by
  obtain ⟨fd, F⟩ := says_def says i hd
  have F' : FunD K x x params body c.sc [] [] (He.fAd K (x, none)) fd := F
  have fx := mk_fx (Γ := Γ) (lev := lev) (P := P) (w := w) (base := base) W hf hc hk
  have ok := fn_ok hlev F' dk fx (fun y j e hp => by
    have z := List.all_eq_true.mp hk _ (look_mem e)
    simp only [Bool.and_eq_true, decide_eq_true_eq] at z
    exact W.rz j (by simpa using z.2.1) hp) hm
  refine ⟨_, fd, ps, W.glo x (by simpa using hx), F'.kp, F'.bindsN hb, ?_⟩
  show FnOk P w K mg base (L2.CX P w) (lev + 1) (gaK K x) fd ps (spOf K (Γ.ar k) (Γ.fn k))
  rw [ha, hcon]
  exact ok
/-- the law itself -/
theorem mk_law {L : List Nat} {xs : List Str} {more : PySem.W.Frag → Bool} {ex : PySem.W.Frag → Bool} {fn : List He.DefD} {c : SC} {zs : List Z} {x px : Str} {params : Arguments} {body : List Stmt} {con : Con} (hlev : 2 ≤ lev) (W : World' L xs more K mg) (says : obsX ex fn K = valX fn) (i : Nat)
    (hd : fn[i]? = some ⟨(x, none), x, x, params, body, c.sc, [], []⟩) (dk : DefOk c [px] zs body) (hf : ∀ base, K.In base → base.Ns mainGlobals mg → ∀ p, p ∈ c.fns → FnAt Γ lev P w K mg base p) (hc : ∀ p, p ∈ c.css → CstAt Γ K mg p) (hk : (c.cls.all fun p => decide (clsN p.2 = p.1) && (L.contains p.2 && xs.contains p.1)) = true)
    (hx : xs.contains x = true) (hb : ∀ (kV doc pm : Value) (an : Option Addr) (cdv ct : Value) (us : List Value), us.length = [px].length → bindArgs (PySem.W.fnOf x x params body c.sc .none kV doc pm an cdv ct) ⟨us, []⟩ = pure ([px].zip us))
    (hm : Meets Γ c.N.length zs con) {fa : Addr} (hfa : mg x = some (.ref fa)) : ∃ fd : FuncData, (∀ (s : Shared) (u : Value), BindsTo s fd ⟨[u], []⟩ [(px, u)]) ∧ ∀ base : Heap, K.In base → base.Ns mainGlobals mg → FnOk P w K mg base (L2.CX P w) (lev + 1) fa fd [px] (spOf K 1 con) := by
  obtain ⟨fd, F⟩ := says_def says i hd
  have F' : FunD K x x params body c.sc [] [] (He.fAd K (x, none)) fd := F
  have e := hfa.symm.trans (W.glo x (by simpa using hx))
  cases e
  refine ⟨fd, fun s u => F'.bindsA hb s [u] rfl, fun base b1 b2 => ?_⟩
  have fx := mk_fx (Γ := Γ) (lev := lev) (P := P) (w := w) (base := base) W (hf base b1 b2) hc hk
  exact fn_ok hlev F' dk fx (fun y j e hp => by
    have z := List.all_eq_true.mp hk _ (look_mem e)
    simp only [Bool.and_eq_true, decide_eq_true_eq] at z
    exact W.rz j (by simpa using z.2.1) hp) hm
end
end Sd
namespace Sd
open PySem
/-! ### equations for reckoning with the core -/
section
variable {S : Sto} {P : PD} {i j : Int} {x y d : D} {a b p : Addr} {w : Bool} {l m : List D} {s t : Str}
theorem q_add : opS .Add (.int i) (.int j) S P = P (.int (i + j)) S := rfl
theorem q_sub : opS .Sub (.int i) (.int j) S P = P (.int (i - j)) S := rfl
theorem q_mul : opS .Mult (.int i) (.int j) S P = (IntMulOk i j ∧ P (.int (i * j)) S) := rfl
theorem q_div : opS .FloorDiv (.int i) (.int j) S P = (DivOk j ∧ P (.int (i.fdiv j)) S) := rfl
theorem q_mod : opS .Mod (.int i) (.int j) S P = (j ≠ 0 ∧ P (.int (i.fmod j)) S) := rfl
theorem q_pow : opS .Pow (.int i) (.int j) S P = (L2.CPow i j ∧ P (.int (i ^ j.toNat)) S) := rfl
theorem q_cat : opS .Add (.ref a) (.ref b) S P = (match S a, S b with
    | some (.lst _ l), some (.lst _ m) => l.length + m.length ≤ sizeLine ∧ ∀ p, S p = none → P (.ref p) (S.up p (.lst true (l ++ m)))
    | _, _ => False) := rfl
theorem q_catT : opS .Add (.tup l) (.tup m) S P = (l.length + m.length ≤ sizeLine ∧ P (.tup (l ++ m)) S) := rfl
theorem q_lt : cmpS .Lt (.int i) (.int j) S P = P (.bl (decide (i < j))) S := rfl
theorem q_le : cmpS .LtE (.int i) (.int j) S P = P (.bl (decide (i ≤ j))) S := rfl
theorem q_gt : cmpS .Gt (.int i) (.int j) S P = P (.bl (decide (j < i))) S := rfl
theorem q_ge : cmpS .GtE (.int i) (.int j) S P = P (.bl (decide (j ≤ i))) S := rfl
theorem q_eq : cmpS .Eq (.int i) (.int j) S P = P (.bl (decide (i = j))) S := rfl
theorem q_ne : cmpS .NotEq (.int i) (.int j) S P = P (.bl (!decide (i = j))) S := rfl
theorem q_is : cmpS .Is x .non S P = P (.bl (isNo x)) S := by cases x <;> rfl
theorem q_isnt : cmpS .IsNot x .non S P = P (.bl (!isNo x)) S := by cases x <;> rfl
theorem q_eqT : cmpS .Eq (.tup l) y S P = (match pdS S (.tup l), pdS S y with
    | some p, some q => P (.bl (PyData.eqv p q)) S
    | _, _ => False) := by cases y <;> rfl
theorem q_neT : cmpS .NotEq (.tup l) y S P = (match pdS S (.tup l), pdS S y with
    | some p, some q => P (.bl (!PyData.eqv p q)) S
    | _, _ => False) := by cases y <;> rfl
theorem q_eqL : cmpS .Eq (.ref a) y S P = (match pdS S (.ref a), pdS S y with
    | some p, some q => P (.bl (PyData.eqv p q)) S
    | _, _ => lenS false (.ref a) y S P) := by cases y <;> rfl
theorem q_neL : cmpS .NotEq (.ref a) y S P = (match pdS S (.ref a), pdS S y with
    | some p, some q => P (.bl (!PyData.eqv p q)) S
    | _, _ => lenS true (.ref a) y S P) := by cases y <;> rfl
theorem q_eqS : cmpS .Eq (.str s) y S P = (match pdS S (.str s), pdS S y with
    | some p, some q => P (.bl (PyData.eqv p q)) S
    | _, _ => False) := by cases y <;> rfl
/-- a list against none -/
theorem q_neN {m : List D} {v : Bool} (e1 : S a = some (.lst w l)) (e2 : S b = some (.lst v [])) : cmpS .NotEq (.ref a) (.ref b) S P ↔ P (.bl (!l.isEmpty)) S ∨ cmpS .NotEq (.ref a) (.ref b) S P := ⟨.inr, fun h => h.elim (fun z => by
    rw [q_neL]
    have e3 : pdS S (.ref b) = some (PyData.list []) := by
      show (match S b with
        | some (.lst _ l) => (match pdWs (gL S 2) 12 l with
          | some ps => some (PyData.list ps)
          | none => none)
        | _ => none) = _
      rw [e2]
      rfl
    rw [e3]
    cases l with
    | nil =>
      have e4 : pdS S (.ref a) = some (PyData.list []) := by
        show (match S a with
          | some (.lst _ l) => (match pdWs (gL S 2) 12 l with
            | some ps => some (PyData.list ps)
            | none => none)
          | _ => none) = _
        rw [e1]
        rfl
      rw [e4]
      simp only [PyData.eqv, PyData.eqvAll]
      exact z
    | cons d l =>
      cases hp : pdS S (.ref a) with
      | none =>
        show lenS true (.ref a) (.ref b) S P
        unfold lenS
        simp only [e1, e2]
        exact ⟨by simp, z⟩
      | some p =>
        have hq : ∃ q qs, p = PyData.list (q :: qs) := by
          have hp' : (match S a with
            | some (.lst _ l) => (match pdWs (gL S 2) 12 l with
              | some ps => some (PyData.list ps)
              | none => none)
            | _ => none) = some p := hp
          rw [e1] at hp'
          dsimp only at hp'
          split at hp'
          · rename_i ps eps
            cases hp'
            unfold pdWs at eps
            split at eps
            · cases eps
              exact ⟨_, _, rfl⟩
            · cases eps
          · cases hp'
        obtain ⟨q, qs, rfl⟩ := hq
        simp only [PyData.eqv, PyData.eqvAll]
        exact z) id⟩
theorem q_in : cmpS .In x (.ref a) S P = (match pdS S x, pdS S (.ref a) with
    | some p, some (.list ps) => P (.bl (anyEq p ps)) S
    | _, _ => False) := by cases x <;> rfl
theorem q_notin : cmpS .NotIn x (.ref a) S P = (match pdS S x, pdS S (.ref a) with
    | some p, some (.list ps) => P (.bl (!anyEq p ps)) S
    | _, _ => False) := by cases x <;> rfl
theorem q_tb {k : Bool} : truB S (.bl k) = some k := rfl
theorem q_tn : truB S .non = some false := rfl
theorem q_ti : truB S (.int i) = some (i != 0) := rfl
theorem q_tt : truB S (.tup l) = some (!l.isEmpty) := rfl
theorem q_tl : truB S (.ref a) = (match S a with
    | some (.lst _ l) => some (!l.isEmpty)
    | _ => none) := rfl
theorem q_ixT : ixS (.tup l) (.int i) S P = (match L2.atI l i with
    | some d => P d S
    | none => False) := rfl
theorem q_ixL : ixS (.ref a) (.int i) S P = (match S a with
    | some (.lst _ l) => (match L2.atI l i with
      | some d => P d S
      | none => False)
    | _ => False) := rfl
theorem q_sl {lo hi : Option Int} : slS (.ref a) lo hi S P = (match S a with
    | some (.lst _ l) => ∀ p, S p = none → P (.ref p) (S.up p (.lst true (cutD l lo hi)))
    | _ => False) := rfl
theorem q_slT {lo hi : Option Int} : slS (.tup l) lo hi S P = P (.tup (cutD l lo hi)) S := rfl
theorem q_stL : stS (.ref a) none (-1) S P = (match S a with
    | some (.lst _ l) => ∀ p, S p = none → P (.ref p) (S.up p (.lst true l.reverse))
    | _ => False) := propext ⟨fun h => h.2.2, fun h => ⟨rfl, rfl, h⟩⟩
theorem q_stT {lo : Option Int} {k : Int} : stS (.tup l) lo k S P = (k ≠ 0 ∧ k ≠ 1 ∧ (pickT l lo k).length ≤ sizeLine ∧ P (.tup (pickT l lo k)) S) := rfl
theorem q_abs : biS .abs [.int i] S P = P (.int (i.natAbs : Int)) S := by
  have e : (if i < 0 then -i else i) = (i.natAbs : Int) := by split <;> omega
  show P (.int (if i < 0 then -i else i)) S = _
  rw [e]
theorem q_intI : biS .int [.int i] S P = P (.int i) S := rfl
theorem q_intB {k : Bool} : biS .int [.bl k] S P = P (.int (if k then 1 else 0)) S := rfl
theorem q_lenT : biS .len [.tup l] S P = P (.int l.length) S := rfl
theorem q_lenL : biS .len [.ref a] S P = (match seqD S (.ref a) with
    | some l => P (.int l.length) S
    | none => False) := by
  show (match seqD S (.ref a) with
    | some l => P (.int l.length) S
    | none => (match D.ref a with
      | .str z => z.length ≤ sizeLine ∧ P (.int z.length) S
      | _ => False)) = _
  cases seqD S (.ref a) <;> rfl
theorem q_min2 : biS .min2 [.int i, .int j] S P = P (.int (if j < i then j else i)) S := rfl
theorem q_max2 : biS .max2 [.int i, .int j] S P = P (.int (if j > i then j else i)) S := rfl
theorem q_append : meS .append (.ref a) [y] S P = (match S a with
    | some (.lst true l) => l.length < sizeLine ∧ P .non (S.up a (.lst true (l ++ [y])))
    | _ => False) := by
  show (match S a with
    | some (.lst true l) => (match ME.append, [y] with
      | .append, [y] => l.length < sizeLine ∧ P .non (S.up a (.lst true (l ++ [y])))
      | .pop0, [] => (match l[l.length - 1]? with
        | some y => P y (S.up a (.lst true l.dropLast))
        | none => False)
      | .reverse, [] => P .non (S.up a (.lst true l.reverse))
      | .clear, [] => P .non (S.up a (.lst true []))
      | .insert, [.int i, y] => l.length < sizeLine ∧ 0 ≤ i ∧ i < 2 ^ 63 ∧ P .non (S.up a (.lst true (l.take i.toNat ++ [y] ++ l.drop i.toNat)))
      | .extend, [.ref b] => (match S b with
        | some (.lst true m) => l.length + m.length ≤ sizeLine ∧ P .non (S.up a (.lst true (l ++ m)))
        | _ => False)
      | _, _ => False)
    | _ => False) = _
  rfl
theorem q_insert {e : S a = some (.lst true l)} : meS .insert (.ref a) [.int i, y] S P = (l.length < sizeLine ∧ 0 ≤ i ∧ i < 2 ^ 63 ∧ P .non (S.up a (.lst true (l.take i.toNat ++ [y] ++ l.drop i.toNat)))) := by
  simp only [meS, e]
theorem q_extend {e : S a = some (.lst true l)} {e2 : S b = some (.lst true m)} : meS .extend (.ref a) [.ref b] S P = (l.length + m.length ≤ sizeLine ∧ P .non (S.up a (.lst true (l ++ m)))) := by
  simp only [meS, e, e2]
theorem q_isL : isL S (.ref a) = (match S a with
    | some (.lst true _) => True
    | _ => False) := rfl
theorem q_seqT : seqD S (.tup l) = some l := rfl
theorem q_seqL : seqD S (.ref a) = (match S a with
    | some (.lst _ l) => some l
    | _ => none) := rfl
theorem q_lst : lstD S (.ref a) = (match S a with
    | some (.lst _ l) => some l
    | _ => none) := rfl
/-! ### places of written lists -/
theorem at0 : L2.atI (x :: l) 0 = some x := by
  unfold L2.atI L2.ixN
  simp
theorem at1 {x0 : D} : L2.atI (x0 :: x :: l) 1 = some x := by
  unfold L2.atI L2.ixN
  rw [if_pos (by omega), if_pos (by simp; omega)]
  rfl
theorem at2 {x0 x1 : D} : L2.atI (x0 :: x1 :: x :: l) 2 = some x := by
  unfold L2.atI L2.ixN
  rw [if_pos (by omega), if_pos (by simp; omega)]
  rfl
theorem at_nat {n : Nat} (h : n < l.length) : L2.atI l (n : Int) = some l[n] := L2.atI_nat (List.getElem?_eq_getElem h)
theorem ixn0 {n : Nat} : L2.ixN (n + 1) 0 = some 0 := by
  unfold L2.ixN
  rw [if_pos (by omega), if_pos (by omega)]
  rfl
theorem ixn1 {n : Nat} : L2.ixN (n + 1 + 1) 1 = some 1 := by
  unfold L2.ixN
  rw [if_pos (by omega), if_pos (by omega)]
  rfl
theorem upup {o u : O} : (S.up a o).up a u = S.up a u := by
  funext b
  unfold Sto.up
  split <;> rfl
/-! ### == of pairs -/
theorem pd_int {n : Nat} {g : Addr → Option PyData} : pdW g n (.int i) = some (.int i) := by cases n <;> rfl
theorem pd_bl {n : Nat} {g : Addr → Option PyData} {k : Bool} : pdW g n (.bl k) = some (.bool k) := by cases n <;> rfl
theorem pd_non {n : Nat} {g : Addr → Option PyData} : pdW g n .non = some .none := by cases n <;> rfl
theorem pd_tup {n : Nat} {g : Addr → Option PyData} : pdW g (n + 1) (.tup l) = (match pdWs g n l with
    | some ps => some (.tuple ps)
    | none => none) := rfl
theorem pd_nil {n : Nat} {g : Addr → Option PyData} : pdWs g n [] = some [] := by cases n <;> rfl
theorem pd_cons {n : Nat} {g : Addr → Option PyData} : pdWs g n (x :: l) = (match pdW g n x, pdWs g n l with
    | some p, some ps => some (p :: ps)
    | _, _ => none) := rfl
theorem pds_tup : pdS S (.tup l) = (match pdWs (gL S 3) 11 l with
    | some ps => some (.tuple ps)
    | none => none) := by
  unfold pdS
  exact pd_tup
theorem pds_int : pdS S (.int i) = some (.int i) := pd_int
theorem pds_ref : pdS S (.ref a) = (match S a with
    | some (.lst _ l) => (match pdWs (gL S 2) 12 l with
      | some ps => some (.list ps)
      | none => none)
    | _ => none) := rfl
theorem ev_int : PyData.eqv (.int i) (.int j) = decide (i = j) := by
  simp only [PyData.eqv]
  by_cases z : i = j <;> simp [z]
theorem ev_tup {xs ys : List PyData} : PyData.eqv (.tuple xs) (.tuple ys) = PyData.eqvAll xs ys := by simp only [PyData.eqv]
theorem ev_cons {x y : PyData} {xs ys : List PyData} : PyData.eqvAll (x :: xs) (y :: ys) = (PyData.eqv x y && PyData.eqvAll xs ys) := by simp only [PyData.eqvAll]
theorem ev_nil : PyData.eqvAll [] [] = true := by simp only [PyData.eqvAll]
theorem ret_now (h : P d S) : (retE P).rt d S := ⟨S, Sto.le.refl S, h⟩
theorem ret_le {S' : Sto} (l : Sto.le S' S) (h : P d S') : (retE P).rt d S := ⟨S', l, h⟩
theorem err_now {W : FW} {k : Nat} {f : Option D} {ρ : DSt} (h : W k f S) : errW W k f ρ S := ⟨S, Sto.le.refl S, h⟩
/-- an if over a truth -/
theorem if_b {c : Prop} [Decidable c] {A B : Prop} (h1 : c → A) (h2 : ¬ c → B) : if decide c = true then A else B := by
  by_cases h : c
  · rw [if_pos (decide_eq_true h)]; exact h1 h
  · rw [if_neg (by simpa using h)]; exact h2 h
theorem if_nb {c : Prop} [Decidable c] {A B : Prop} (h1 : ¬ c → A) (h2 : c → B) : if (!decide c) = true then A else B := by
  by_cases h : c
  · rw [if_neg (by simpa using h)]; exact h2 h
  · rw [if_pos (by simpa using h)]; exact h1 h
theorem up_ls {p : Addr} {o : O} (h : S p = none) : Sto.le S (S.up p o) := (Sto.le.refl S).up h
end
end Sd
namespace Sd
open PySem
theorem up_oth {S : Sto} {a b : Addr} {o : O} (h : a ≠ b) : (S.up a o) b = S b := by
  unfold Sto.up
  rw [if_neg (fun e => h e.symm)]
theorem le_none {S S' : Sto} {p : Addr} (h : Sto.le S S') (n : S' p = none) : S p = none := by
  cases e : S p with
  | none => rfl
  | some o => rw [h p o e] at n; cases n
/-- a walk by an invariant that the walked list's place keeps -/
theorem for_inv {t : ATg} {b : AS} {src : Src} {N : DE} {W : AW} (R : DSt → Sto → Prop) (ok : ∀ ρ S, R ρ S → src.ok S) (fin : ∀ ρ S, R ρ S → N.nx ρ S)
    {ds : List D} (step : ∀ (F : DSt → Sto → Prop) d ρ S, d ∈ ds → R ρ S → (∀ ρ' S', R ρ' S' → F ρ' S') → t d ρ S (fun ρ1 S1 => b { nx := F, rt := N.rt, bk := N.nx, ct := F } ρ1 S1 W) W) :
    ∀ {ρ : DSt} {S : Sto}, R ρ S → forS t b src N W ds ρ S := by
  induction ds with
  | nil => exact fun {ρ S} h => ⟨ok ρ S h, fin ρ S h⟩
  | cons d ds ih =>
    intro ρ S h
    exact ⟨ok ρ S h, step _ d ρ S (by simp) h fun ρ' S' h' => ih (fun F d ρ S hd => step F d ρ S (by simp [hd])) h'⟩
/-- the laws' walk: for cell in [0] + script[:m] -/
theorem law_for {Γ : Gam} {m : Nat} {b : List Z} {N : DE} {W : AW} {ρ : DSt} {S : Sto} {a : Addr} {w : Bool} {ns : List Int} {i : Nat} (R : DSt → Prop) (hR : R ρ) (hl : ns.length ≤ 63) (h0 : lk ρ 0 = some (.ref a)) (e : S a = some (.lst w (ns.map D.int)))
    (fin : ∀ ρ S1, R ρ → Sto.le S S1 → N.nx ρ S1)
    (step : ∀ (Sb : Sto) (F : DSt → Sto → Prop) (c : Int) ρ S1, Sto.le S Sb → Sto.le Sb S1 → R ρ → (∀ ρ' S', R ρ' → Sto.le Sb S' → F ρ' S') → wZs Γ b { nx := F, rt := N.rt, bk := N.nx, ct := F } (ρ.set i (some (.int c))) S1 W) :
    wZ Γ (.for_ (.nm i) (.e (.op .Add (.ls [(.c (.int 0))]) (.sl (.var 0) (.c .non) (.aI (.c (.int m)))))) b) N ρ S W := by
  dsimp only [wZ, wI, wE, wEs, lk, partS]
  simp only [List.length_cons, List.length_nil, sizeLine_eq, Nat.reduceAdd, Nat.reduceLeDiff, true_and, h0]
  intro p1 n1
  have d1 : p1 ≠ a := fun x => by rw [x, e] at n1; cases n1
  simp only [q_sl, up_oth d1, e]
  intro p2 n2
  have d2 : p2 ≠ p1 := fun x => by rw [x, up_same] at n2; cases n2
  simp only [q_cat, up_same, up_oth d2]
  have hc : ∀ d, d ∈ [D.int 0] ++ cutD (ns.map D.int) none (some (m : Int)) → ∃ c, d = D.int c := by
    intro d hd
    rcases List.mem_append.mp hd with h | h
    · exact ⟨0, by simpa using h⟩
    · unfold cutD at h
      have := List.mem_of_mem_drop (List.mem_of_mem_take h)
      obtain ⟨c, _, hc⟩ := List.mem_map.mp this
      exact ⟨c, hc.symm⟩
  have hlen : ([D.int 0] : List D).length + (cutD (ns.map D.int) none (some (m : Int))).length ≤ sizeLine := by
    rw [sizeLine_eq]
    unfold cutD
    rw [List.length_take, List.length_drop, List.length_map]
    simp only [List.length_cons, List.length_nil]
    omega
  refine ⟨hlen, fun p3 n3 => ?_⟩
  generalize hit : [D.int 0] ++ cutD (ns.map D.int) none (some (m : Int)) = its at hc
  have l1 : Sto.le S (S.up p1 (.lst true [.int 0])) := up_ls n1
  have l2 := l1.trans (up_ls (o := .lst true (cutD (ns.map D.int) none (some (m : Int)))) n2)
  have l3 := l2.trans (up_ls (o := .lst true its) n3)
  generalize hSb : (((S.up p1 (.lst true [.int 0])).up p2 (.lst true (cutD (ns.map D.int) none (some (m : Int))))).up p3 (.lst true its)) = Sb at l3
  have hp : Sb p3 = some (.lst true its) := by rw [← hSb, up_same]
  refine for_inv (src := .lst p3 true its) (fun ρ S1 => R ρ ∧ Sto.le Sb S1) (fun ρ S1 h => h.2 _ _ hp) (fun ρ S1 h => fin ρ S1 h.1 (l3.trans h.2)) (fun F d ρ S1 hd h hF => ?_) ⟨hR, Sto.le.refl Sb⟩
  obtain ⟨c, rfl⟩ := hc d hd
  exact step Sb F c ρ S1 l3 h.2 h.1 (fun ρ' S' h1 h2 => hF ρ' S' ⟨h1, h2⟩)
end Sd
namespace Sd
open PySem
/-- a walk, by what is left of it -/
theorem for_ind {t : ATg} {b : AS} {src : Src} {N : DE} {W : AW} (R : List D → DSt → Sto → Prop) (ok : ∀ l ρ S, R l ρ S → src.ok S) (fin : ∀ ρ S, R [] ρ S → N.nx ρ S)
    (step : ∀ (F : DSt → Sto → Prop) d l ρ S, R (d :: l) ρ S → (∀ ρ' S', R l ρ' S' → F ρ' S') → t d ρ S (fun ρ1 S1 => b { nx := F, rt := N.rt, bk := N.nx, ct := F } ρ1 S1 W) W) :
    ∀ {ds : List D} {ρ : DSt} {S : Sto}, R ds ρ S → forS t b src N W ds ρ S
  | [], ρ, S, h => ⟨ok _ ρ S h, fin ρ S h⟩
  | d :: ds, ρ, S, h => ⟨ok _ ρ S h, step _ d ds ρ S h fun _ _ h' => for_ind R ok fin step h'⟩
/-- a list made, by what is left of its walk -/
theorem lc_ind {t : ATg} {cond : AT} {e : AE} {src : Src} {p : Addr} {ρ : DSt} {Pd : Sto → Prop} (R : List D → Sto → Prop) (ok : ∀ l S, R l S → src.ok S) (fin : ∀ S, R [] S → Pd S)
    (step : ∀ (F : Sto → Prop) d l S, R (d :: l) S → (∀ S', R l S' → F S') → t d ρ S (fun ρ1 S1 => cond ρ1 S1 (fun b S2 => if b = true then
      e ρ1 S2 (fun y S3 => match S3 p with
        | some (.lst true acc) => acc.length < sizeLine ∧ F (S3.up p (.lst true (acc ++ [y])))
        | _ => False) (fun _ _ _ _ => False)
      else F S2) (fun _ _ _ _ => False)) (fun _ _ _ _ => False)) : ∀ {ds : List D} {S : Sto}, R ds S → lcS t cond e src p ρ Pd ds S
  | [], S, h => ⟨ok _ S h, fin S h⟩
  | d :: ds, S, h => ⟨ok _ S h, step _ d ds S h fun _ h' => lc_ind R ok fin step h'⟩
section
variable {S : Sto} {P : PD} {i j k l : Int}
/-- pairs of numbers as data -/
theorem pd_pair {n : Nat} {g : Addr → Option PyData} : pdW g (n + 2) (.tup [.int i, .int j]) = some (.tuple [.int i, .int j]) := by
  simp only [pd_tup, pd_cons, pd_int, pd_nil]
theorem pds_pair : pdS S (.tup [.int i, .int j]) = some (.tuple [.int i, .int j]) := by
  unfold pdS
  exact pd_pair
theorem ev_pair : PyData.eqv (.tuple [.int i, .int j]) (.tuple [.int k, .int l]) = decide (i = k ∧ j = l) := by
  rw [ev_tup, ev_cons, ev_cons, ev_nil, ev_int, ev_int, Bool.and_true]
  by_cases h : i = k <;> by_cases h' : j = l <;> simp [h, h']
theorem q_eqP : cmpS .Eq (.tup [.int i, .int j]) (.tup [.int k, .int l]) S P = P (.bl (decide (i = k ∧ j = l))) S := by
  rw [q_eqT]
  simp only [pds_pair, ev_pair]
theorem q_neP : cmpS .NotEq (.tup [.int i, .int j]) (.tup [.int k, .int l]) S P = P (.bl (!decide (i = k ∧ j = l))) S := by
  rw [q_neT]
  simp only [pds_pair, ev_pair]
theorem pds_bl {b : Bool} : pdS S (.bl b) = some (.bool b) := pd_bl
theorem ev_bl {a b : Bool} : PyData.eqv (.bool a) (.bool b) = decide (a = b) := by
  simp only [PyData.eqv]
  cases a <;> cases b <;> rfl
theorem q_eqB {a b : Bool} : cmpS .Eq (.bl a) (.bl b) S P = P (.bl (decide (a = b))) S := by
  show (match pdS S (.bl a), pdS S (.bl b) with
    | some p, some q => P (.bl (PyData.eqv p q)) S
    | _, _ => False) = _
  simp only [pds_bl, ev_bl]
theorem q_neB {a b : Bool} : cmpS .NotEq (.bl a) (.bl b) S P = P (.bl (!decide (a = b))) S := by
  show (match pdS S (.bl a), pdS S (.bl b) with
    | some p, some q => P (.bl (!PyData.eqv p q)) S
    | _, _ => False) = _
  simp only [pds_bl, ev_bl]
end
/-- a choice over a truth -/
theorem mb_d {c : Prop} [Decidable c] {A B C : Prop} (h1 : c → A) (h2 : ¬ c → B) : match some (decide c) with
    | some true => A
    | some false => B
    | none => C := by
  by_cases h : c
  · rw [decide_eq_true h]; exact h1 h
  · rw [decide_eq_false h]; exact h2 h
theorem mb_n {c : Prop} [Decidable c] {A B C : Prop} (h1 : ¬ c → A) (h2 : c → B) : match some (!decide c) with
    | some true => A
    | some false => B
    | none => C := by
  by_cases h : c
  · rw [decide_eq_true h]; exact h2 h
  · rw [decide_eq_false h]; exact h1 h
/-- a suite in two -/
theorem wZs_append {Γ : Gam} {ys : List Z} {N : DE} {W : AW} : ∀ {xs : List Z} {ρ : DSt} {S : Sto}, wZs Γ (xs ++ ys) N ρ S W = wZs Γ xs { N with nx := fun ρ1 S1 => wZs Γ ys N ρ1 S1 W } ρ S W
  | [], ρ, S => rfl
  | z :: xs, ρ, S => by
    show wZ Γ z { N with nx := fun ρ1 S1 => wZs Γ (xs ++ ys) N ρ1 S1 W } ρ S W = wZ Γ z { N with nx := fun ρ1 S1 => wZs Γ xs { N with nx := fun ρ1 S1 => wZs Γ ys N ρ1 S1 W } ρ1 S1 W } ρ S W
    have e : (fun ρ1 S1 => wZs Γ (xs ++ ys) N ρ1 S1 W) = fun ρ1 S1 => wZs Γ xs { N with nx := fun ρ1 S1 => wZs Γ ys N ρ1 S1 W } ρ1 S1 W := by
      funext ρ1 S1
      exact wZs_append
    rw [e]
/-- a cut behind n statements: what holds there -/
theorem cut {Γ : Gam} (n : Nat) {zs : List Z} {N : DE} {W : AW} {ρ : DSt} {S : Sto} (J : DSt → Sto → Prop) (h1 : ∀ F : DSt → Sto → Prop, (∀ ρ S, J ρ S → F ρ S) → wZs Γ (zs.take n) { N with nx := F } ρ S W) (h2 : ∀ ρ S, J ρ S → wZs Γ (zs.drop n) N ρ S W) : wZs Γ zs N ρ S W := by
  rw [← List.take_append_drop n zs, wZs_append]
  exact h1 _ h2
/-! ### sizes -/
theorem mul_ok {i j : Int} {a b : Nat} (ha : i.natAbs < 2 ^ a) (hb : j.natAbs < 2 ^ b) (h0 : 0 < a) (h1 : 0 < b) (h : a + b ≤ 1000000) : IntMulOk i j := (L2.wide_mul ha hb h0 h1 h).ok
theorem mul_okR {i j : Int} (h : j.natAbs < 2 ^ 64) : IntMulOk i j := L2.CMul.ok (.inr ⟨by omega, by omega⟩)
theorem mul_okL {i j : Int} (h : i.natAbs < 2 ^ 64) : IntMulOk i j := L2.CMul.ok (.inl ⟨by omega, by omega⟩)
theorem div_ok {j : Int} {n : Nat} (h : j ≠ 0) (hn : j.natAbs < 2 ^ n) (h0 : 0 < n) (h9 : n ≤ 9000) : DivOk j := ⟨h, Nat.lt_of_lt_of_le (PySem.Flt.log2_lt_of h0 hn) h9⟩
/-- of at most n bits -/
def Bd (n : Nat) (x : Int) : Prop := x.natAbs < 2 ^ n
theorem Bd.mono {n m : Nat} {x : Int} (h : Bd n x) (l : n ≤ m) : Bd m x := Nat.lt_of_lt_of_le h (Nat.pow_le_pow_right (by decide) l)
theorem Bd.mul {n m : Nat} {x y : Int} (h : Bd n x) (k : Bd m y) : Bd (n + m) (x * y) := by
  unfold Bd at *
  rw [Int.natAbs_mul, Nat.pow_add]
  exact Nat.mul_lt_mul'' h k
theorem Bd.add {n : Nat} {x y : Int} (h : Bd n x) (k : Bd n y) : Bd (n + 1) (x + y) := by
  unfold Bd at *
  rw [Nat.pow_succ]
  omega
theorem Bd.sub {n : Nat} {x y : Int} (h : Bd n x) (k : Bd n y) : Bd (n + 1) (x - y) := by
  unfold Bd at *
  rw [Nat.pow_succ]
  omega
theorem Bd.neg {n : Nat} {x : Int} (h : Bd n x) : Bd n (0 - x) := by
  unfold Bd at *
  omega
theorem Bd.ok {n m : Nat} {x y : Int} (h : Bd n x) (k : Bd m y) (hl : n + m ≤ 999990) : IntMulOk x y :=
  mul_ok (a := n + 1) (b := m + 1) (h.mono (by omega)) (k.mono (by omega)) (by omega) (by omega) (by omega)
theorem Bd.dv {n : Nat} {x : Int} (h : Bd n x) (hx : x ≠ 0) (hl : n ≤ 8999) : DivOk x := div_ok (n := n + 1) hx (h.mono (by omega)) (by omega) (by omega)
theorem Bd.le {n : Nat} {x y : Int} (h : Bd n y) (l : x.natAbs ≤ y.natAbs) : Bd n x := Nat.lt_of_le_of_lt l h
end Sd
namespace Sd
open PySem
/-- law_take, number 0 -/
def z_law_take : List Z := [
  .asg (.ix (.var 0) (.c (.int 1))) (.op .Add (.ix (.var 0) (.c (.int 1))) (.c (.int 1))),
  .iff (.cmp .GtE (.ix (.var 0) (.c (.int 0))) (.op .Pow (.c (.int 10)) (.c (.int 18)))) [
    .asg (.nm 2) (.op .Sub (.op .FloorDiv (.ix (.var 0) (.c (.int 0))) (.op .Pow (.c (.int 10)) (.c (.int 18)))) (.c (.int 1))),
    .asg (.ix (.var 0) (.c (.int 0))) (.op .Mod (.ix (.var 0) (.c (.int 0))) (.op .Pow (.c (.int 10)) (.c (.int 18)))),
    .iff (.cmp .GtE (.var 2) (.var 1)) [
      .asg (.ix (.var 0) (.c (.int 0))) (.op .Add (.ix (.var 0) (.c (.int 0))) (.op .Mult (.op .Add (.op .FloorDiv (.var 2) (.var 1)) (.c (.int 1))) (.op .Pow (.c (.int 10)) (.c (.int 18)))))] [],
    .ret (.op .Mod (.var 2) (.var 1))] [],
  .asg (.nm 3) (.op .Mod (.op .Add (.op .Add (.op .Mult (.op .Mod (.ix (.var 0) (.c (.int 0))) (.c (.int 2147483629))) (.c (.int 48271))) (.op .Mult (.op .Mult (.c (.int 104729)) (.ix (.var 0) (.c (.int 1)))) (.ix (.var 0) (.c (.int 1))))) (.c (.int 17))) (.c (.int 2147483647))),
  .asg (.nm 3) (.op .Mod (.op .Mult (.var 3) (.op .Add (.op .Mod (.var 3) (.c (.int 65521))) (.c (.int 3)))) (.c (.int 2147483587))),
  .iff (.cmp .Gt (.var 1) (.op .Pow (.c (.int 10)) (.c (.int 8)))) [
    .asg (.nm 3) (.op .Mult (.op .Mult (.op .Mult (.var 3) (.var 3)) (.op .Add (.var 3) (.c (.int 104729)))) (.op .Add (.var 3) (.c (.int 7))))] [],
  .ret (.op .Mod (.op .FloorDiv (.var 3) (.c (.int 7))) (.var 1))]
/-- law_number, number 1 -/
def z_law_number : List Z := [
  .asg (.nm 1) (.fn 0 [(.var 0), (.c (.int 4))]),
  .iff (.cmp .Eq (.var 1) (.c (.int 0))) [
    .ret (.op .Sub (.fn 0 [(.var 0), (.c (.int 3))]) (.c (.int 1)))] [],
  .iff (.cmp .Eq (.var 1) (.c (.int 1))) [
    .ret (.op .Sub (.fn 0 [(.var 0), (.c (.int 25))]) (.c (.int 12)))] [],
  .iff (.cmp .Eq (.var 1) (.c (.int 2))) [
    .ret (.op .Sub (.fn 0 [(.var 0), (.op .Mult (.c (.int 2)) (.op .Pow (.c (.int 10)) (.c (.int 9))))]) (.op .Pow (.c (.int 10)) (.c (.int 9))))] [],
  .ret (.op .Add (.op .Sub (.fn 0 [(.var 0), (.op .Sub (.op .Mult (.c (.int 2)) (.op .Pow (.c (.int 10)) (.c (.int 30)))) (.c (.int 1)))]) (.op .Pow (.c (.int 10)) (.c (.int 30)))) (.c (.int 1)))]
/-- divisor, number 2 -/
def z_divisor : List Z := [
  .asg (.tp [(.nm 0), (.nm 1)]) (.tp [(.bi .abs [(.var 0)]), (.bi .abs [(.var 1)])]),
  .whl (.cmp .Gt (.var 1) (.c (.int 0))) [
    .asg (.tp [(.nm 0), (.nm 1)]) (.tp [(.var 1), (.op .Mod (.var 0) (.var 1))])],
  .ret (.var 0)]
/-- frac_of, number 3 -/
def z_frac_of : List Z := [
  .iff (.cmp .Eq (.var 1) (.c (.int 0))) [
    .rz 1] [],
  .asg (.nm 2) (.fn 2 [(.var 0), (.var 1)]),
  .iff (.cmp .Lt (.var 1) (.c (.int 0))) [
    .asg (.nm 2) (.op .Sub (.c (.int 0)) (.var 2))] [],
  .ret (.tp [(.op .FloorDiv (.var 0) (.var 2)), (.op .FloorDiv (.var 1) (.var 2))])]
/-- law_lowest, number 4 -/
def z_law_lowest : List Z := [
  .asg (.tp [(.nm 2), (.nm 3)]) (.tp [(.bi .abs [(.var 0)]), (.bi .abs [(.var 1)])]),
  .whl (.cmp .Gt (.var 3) (.c (.int 0))) [
    .asg (.tp [(.nm 2), (.nm 3)]) (.tp [(.var 3), (.op .Mod (.var 2) (.var 3))])],
  .iff (.cmp .Lt (.var 1) (.c (.int 0))) [
    .asg (.nm 2) (.op .Sub (.c (.int 0)) (.var 2))] [],
  .ret (.tp [(.op .FloorDiv (.var 0) (.var 2)), (.op .FloorDiv (.var 1) (.var 2))])]
/-- law_whole, number 5 -/
def z_law_whole : List Z := [
  .ret (.an (.isi (.var 0) [(.bt "int")]) (.no (.isi (.var 0) [(.bt "bool")])))]
/-- law_divides, number 6 -/
def z_law_divides : List Z := [
  .iff (.ro (.no (.fn 5 [(.var 0)])) (.cmp .Lt (.var 0) (.c (.int 0)))) [
    .ret (.c (.bl false))] [],
  .iff (.an (.cmp .Eq (.var 1) (.c (.int 0))) (.cmp .Eq (.var 2) (.c (.int 0)))) [
    .ret (.cmp .Eq (.var 0) (.c (.int 0)))] [],
  .iff (.ro (.cmp .Eq (.var 0) (.c (.int 0))) (.ro (.cmp .NotEq (.op .Mod (.var 1) (.var 0)) (.c (.int 0))) (.cmp .NotEq (.op .Mod (.var 2) (.var 0)) (.c (.int 0))))) [
    .ret (.c (.bl false))] [],
  .asg (.tp [(.nm 3), (.nm 4)]) (.tp [(.op .FloorDiv (.var 1) (.var 0)), (.op .FloorDiv (.var 2) (.var 0))]),
  .iff (.cmp .Eq (.var 4) (.c (.int 0))) [
    .ret (.cmp .Eq (.bi .abs [(.var 3)]) (.c (.int 1)))] [],
  .ret (.cmp .In (.fn 4 [(.var 3), (.var 4)]) (.ls [(.tp [(.var 3), (.var 4)]), (.tp [(.op .Sub (.c (.int 0)) (.var 3)), (.op .Sub (.c (.int 0)) (.var 4))])]))]
/-- law_refused, number 7 -/
def z_law_refused : List Z := [
  .asg (.nm 1) (.c .non),
  .tr [
    .ex (.fn 3 [(.var 0), (.c (.int 0))])] 0 2 1,
  .iff (.ro (.no (.isi (.var 1) [(.cl 1)])) (.no (.isi (.var 1) [(.bt "ValueError")]))) [
    .ret (.c (.bl false))] [],
  .ret (.no (.isi (.var 1) [(.cl 2), (.cl 3), (.cl 10)]))]
/-- law_is_frac, number 8 -/
def z_law_is_frac : List Z := [
  .iff (.ro (.no (.isi (.var 0) [(.bt "tuple")])) (.ro (.cmp .NotEq (.bi .len [(.var 0)]) (.c (.int 2))) (.ro (.no (.fn 5 [(.ix (.var 0) (.c (.int 0)))])) (.no (.fn 5 [(.ix (.var 0) (.c (.int 1)))]))))) [
    .ret (.c (.bl false))] [],
  .ret (.an (.cmp .Gt (.ix (.var 0) (.c (.int 1))) (.c (.int 0))) (.cmp .Eq (.fn 4 [(.ix (.var 0) (.c (.int 0))), (.ix (.var 0) (.c (.int 1)))]) (.var 0)))]
/-- law, number 9 -/
def z_law : List Z := [
  .for_ (.nm 1) (.e (.op .Add (.ls [(.c (.int 0))]) (.sl (.var 0) (.c .non) (.aI (.c (.int 40)))))) [
    .asg (.nm 2) (.ls [(.var 1), (.c (.int 0))]),
    .asg (.tp [(.nm 3), (.nm 4)]) (.tp [(.fn 1 [(.var 2)]), (.fn 1 [(.var 2)])]),
    .iff (.ro (.no (.fn 6 [(.fn 2 [(.var 3), (.var 4)]), (.var 3), (.var 4)])) (.no (.fn 6 [(.fn 2 [(.var 4), (.var 3)]), (.var 4), (.var 3)]))) [
      .ret (.c (.bl false))] [],
    .iff (.ro (.no (.fn 7 [(.var 3)])) (.no (.fn 6 [(.fn 2 [(.var 3), (.c (.int 0))]), (.var 3), (.c (.int 0))]))) [
      .ret (.c (.bl false))] [],
    .iff (.cmp .NotEq (.var 4) (.c (.int 0))) [
      .asg (.nm 5) (.fn 3 [(.var 3), (.var 4)]),
      .iff (.ro (.no (.fn 8 [(.var 5)])) (.cmp .NotEq (.op .Mult (.ix (.var 5) (.c (.int 0))) (.var 4)) (.op .Mult (.var 3) (.ix (.var 5) (.c (.int 1)))))) [
        .ret (.c (.bl false))] []] []],
  .ret (.c (.bl true))]
end Sd
namespace Sd
open PySem
/-- law_frac, number 10 -/
def z_law_frac : List Z := [
  .asg (.nm 1) (.fn 1 [(.var 0)]),
  .iff (.cmp .Eq (.var 1) (.c (.int 0))) [
    .asg (.nm 1) (.c (.int 1))] [],
  .ret (.fn 4 [(.fn 1 [(.var 0)]), (.var 1)])]
/-- quotient, number 11 -/
def z_quotient : List Z := [
  .iff (.cmp .Eq (.ix (.var 1) (.c (.int 0))) (.c (.int 0))) [
    .rz 1] [],
  .ret (.fn 3 [(.op .Mult (.ix (.var 0) (.c (.int 0))) (.ix (.var 1) (.c (.int 1)))), (.op .Mult (.ix (.var 0) (.c (.int 1))) (.ix (.var 1) (.c (.int 0))))])]
/-- law_refused_2, number 12 -/
def z_law_refused_2 : List Z := [
  .asg (.nm 1) (.c .non),
  .tr [
    .ex (.fn 11 [(.var 0), (.tp [(.c (.int 0)), (.c (.int 1))])])] 0 2 1,
  .ret (.an (.isi (.var 1) [(.cl 1)]) (.an (.isi (.var 1) [(.bt "ValueError")]) (.no (.isi (.var 1) [(.cl 2), (.cl 10)]))))]
/-- is_below, number 13 -/
def z_is_below : List Z := [
  .ret (.cmp .Lt (.op .Mult (.ix (.var 0) (.c (.int 0))) (.ix (.var 1) (.c (.int 1)))) (.op .Mult (.ix (.var 1) (.c (.int 0))) (.ix (.var 0) (.c (.int 1)))))]
/-- added, number 14 -/
def z_added : List Z := [
  .ret (.fn 3 [(.op .Add (.op .Mult (.ix (.var 0) (.c (.int 0))) (.ix (.var 1) (.c (.int 1)))) (.op .Mult (.ix (.var 1) (.c (.int 0))) (.ix (.var 0) (.c (.int 1))))), (.op .Mult (.ix (.var 0) (.c (.int 1))) (.ix (.var 1) (.c (.int 1))))])]
/-- lessened, number 15 -/
def z_lessened : List Z := [
  .ret (.fn 3 [(.op .Sub (.op .Mult (.ix (.var 0) (.c (.int 0))) (.ix (.var 1) (.c (.int 1)))) (.op .Mult (.ix (.var 1) (.c (.int 0))) (.ix (.var 0) (.c (.int 1))))), (.op .Mult (.ix (.var 0) (.c (.int 1))) (.ix (.var 1) (.c (.int 1))))])]
/-- multiplied, number 16 -/
def z_multiplied : List Z := [
  .ret (.fn 3 [(.op .Mult (.ix (.var 0) (.c (.int 0))) (.ix (.var 1) (.c (.int 0)))), (.op .Mult (.ix (.var 0) (.c (.int 1))) (.ix (.var 1) (.c (.int 1))))])]
/-- law_right, number 17 -/
def z_law_right : List Z := [
  .asg (.tp [(.tp [(.nm 2), (.nm 3)]), (.tp [(.nm 4), (.nm 5)])]) (.tp [(.var 0), (.var 1)]),
  .asg (.nm 6) (.ls [(.tp [(.fn 14 [(.var 0), (.var 1)]), (.op .Add (.op .Mult (.var 2) (.var 5)) (.op .Mult (.var 4) (.var 3))), (.op .Mult (.var 3) (.var 5))]), (.tp [(.fn 15 [(.var 0), (.var 1)]), (.op .Sub (.op .Mult (.var 2) (.var 5)) (.op .Mult (.var 4) (.var 3))), (.op .Mult (.var 3) (.var 5))])]),
  .ex (.me .append (.var 6) [(.tp [(.fn 16 [(.var 0), (.var 1)]), (.op .Mult (.var 2) (.var 4)), (.op .Mult (.var 3) (.var 5))])]),
  .iff (.cmp .NotEq (.var 4) (.c (.int 0))) [
    .ex (.me .append (.var 6) [(.tp [(.fn 11 [(.var 0), (.var 1)]), (.op .Mult (.var 2) (.var 5)), (.op .Mult (.var 3) (.var 4))])])] [],
  .for_ (.tp [(.nm 7), (.nm 8), (.nm 9)]) (.e (.var 6)) [
    .iff (.ro (.no (.fn 8 [(.var 7)])) (.cmp .NotEq (.op .Mult (.ix (.var 7) (.c (.int 0))) (.var 9)) (.op .Mult (.var 8) (.ix (.var 7) (.c (.int 1)))))) [
      .ret (.c (.bl false))] []],
  .asg (.nm 10) (.fn 13 [(.var 0), (.var 1)]),
  .ret (.an (.isi (.var 10) [(.bt "bool")]) (.cmp .Eq (.var 10) (.cmp .Lt (.op .Mult (.var 2) (.var 5)) (.op .Mult (.var 4) (.var 3)))))]
/-- sum_of, number 18 -/
def z_sum_of : List Z := [
  .asg (.nm 1) (.tp [(.c (.int 0)), (.c (.int 1))]),
  .for_ (.nm 2) (.e (.var 0)) [
    .asg (.nm 1) (.fn 14 [(.var 1), (.var 2)])],
  .ret (.var 1)]
/-- law_2, number 19 -/
def z_law_2 : List Z := [
  .for_ (.nm 1) (.e (.op .Add (.ls [(.c (.int 0))]) (.sl (.var 0) (.c .non) (.aI (.c (.int 30)))))) [
    .asg (.nm 2) (.ls [(.var 1), (.c (.int 0))]),
    .asg (.tp [(.nm 3), (.nm 4)]) (.tp [(.fn 10 [(.var 2)]), (.fn 10 [(.var 2)])]),
    .iff (.ro (.no (.fn 17 [(.var 3), (.var 4)])) (.ro (.no (.fn 17 [(.var 4), (.var 3)])) (.no (.fn 17 [(.var 3), (.var 3)])))) [
      .ret (.c (.bl false))] [],
    .iff (.no (.fn 12 [(.var 3)])) [
      .ret (.c (.bl false))] [],
    .asg (.nm 5) (.lc (.fn 10 [(.var 2)]) (.nm 6) (.rng1 (.fn 0 [(.var 2), (.c (.int 10))])) (.c (.bl true)) [6]),
    .asg (.nm 7) (.tp [(.c (.int 0)), (.c (.int 1))]),
    .for_ (.nm 8) (.e (.var 5)) [
      .asg (.nm 7) (.fn 4 [(.op .Add (.op .Mult (.ix (.var 7) (.c (.int 0))) (.ix (.var 8) (.c (.int 1)))) (.op .Mult (.ix (.var 8) (.c (.int 0))) (.ix (.var 7) (.c (.int 1))))), (.op .Mult (.ix (.var 7) (.c (.int 1))) (.ix (.var 8) (.c (.int 1))))])],
    .asg (.nm 9) (.bi .list [(.var 5)]),
    .iff (.ro (.cmp .NotEq (.fn 18 [(.var 9)]) (.var 7)) (.ro (.cmp .NotEq (.var 9) (.var 5)) (.no (.fn 8 [(.fn 18 [(.var 5)])])))) [
      .ret (.c (.bl false))] []],
  .ret (.c (.bl true))]
end Sd
namespace Sd
open PySem
/-- law_take_2, number 0 -/
def z_law_take_2 : List Z := [
  .asg (.ix (.var 0) (.c (.int 1))) (.op .Add (.ix (.var 0) (.c (.int 1))) (.c (.int 1))),
  .iff (.cmp .GtE (.ix (.var 0) (.c (.int 0))) (.op .Pow (.c (.int 10)) (.c (.int 18)))) [
    .asg (.nm 2) (.op .Sub (.op .FloorDiv (.ix (.var 0) (.c (.int 0))) (.op .Pow (.c (.int 10)) (.c (.int 18)))) (.c (.int 1))),
    .asg (.ix (.var 0) (.c (.int 0))) (.op .Mod (.ix (.var 0) (.c (.int 0))) (.op .Pow (.c (.int 10)) (.c (.int 18)))),
    .iff (.cmp .GtE (.var 2) (.var 1)) [
      .asg (.ix (.var 0) (.c (.int 0))) (.op .Add (.ix (.var 0) (.c (.int 0))) (.op .Mult (.op .Add (.op .FloorDiv (.var 2) (.var 1)) (.c (.int 1))) (.op .Pow (.c (.int 10)) (.c (.int 18)))))] [],
    .ret (.op .Mod (.var 2) (.var 1))] [],
  .asg (.nm 3) (.op .Mod (.op .Add (.op .Add (.op .Mult (.op .Mod (.ix (.var 0) (.c (.int 0))) (.c (.int 2147483629))) (.c (.int 48271))) (.op .Mult (.op .Mult (.c (.int 104729)) (.ix (.var 0) (.c (.int 1)))) (.ix (.var 0) (.c (.int 1))))) (.c (.int 17))) (.c (.int 2147483647))),
  .asg (.nm 3) (.op .Mod (.op .Mult (.var 3) (.op .Add (.op .Mod (.var 3) (.c (.int 65521))) (.c (.int 3)))) (.c (.int 2147483587))),
  .ret (.op .Mod (.op .FloorDiv (.var 3) (.c (.int 7))) (.var 1))]
/-- is_whole, number 21 -/
def z_is_whole : List Z := [
  .ret (.an (.isi (.var 0) [(.bt "int")]) (.no (.isi (.var 0) [(.bt "bool")])))]
/-- is_frac, number 22 -/
def z_is_frac : List Z := [
  .iff (.ro (.no (.isi (.var 0) [(.bt "tuple")])) (.ro (.cmp .NotEq (.bi .len [(.var 0)]) (.c (.int 2))) (.ro (.no (.fn 21 [(.ix (.var 0) (.c (.int 0)))])) (.no (.fn 21 [(.ix (.var 0) (.c (.int 1)))]))))) [
    .ret (.c (.bl false))] [],
  .ret (.an (.cmp .GtE (.ix (.var 0) (.c (.int 1))) (.c (.int 1))) (.cmp .Eq (.fn 2 [(.ix (.var 0) (.c (.int 0))), (.ix (.var 0) (.c (.int 1)))]) (.c (.int 1))))]
/-- law_spoiled, number 23 -/
def z_law_spoiled : List Z := [
  .asg (.tp [(.nm 2), (.nm 3)]) (.var 1),
  .asg (.nm 4) (.op .Add (.c (.int 2)) (.fn 0 [(.var 0), (.c (.int 9))])),
  .asg (.tp [(.nm 5), (.nm 6)]) (.tp [(.op .Mod (.var 2) (.op .Pow (.c (.int 10)) (.c (.int 28)))), (.op .Mod (.var 3) (.op .Pow (.c (.int 10)) (.c (.int 28))))]),
  .asg (.nm 7) (.ls [(.tp [(.op .Mult (.var 5) (.var 4)), (.op .Mult (.var 6) (.var 4))]), (.tp [(.var 2), (.op .Sub (.c (.int 0)) (.var 3))]), (.tp [(.op .Sub (.c (.int 0)) (.var 2)), (.op .Sub (.c (.int 0)) (.var 3))]), (.tp [(.var 2), (.c (.int 0))]), (.tp [(.c (.bl true)), (.var 3)]), (.tp [(.var 2), (.c (.bl true))])]),
  .asg (.nm 7) (.op .Add (.var 7) (.ls [(.tp [(.c .non), (.var 3)]), (.tp [(.var 2), (.c .non)]), (.tp [(.bi .str [(.var 4)]), (.var 3)]), (.tp [(.var 2), (.c (.str "1"))]), (.ls [(.var 2), (.var 3)]), (.tp [(.var 2)]), (.tp [(.var 2), (.var 3), (.c (.int 1))])])),
  .asg (.nm 7) (.op .Add (.var 7) (.ls [(.tp [(.tp [(.var 2), (.var 3)]), (.c (.int 1))]), (.tp [(.var 2), (.tp [(.var 3)])]), (.tp [(.var 2), (.c (.bl false))]), (.tp [(.tp []), (.var 3)]), (.tp [(.c (.int 0)), (.var 3)]), (.tp [(.op .Add (.var 5) (.var 6)), (.var 6)])])),
  .asg (.nm 7) (.op .Add (.var 7) (.ls [(.c .non), (.c (.bl true)), (.var 2), (.c (.str "1/2")), (.tp []), (.ls []), (.tp [(.var 2), (.ls [(.var 3)])])])),
  .ret (.ix (.var 7) (.fn 0 [(.var 0), (.bi .len [(.var 7)])]))]
/-- law_3, number 9 -/
def z_law_3 : List Z := [
  .for_ (.nm 1) (.e (.op .Add (.ls [(.c (.int 0))]) (.sl (.var 0) (.c .non) (.aI (.c (.int 40)))))) [
    .asg (.nm 2) (.ls [(.var 1), (.c (.int 0))]),
    .asg (.nm 3) (.fn 10 [(.var 2)]),
    .iff (.cmp .IsNot (.fn 22 [(.var 3)]) (.c (.bl true))) [
      .ret (.c (.bl false))] [],
    .for_ (.nm 4) (.rng1 (.c (.int 2))) [
      .asg (.nm 5) (.fn 23 [(.var 2), (.var 3)]),
      .asg (.nm 6) (.fn 22 [(.var 5)]),
      .asg (.nm 7) (.an (.isi (.var 5) [(.bt "tuple")]) (.an (.cmp .Eq (.bi .len [(.var 5)]) (.c (.int 2))) (.an (.fn 5 [(.ix (.var 5) (.c (.int 0)))]) (.fn 5 [(.ix (.var 5) (.c (.int 1)))])))),
      .iff (.var 7) [
        .asg (.nm 7) (.an (.cmp .Gt (.ix (.var 5) (.c (.int 1))) (.c (.int 0))) (.cmp .Eq (.fn 4 [(.ix (.var 5) (.c (.int 0))), (.ix (.var 5) (.c (.int 1)))]) (.var 5)))] [],
      .iff (.ro (.no (.isi (.var 6) [(.bt "bool")])) (.cmp .NotEq (.var 6) (.var 7))) [
        .ret (.c (.bl false))] []]],
  .ret (.c (.bl true))]
end Sd
namespace Sd
open PySem
/-- law_primes, number 24 -/
def z_law_primes : List Z := [
  .ret (.lc (.var 0) (.nm 0) (.rng2 (.c (.int 2)) (.c (.int 100))) (.cmp .Eq (.lc (.var 1) (.nm 1) (.rng2 (.c (.int 2)) (.var 0)) (.cmp .Eq (.op .Mod (.var 0) (.var 1)) (.c (.int 0))) [1]) (.ls [])) [0])]
/-- law_thing, number 25 -/
def z_law_thing : List Z := [
  .asg (.nm 2) (.ix (.var 1) (.fn 0 [(.var 0), (.bi .len [(.var 1)])])),
  .asg (.nm 3) (.ls [(.op .Sub (.fn 0 [(.var 0), (.c (.int 114))]) (.c (.int 3))), (.fn 0 [(.var 0), (.op .Pow (.c (.int 10)) (.c (.int 30)))]), (.op .Sub (.c (.int 0)) (.var 2)), (.c (.bl true)), (.c (.bl false)), (.c .non), (.bi .str [(.var 2)])]),
  .asg (.nm 3) (.op .Add (.var 3) (.ls [(.ls [(.var 2)]), (.tp [(.var 2)])])),
  .ret (.ix (.var 3) (.fn 0 [(.var 0), (.bi .len [(.var 3)])]))]
/-- look_prime, number 26 -/
def z_look_prime : List Z := [
  .iff (.ro (.no (.fn 21 [(.var 0)])) (.cmp .NotIn (.var 0) (.g 0))) [
    .rz 2] []]
/-- times_in, number 27 -/
def z_times_in : List Z := [
  .asg (.nm 2) (.c (.int 0)),
  .whl (.cmp .Eq (.op .Mod (.var 0) (.var 1)) (.c (.int 0))) [
    .asg (.nm 0) (.op .FloorDiv (.var 0) (.var 1)),
    .aug 2 .Add (.c (.int 1))],
  .ret (.var 2)]
/-- power_in, number 28 -/
def z_power_in : List Z := [
  .ex (.fn 26 [(.var 1)]),
  .iff (.cmp .Eq (.ix (.var 0) (.c (.int 0))) (.c (.int 0))) [
    .ret (.c .non)] [],
  .ret (.op .Sub (.fn 27 [(.ix (.var 0) (.c (.int 0))), (.var 1)]) (.fn 27 [(.ix (.var 0) (.c (.int 1))), (.var 1)]))]
/-- law_refused_3, number 7 -/
def z_law_refused_3 : List Z := [
  .asg (.nm 3) (.c .non),
  .tr [
    .iff (.cmp .Eq (.var 2) (.c (.int 0))) [
      .ex (.fn 28 [(.var 0), (.var 1)])] [
      .ex (.fn 26 [(.var 1)])]] 0 4 3,
  .iff (.ro (.no (.isi (.var 3) [(.cl 2)])) (.no (.isi (.var 3) [(.bt "ValueError")]))) [
    .ret (.c (.bl false))] [],
  .ret (.no (.isi (.var 3) [(.cl 1), (.cl 6)]))]
/-- law_power, number 29 -/
def z_law_power : List Z := [
  .asg (.nm 3) (.c (.int 0)),
  .whl (.cmp .Eq (.op .Mod (.var 0) (.var 2)) (.c (.int 0))) [
    .asg (.nm 0) (.op .FloorDiv (.var 0) (.var 2)),
    .asg (.nm 3) (.op .Add (.var 3) (.c (.int 1)))],
  .whl (.cmp .Eq (.op .Mod (.var 1) (.var 2)) (.c (.int 0))) [
    .asg (.nm 1) (.op .FloorDiv (.var 1) (.var 2)),
    .asg (.nm 3) (.op .Sub (.var 3) (.c (.int 1)))],
  .ret (.var 3)]
/-- law_4, number 9 -/
def z_law_4 : List Z := [
  .asg (.nm 1) (.fn 24 []),
  .for_ (.nm 2) (.e (.op .Add (.ls [(.c (.int 0))]) (.sl (.var 0) (.c .non) (.aI (.c (.int 30)))))) [
    .asg (.nm 3) (.ls [(.var 2), (.c (.int 0))]),
    .asg (.nm 4) (.ix (.var 1) (.fn 0 [(.var 3), (.c (.int 25))])),
    .asg (.tp [(.nm 5), (.nm 6)]) (.fn 10 [(.var 3)]),
    .asg (.nm 7) (.op .Sub (.fn 0 [(.var 3), (.c (.int 21))]) (.c (.int 10))),
    .asg (.nm 8) (.c (.int 1)),
    .for_ (.nm 9) (.rng1 (.bi .abs [(.var 7)])) [
      .asg (.nm 8) (.op .Mult (.var 8) (.var 4))],
    .asg (.nm 10) (.op .Add (.op .Mod (.var 6) (.op .Pow (.c (.int 10)) (.c (.int 9)))) (.bi .int [(.cmp .Eq (.op .Mod (.var 6) (.op .Pow (.c (.int 10)) (.c (.int 9)))) (.c (.int 0)))])),
    .asg (.nm 11) (.fn 4 [(.op .Mult (.op .Mod (.var 5) (.op .Pow (.c (.int 10)) (.c (.int 9)))) (.var 8)), (.var 10)]),
    .iff (.cmp .Lt (.var 7) (.c (.int 0))) [
      .asg (.nm 11) (.fn 4 [(.op .Mod (.var 5) (.op .Pow (.c (.int 10)) (.c (.int 9)))), (.op .Mult (.var 10) (.var 8))])] [],
    .for_ (.nm 12) (.e (.ls [(.var 11), (.tp [(.var 5), (.var 6)])])) [
      .asg (.nm 13) (.fn 28 [(.var 12), (.var 4)]),
      .iff (.an (.cmp .Eq (.ix (.var 12) (.c (.int 0))) (.c (.int 0))) (.cmp .IsNot (.var 13) (.c .non))) [
        .ret (.c (.bl false))] [],
      .iff (.an (.cmp .NotEq (.ix (.var 12) (.c (.int 0))) (.c (.int 0))) (.ro (.no (.fn 5 [(.var 13)])) (.cmp .NotEq (.var 13) (.fn 29 [(.ix (.var 12) (.c (.int 0))), (.ix (.var 12) (.c (.int 1))), (.var 4)])))) [
        .ret (.c (.bl false))] []],
    .asg (.nm 14) (.fn 16 [(.var 11), (.var 11)]),
    .asg (.nm 15) (.fn 16 [(.var 14), (.var 14)]),
    .iff (.an (.cmp .NotEq (.ix (.var 11) (.c (.int 0))) (.c (.int 0))) (.cmp .NotEq (.ls [(.fn 28 [(.var 14), (.var 4)]), (.fn 28 [(.var 15), (.var 4)])]) (.ls [(.op .Mult (.c (.int 2)) (.fn 28 [(.var 11), (.var 4)])), (.op .Mult (.c (.int 4)) (.fn 28 [(.var 11), (.var 4)]))]))) [
      .ret (.c (.bl false))] [],
    .asg (.nm 16) (.fn 25 [(.var 3), (.var 1)]),
    .iff (.an (.fn 5 [(.var 16)]) (.cmp .In (.var 16) (.var 1))) [
      .iff (.ro (.cmp .IsNot (.fn 26 [(.var 16)]) (.c .non)) (.cmp .NotEq (.fn 28 [(.tp [(.var 16), (.c (.int 1))]), (.var 16)]) (.c (.int 1)))) [
        .ret (.c (.bl false))] []] [
      .iff (.ro (.no (.fn 7 [(.var 11), (.var 16), (.c (.int 0))])) (.no (.fn 7 [(.var 11), (.var 16), (.c (.int 1))]))) [
        .ret (.c (.bl false))] []]],
  .ret (.c (.bl true))]
end Sd
namespace Sd
open PySem
/-- law_part, number 30 -/
def z_law_part : List Z := [
  .asg (.nm 2) (.op .Add (.c (.int 1)) (.fn 0 [(.var 0), (.ix (.ls [(.c (.int 9)), (.op .Pow (.c (.int 10)) (.c (.int 14)))]) (.fn 0 [(.var 0), (.c (.int 2))]))])),
  .asg (.nm 3) (.op .Add (.c (.int 1)) (.fn 0 [(.var 0), (.ix (.ls [(.c (.int 9)), (.op .Pow (.c (.int 10)) (.c (.int 14)))]) (.fn 0 [(.var 0), (.c (.int 2))]))])),
  .asg (.nm 2) (.op .Mult (.var 2) (.ix (.ls [(.c (.int 1)), (.neg (.c (.int 1)))]) (.fn 0 [(.var 0), (.c (.int 2))]))),
  .asg (.nm 4) (.op .Sub (.fn 0 [(.var 0), (.c (.int 17))]) (.c (.int 8))),
  .for_ (.nm 5) (.rng1 (.var 4)) [
    .asg (.nm 2) (.op .Mult (.var 2) (.var 1))],
  .for_ (.nm 5) (.rng1 (.op .Sub (.c (.int 0)) (.var 4))) [
    .asg (.nm 3) (.op .Mult (.var 3) (.var 1))],
  .ret (.fn 4 [(.var 2), (.var 3)])]
/-- law_least, number 31 -/
def z_law_least : List Z := [
  .iff (.cmp .Eq (.ix (.var 0) (.c (.int 0))) (.c (.int 0))) [
    .ret (.cmp .Is (.fn 28 [(.var 0), (.var 1)]) (.c .non))] [],
  .asg (.nm 4) (.fn 28 [(.var 0), (.var 1)]),
  .ret (.an (.cmp .GtE (.var 4) (.bi .min2 [(.var 2), (.var 3)])) (.ro (.cmp .Eq (.var 4) (.bi .min2 [(.var 2), (.var 3)])) (.cmp .Eq (.var 2) (.var 3))))]
/-- law_5, number 9 -/
def z_law_5 : List Z := [
  .asg (.nm 1) (.fn 24 []),
  .for_ (.nm 2) (.e (.op .Add (.ls [(.c (.int 0))]) (.sl (.var 0) (.c .non) (.aI (.c (.int 30)))))) [
    .asg (.nm 3) (.ls [(.var 2), (.c (.int 0))]),
    .asg (.nm 4) (.ix (.var 1) (.fn 0 [(.var 3), (.c (.int 25))])),
    .asg (.tp [(.nm 5), (.nm 6)]) (.tp [(.fn 30 [(.var 3), (.var 4)]), (.fn 30 [(.var 3), (.var 4)])]),
    .asg (.tp [(.nm 7), (.nm 8)]) (.tp [(.fn 28 [(.var 5), (.var 4)]), (.fn 28 [(.var 6), (.var 4)])]),
    .iff (.ro (.cmp .NotEq (.fn 28 [(.fn 16 [(.var 5), (.var 6)]), (.var 4)]) (.op .Add (.var 7) (.var 8))) (.cmp .NotEq (.fn 28 [(.fn 11 [(.var 5), (.var 6)]), (.var 4)]) (.op .Sub (.var 7) (.var 8)))) [
      .ret (.c (.bl false))] [],
    .iff (.ro (.no (.fn 31 [(.fn 14 [(.var 5), (.var 6)]), (.var 4), (.var 7), (.var 8)])) (.no (.fn 31 [(.fn 15 [(.var 5), (.var 6)]), (.var 4), (.var 7), (.var 8)]))) [
      .ret (.c (.bl false))] [],
    .iff (.ro (.no (.fn 31 [(.fn 15 [(.var 5), (.var 5)]), (.var 4), (.var 7), (.var 7)])) (.no (.fn 31 [(.fn 14 [(.var 5), (.var 5)]), (.var 4), (.var 7), (.var 7)]))) [
      .ret (.c (.bl false))] []],
  .ret (.c (.bl true))]
end Sd
namespace Sd
open PySem
/-- law_spot, number 32 -/
def z_law_spot : List Z := [
  .ret (.tp [(.fn 10 [(.var 0)]), (.fn 10 [(.var 0)])])]
/-- law_thing_2, number 25 -/
def z_law_thing_2 : List Z := [
  .asg (.tp [(.nm 2), (.nm 3)]) (.var 1),
  .asg (.nm 4) (.op .Add (.c (.int 2)) (.fn 0 [(.var 0), (.c (.int 9))])),
  .asg (.nm 5) (.ls [(.tp [(.op .Mult (.op .Mod (.ix (.var 2) (.c (.int 0))) (.op .Pow (.c (.int 10)) (.c (.int 28)))) (.var 4)), (.op .Mult (.op .Mod (.ix (.var 2) (.c (.int 1))) (.op .Pow (.c (.int 10)) (.c (.int 28)))) (.var 4))]), (.tp [(.ix (.var 2) (.c (.int 0))), (.op .Sub (.c (.int 0)) (.ix (.var 2) (.c (.int 1))))]), (.tp [(.c (.bl true)), (.c (.int 1))]), (.c .non), (.ix (.var 2) (.c (.int 0))), (.tp [(.ix (.var 2) (.c (.int 0)))]), (.c (.str "1")), (.tp [(.var 2), (.var 2)]), (.tp [(.ix (.var 2) (.c (.int 0))), (.c (.bl true))]), (.tp [(.c (.bl false)), (.c (.int 1))])]),
  .ex (.me .append (.var 5) [(.ls [(.ix (.var 2) (.c (.int 0))), (.ix (.var 2) (.c (.int 1)))])]),
  .asg (.nm 6) (.ix (.var 5) (.fn 0 [(.var 0), (.bi .len [(.var 5)])])),
  .asg (.nm 7) (.ls [(.tp [(.var 6), (.var 3)]), (.tp [(.var 2), (.var 6)]), (.tp [(.var 6), (.var 6)]), (.ls [(.var 2), (.var 3)]), (.tp [(.var 2)]), (.tp [(.var 2), (.var 3), (.var 2)]), (.tp [(.ix (.var 2) (.c (.int 0))), (.ix (.var 2) (.c (.int 1))), (.ix (.var 3) (.c (.int 0))), (.ix (.var 3) (.c (.int 1)))]), (.var 2), (.c .non), (.c (.str "0,0")), (.tp [(.var 3), (.var 2)]), (.tp [])]),
  .ret (.ix (.var 7) (.fn 0 [(.var 0), (.bi .len [(.var 7)])]))]
/-- is_spot, number 33 -/
def z_is_spot : List Z := [
  .ret (.an (.isi (.var 0) [(.bt "tuple")]) (.an (.cmp .Eq (.bi .len [(.var 0)]) (.c (.int 2))) (.an (.fn 22 [(.ix (.var 0) (.c (.int 0)))]) (.fn 22 [(.ix (.var 0) (.c (.int 1)))]))))]
/-- is_ahead, number 34 -/
def z_is_ahead : List Z := [
  .iff (.cmp .NotEq (.ix (.var 0) (.c (.int 0))) (.ix (.var 1) (.c (.int 0)))) [
    .ret (.fn 13 [(.ix (.var 0) (.c (.int 0))), (.ix (.var 1) (.c (.int 0)))])] [],
  .ret (.fn 13 [(.ix (.var 0) (.c (.int 1))), (.ix (.var 1) (.c (.int 1)))])]
/-- law_is, number 35 -/
def z_law_is : List Z := [
  .ret (.an (.isi (.var 0) [(.bt "tuple")]) (.an (.cmp .Eq (.bi .len [(.var 0)]) (.c (.int 2))) (.an (.fn 8 [(.ix (.var 0) (.c (.int 0)))]) (.fn 8 [(.ix (.var 0) (.c (.int 1)))]))))]
/-- law_below, number 36 -/
def z_law_below : List Z := [
  .ret (.cmp .Lt (.op .Mult (.ix (.var 0) (.c (.int 0))) (.ix (.var 1) (.c (.int 1)))) (.op .Mult (.ix (.var 1) (.c (.int 0))) (.ix (.var 0) (.c (.int 1)))))]
/-- law_ahead, number 37 -/
def z_law_ahead : List Z := [
  .ret (.ro (.fn 36 [(.ix (.var 0) (.c (.int 0))), (.ix (.var 1) (.c (.int 0)))]) (.an (.cmp .Eq (.ix (.var 0) (.c (.int 0))) (.ix (.var 1) (.c (.int 0)))) (.fn 36 [(.ix (.var 0) (.c (.int 1))), (.ix (.var 1) (.c (.int 1)))])))]
/-- law_6, number 9 -/
def z_law_6 : List Z := [
  .for_ (.nm 1) (.e (.op .Add (.ls [(.c (.int 0))]) (.sl (.var 0) (.c .non) (.aI (.c (.int 40)))))) [
    .asg (.nm 2) (.ls [(.var 1), (.c (.int 0))]),
    .asg (.nm 3) (.fn 32 [(.var 2)]),
    .iff (.ro (.cmp .IsNot (.fn 33 [(.var 3)]) (.c (.bl true))) (.cmp .IsNot (.fn 34 [(.var 3), (.var 3)]) (.c (.bl false)))) [
      .ret (.c (.bl false))] [],
    .for_ (.nm 4) (.rng1 (.c (.int 2))) [
      .asg (.nm 5) (.fn 25 [(.var 2), (.var 3)]),
      .asg (.nm 6) (.fn 33 [(.var 5)]),
      .iff (.ro (.no (.isi (.var 6) [(.bt "bool")])) (.cmp .NotEq (.var 6) (.fn 35 [(.var 5)]))) [
        .ret (.c (.bl false))] []],
    .asg (.nm 7) (.fn 32 [(.var 2)]),
    .iff (.cmp .Eq (.fn 0 [(.var 2), (.c (.int 2))]) (.c (.int 0))) [
      .asg (.nm 7) (.tp [(.ix (.var 3) (.c (.int 0))), (.ix (.var 7) (.c (.int 1)))])] [],
    .for_ (.tp [(.nm 8), (.nm 9)]) (.e (.ls [(.tp [(.var 3), (.var 7)]), (.tp [(.var 7), (.var 3)])])) [
      .asg (.nm 6) (.fn 34 [(.var 8), (.var 9)]),
      .iff (.ro (.no (.isi (.var 6) [(.bt "bool")])) (.cmp .NotEq (.var 6) (.fn 37 [(.var 8), (.var 9)]))) [
        .ret (.c (.bl false))] []]],
  .ret (.c (.bl true))]
end Sd
namespace Sd
open PySem
/-- law_near, number 38 -/
def z_law_near : List Z := [
  .ret (.tp [(.fn 4 [(.op .Sub (.fn 0 [(.var 0), (.c (.int 25))]) (.c (.int 12))), (.op .Add (.c (.int 1)) (.fn 0 [(.var 0), (.c (.int 6))]))]), (.fn 4 [(.op .Sub (.fn 0 [(.var 0), (.c (.int 25))]) (.c (.int 12))), (.op .Add (.c (.int 1)) (.fn 0 [(.var 0), (.c (.int 6))]))])])]
/-- law_on, number 39 -/
def z_law_on : List Z := [
  .asg (.nm 3) (.ls []),
  .for_ (.nm 4) (.rng1 (.c (.int 2))) [
    .asg (.tp [(.tp [(.nm 5), (.nm 6)]), (.tp [(.nm 7), (.nm 8)]), (.tp [(.nm 9), (.nm 10)])]) (.tp [(.ix (.var 0) (.var 4)), (.ix (.var 1) (.var 4)), (.var 2)]),
    .ex (.me .append (.var 3) [(.fn 4 [(.op .Add (.op .Mult (.op .Mult (.var 5) (.var 8)) (.var 10)) (.op .Mult (.var 9) (.op .Sub (.op .Mult (.var 7) (.var 6)) (.op .Mult (.var 5) (.var 8))))), (.op .Mult (.op .Mult (.var 6) (.var 8)) (.var 10))])])],
  .ret (.tp [(.ix (.var 3) (.c (.int 0))), (.ix (.var 3) (.c (.int 1)))])]
/-- law_three, number 40 -/
def z_law_three : List Z := [
  .asg (.nm 1) (.fn 0 [(.var 0), (.c (.int 4))]),
  .iff (.cmp .Eq (.var 1) (.c (.int 0))) [
    .ret (.ls [(.fn 32 [(.var 0)]), (.fn 32 [(.var 0)]), (.fn 32 [(.var 0)])])] [],
  .asg (.nm 2) (.ls [(.fn 38 [(.var 0)]), (.fn 38 [(.var 0)]), (.fn 38 [(.var 0)])]),
  .iff (.cmp .Eq (.var 1) (.c (.int 1))) [
    .asg (.nm 3) (.fn 4 [(.op .Sub (.fn 0 [(.var 0), (.c (.int 9))]) (.c (.int 2))), (.op .Add (.c (.int 1)) (.fn 0 [(.var 0), (.c (.int 4))]))]),
    .asg (.ix (.var 2) (.c (.int 2))) (.fn 39 [(.ix (.var 2) (.c (.int 0))), (.ix (.var 2) (.c (.int 1))), (.var 3)])] [],
  .iff (.an (.cmp .Eq (.var 1) (.c (.int 2))) (.cmp .Eq (.fn 0 [(.var 0), (.c (.int 3))]) (.c (.int 0)))) [
    .asg (.ix (.var 2) (.fn 0 [(.var 0), (.c (.int 2))])) (.ix (.var 2) (.c (.int 2)))] [],
  .ret (.var 2)]
/-- law_less, number 41 -/
def z_law_less : List Z := [
  .ret (.tp [(.op .Sub (.op .Mult (.ix (.var 0) (.c (.int 0))) (.ix (.var 1) (.c (.int 1)))) (.op .Mult (.ix (.var 1) (.c (.int 0))) (.ix (.var 0) (.c (.int 1))))), (.op .Mult (.ix (.var 0) (.c (.int 1))) (.ix (.var 1) (.c (.int 1))))])]
/-- law_twice, number 42 -/
def z_law_twice : List Z := [
  .asg (.tp [(.nm 3), (.nm 4)]) (.fn 41 [(.ix (.var 1) (.c (.int 0))), (.ix (.var 0) (.c (.int 0)))]),
  .asg (.tp [(.nm 5), (.nm 6)]) (.fn 41 [(.ix (.var 1) (.c (.int 1))), (.ix (.var 0) (.c (.int 1)))]),
  .asg (.tp [(.nm 7), (.nm 8)]) (.fn 41 [(.ix (.var 2) (.c (.int 0))), (.ix (.var 0) (.c (.int 0)))]),
  .asg (.tp [(.nm 9), (.nm 10)]) (.fn 41 [(.ix (.var 2) (.c (.int 1))), (.ix (.var 0) (.c (.int 1)))]),
  .asg (.nm 11) (.op .Sub (.op .Mult (.op .Mult (.op .Mult (.var 3) (.var 9)) (.var 8)) (.var 6)) (.op .Mult (.op .Mult (.op .Mult (.var 7) (.var 5)) (.var 4)) (.var 10))),
  .ret (.tp [(.var 11), (.op .Mult (.op .Mult (.op .Mult (.var 4) (.var 10)) (.var 8)) (.var 6))])]
/-- how_far, number 43 -/
def z_how_far : List Z := [
  .asg (.nm 2) (.tp [(.op .Sub (.op .Mult (.ix (.ix (.var 1) (.c (.int 0))) (.c (.int 0))) (.ix (.ix (.var 0) (.c (.int 0))) (.c (.int 1)))) (.op .Mult (.ix (.ix (.var 0) (.c (.int 0))) (.c (.int 0))) (.ix (.ix (.var 1) (.c (.int 0))) (.c (.int 1))))), (.op .Mult (.ix (.ix (.var 1) (.c (.int 0))) (.c (.int 1))) (.ix (.ix (.var 0) (.c (.int 0))) (.c (.int 1))))]),
  .asg (.nm 3) (.tp [(.op .Sub (.op .Mult (.ix (.ix (.var 1) (.c (.int 1))) (.c (.int 0))) (.ix (.ix (.var 0) (.c (.int 1))) (.c (.int 1)))) (.op .Mult (.ix (.ix (.var 0) (.c (.int 1))) (.c (.int 0))) (.ix (.ix (.var 1) (.c (.int 1))) (.c (.int 1))))), (.op .Mult (.ix (.ix (.var 1) (.c (.int 1))) (.c (.int 1))) (.ix (.ix (.var 0) (.c (.int 1))) (.c (.int 1))))]),
  .ret (.tp [(.var 2), (.var 3)])]
/-- twice_parts, number 44 -/
def z_twice_parts : List Z := [
  .asg (.tp [(.tp [(.nm 3), (.nm 4)]), (.tp [(.nm 5), (.nm 6)])]) (.fn 43 [(.var 0), (.var 1)]),
  .asg (.tp [(.tp [(.nm 7), (.nm 8)]), (.tp [(.nm 9), (.nm 10)])]) (.fn 43 [(.var 0), (.var 2)]),
  .ret (.tp [(.op .Sub (.op .Mult (.op .Mult (.op .Mult (.var 3) (.var 9)) (.var 8)) (.var 6)) (.op .Mult (.op .Mult (.op .Mult (.var 7) (.var 5)) (.var 4)) (.var 10))), (.op .Mult (.op .Mult (.op .Mult (.var 4) (.var 10)) (.var 8)) (.var 6))])]
/-- twice_of, number 45 -/
def z_twice_of : List Z := [
  .asg (.tp [(.nm 3), (.nm 4)]) (.fn 44 [(.var 0), (.var 1), (.var 2)]),
  .ret (.fn 3 [(.var 3), (.var 4)])]
/-- turn_of, number 46 -/
def z_turn_of : List Z := [
  .asg (.nm 3) (.ix (.fn 44 [(.var 0), (.var 1), (.var 2)]) (.c (.int 0))),
  .ret (.op .Sub (.bi .int [(.cmp .Gt (.var 3) (.c (.int 0)))]) (.bi .int [(.cmp .Lt (.var 3) (.c (.int 0)))]))]
/-- is_amid, number 47 -/
def z_is_amid : List Z := [
  .iff (.cmp .NotEq (.fn 46 [(.var 1), (.var 2), (.var 0)]) (.c (.int 0))) [
    .ret (.c (.bl false))] [],
  .ret (.ro (.an (.fn 34 [(.var 1), (.var 0)]) (.fn 34 [(.var 0), (.var 2)])) (.an (.fn 34 [(.var 2), (.var 0)]) (.fn 34 [(.var 0), (.var 1)])))]
/-- on_way, number 48 -/
def z_on_way : List Z := [
  .ret (.tp [(.fn 14 [(.ix (.var 0) (.c (.int 0))), (.fn 16 [(.var 2), (.fn 15 [(.ix (.var 1) (.c (.int 0))), (.ix (.var 0) (.c (.int 0)))])])]), (.fn 14 [(.ix (.var 0) (.c (.int 1))), (.fn 16 [(.var 2), (.fn 15 [(.ix (.var 1) (.c (.int 1))), (.ix (.var 0) (.c (.int 1)))])])])])]
/-- law_between, number 49 -/
def z_law_between : List Z := [
  .asg (.nm 3) (.an (.cmp .LtE (.op .Mult (.ix (.var 0) (.c (.int 0))) (.ix (.var 1) (.c (.int 1)))) (.op .Mult (.ix (.var 1) (.c (.int 0))) (.ix (.var 0) (.c (.int 1))))) (.cmp .LtE (.op .Mult (.ix (.var 1) (.c (.int 0))) (.ix (.var 2) (.c (.int 1)))) (.op .Mult (.ix (.var 2) (.c (.int 0))) (.ix (.var 1) (.c (.int 1)))))),
  .ret (.ro (.var 3) (.an (.cmp .LtE (.op .Mult (.ix (.var 1) (.c (.int 0))) (.ix (.var 0) (.c (.int 1)))) (.op .Mult (.ix (.var 0) (.c (.int 0))) (.ix (.var 1) (.c (.int 1))))) (.cmp .LtE (.op .Mult (.ix (.var 2) (.c (.int 0))) (.ix (.var 1) (.c (.int 1)))) (.op .Mult (.ix (.var 1) (.c (.int 0))) (.ix (.var 2) (.c (.int 1)))))))]
/-- law_turn, number 50 -/
def z_law_turn : List Z := [
  .asg (.nm 3) (.ix (.fn 42 [(.var 0), (.var 1), (.var 2)]) (.c (.int 0))),
  .ret (.op .Sub (.bi .int [(.cmp .Gt (.var 3) (.c (.int 0)))]) (.bi .int [(.cmp .Lt (.var 3) (.c (.int 0)))]))]
/-- law_amid, number 51 -/
def z_law_amid : List Z := [
  .iff (.ro (.cmp .Eq (.var 0) (.var 1)) (.ro (.cmp .Eq (.var 0) (.var 2)) (.cmp .NotEq (.fn 50 [(.var 1), (.var 2), (.var 0)]) (.c (.int 0))))) [
    .ret (.c (.bl false))] [],
  .ret (.an (.fn 49 [(.ix (.var 1) (.c (.int 0))), (.ix (.var 0) (.c (.int 0))), (.ix (.var 2) (.c (.int 0)))]) (.fn 49 [(.ix (.var 1) (.c (.int 1))), (.ix (.var 0) (.c (.int 1))), (.ix (.var 2) (.c (.int 1)))]))]
/-- law_7, number 9 -/
def z_law_7 : List Z := [
  .for_ (.nm 1) (.e (.op .Add (.ls [(.c (.int 0))]) (.sl (.var 0) (.c .non) (.aI (.c (.int 30)))))) [
    .asg (.nm 2) (.ls [(.var 1), (.c (.int 0))]),
    .asg (.nm 3) (.fn 40 [(.var 2)]),
    .for_ (.tp [(.nm 4), (.nm 5), (.nm 6)]) (.e (.ls [(.tp [(.c (.int 0)), (.c (.int 1)), (.c (.int 2))]), (.tp [(.c (.int 1)), (.c (.int 2)), (.c (.int 0))]), (.tp [(.c (.int 2)), (.c (.int 0)), (.c (.int 1))]), (.tp [(.c (.int 1)), (.c (.int 0)), (.c (.int 2))]), (.tp [(.c (.int 0)), (.c (.int 2)), (.c (.int 1))]), (.tp [(.c (.int 2)), (.c (.int 1)), (.c (.int 0))])])) [
      .asg (.tp [(.nm 7), (.nm 8), (.nm 9)]) (.tp [(.ix (.var 3) (.var 4)), (.ix (.var 3) (.var 5)), (.ix (.var 3) (.var 6))]),
      .asg (.tp [(.nm 10), (.nm 11)]) (.fn 42 [(.var 7), (.var 8), (.var 9)]),
      .asg (.nm 12) (.fn 45 [(.var 7), (.var 8), (.var 9)]),
      .asg (.nm 13) (.fn 46 [(.var 7), (.var 8), (.var 9)]),
      .iff (.ro (.no (.fn 8 [(.var 12)])) (.cmp .NotEq (.op .Mult (.ix (.var 12) (.c (.int 0))) (.var 11)) (.op .Mult (.var 10) (.ix (.var 12) (.c (.int 1)))))) [
        .ret (.c (.bl false))] [],
      .iff (.ro (.no (.fn 5 [(.var 13)])) (.cmp .NotEq (.var 13) (.op .Sub (.bi .int [(.cmp .Gt (.var 10) (.c (.int 0)))]) (.bi .int [(.cmp .Lt (.var 10) (.c (.int 0)))])))) [
        .ret (.c (.bl false))] [],
      .asg (.nm 14) (.fn 47 [(.var 9), (.var 7), (.var 8)]),
      .iff (.ro (.no (.isi (.var 14) [(.bt "bool")])) (.cmp .NotEq (.var 14) (.fn 51 [(.var 9), (.var 7), (.var 8)]))) [
        .ret (.c (.bl false))] []],
    .asg (.nm 15) (.fn 4 [(.op .Sub (.fn 0 [(.var 2), (.c (.int 41))]) (.c (.int 20))), (.op .Add (.c (.int 1)) (.fn 0 [(.var 2), (.c (.int 9))]))]),
    .iff (.cmp .Eq (.fn 0 [(.var 2), (.c (.int 4))]) (.c (.int 1))) [
      .asg (.nm 15) (.fn 10 [(.var 2)])] [],
    .for_ (.tp [(.nm 7), (.nm 8)]) (.e (.ls [(.tp [(.ix (.var 3) (.c (.int 0))), (.ix (.var 3) (.c (.int 1)))]), (.tp [(.ix (.var 3) (.c (.int 1))), (.ix (.var 3) (.c (.int 2)))])])) [
      .iff (.cmp .NotEq (.fn 48 [(.var 7), (.var 8), (.var 15)]) (.fn 39 [(.var 7), (.var 8), (.var 15)])) [
        .ret (.c (.bl false))] []]],
  .ret (.c (.bl true))]
end Sd
namespace Sd
open PySem
/-- law_far, number 52 -/
def z_law_far : List Z := [
  .asg (.nm 1) (.ls []),
  .for_ (.nm 2) (.rng1 (.c (.int 2))) [
    .asg (.nm 3) (.op .Add (.op .Sub (.fn 0 [(.var 0), (.op .Sub (.op .Mult (.c (.int 2)) (.op .Pow (.c (.int 10)) (.c (.int 7)))) (.c (.int 1)))]) (.op .Pow (.c (.int 10)) (.c (.int 7)))) (.c (.int 1))),
    .ex (.me .append (.var 1) [(.fn 4 [(.var 3), (.op .Add (.c (.int 1)) (.fn 0 [(.var 0), (.ix (.ls [(.c (.int 9)), (.op .Pow (.c (.int 10)) (.c (.int 7)))]) (.fn 0 [(.var 0), (.c (.int 2))]))]))])])],
  .ret (.tp [(.ix (.var 1) (.c (.int 0))), (.ix (.var 1) (.c (.int 1)))])]
/-- law_moved, number 53 -/
def z_law_moved : List Z := [
  .ret (.tp [(.fn 14 [(.ix (.var 0) (.c (.int 0))), (.ix (.var 1) (.c (.int 0)))]), (.fn 14 [(.ix (.var 0) (.c (.int 1))), (.ix (.var 1) (.c (.int 1)))])])]
/-- law_8, number 9 -/
def z_law_8 : List Z := [
  .for_ (.nm 1) (.e (.op .Add (.ls [(.c (.int 0))]) (.sl (.var 0) (.c .non) (.aI (.c (.int 30)))))) [
    .asg (.nm 2) (.ls [(.var 1), (.c (.int 0))]),
    .iff (.cmp .Eq (.fn 0 [(.var 2), (.c (.int 2))]) (.c (.int 0))) [
      .asg (.tp [(.nm 3), (.nm 4), (.nm 5), (.nm 6), (.nm 7)]) (.lc (.fn 38 [(.var 2)]) (.nm 8) (.rng1 (.c (.int 5))) (.c (.bl true)) [8])] [
      .asg (.tp [(.nm 3), (.nm 4), (.nm 5), (.nm 6), (.nm 7)]) (.lc (.fn 52 [(.var 2)]) (.nm 8) (.rng1 (.c (.int 5))) (.c (.bl true)) [8])],
    .asg (.nm 9) (.fn 45 [(.var 3), (.var 4), (.var 5)]),
    .iff (.cmp .NotEq (.fn 18 [(.ls [(.fn 45 [(.var 6), (.var 3), (.var 4)]), (.fn 45 [(.var 6), (.var 4), (.var 5)]), (.fn 45 [(.var 6), (.var 5), (.var 3)])])]) (.var 9)) [
      .ret (.c (.bl false))] [],
    .iff (.cmp .NotEq (.fn 45 [(.fn 53 [(.var 3), (.var 7)]), (.fn 53 [(.var 4), (.var 7)]), (.fn 53 [(.var 5), (.var 7)])]) (.var 9)) [
      .ret (.c (.bl false))] [],
    .asg (.nm 10) (.fn 4 [(.op .Sub (.fn 0 [(.var 2), (.c (.int 41))]) (.c (.int 20))), (.op .Add (.c (.int 1)) (.fn 0 [(.var 2), (.c (.int 9))]))]),
    .asg (.nm 11) (.tp [(.fn 16 [(.var 10), (.fn 15 [(.ix (.var 4) (.c (.int 0))), (.ix (.var 3) (.c (.int 0)))])]), (.fn 16 [(.var 10), (.fn 15 [(.ix (.var 4) (.c (.int 1))), (.ix (.var 3) (.c (.int 1)))])])]),
    .iff (.ro (.cmp .NotEq (.fn 45 [(.var 3), (.var 4), (.fn 53 [(.var 5), (.var 11)])]) (.var 9)) (.cmp .NotEq (.fn 48 [(.var 3), (.var 4), (.var 10)]) (.fn 53 [(.var 3), (.var 11)]))) [
      .ret (.c (.bl false))] [],
    .iff (.ro (.cmp .NotEq (.fn 45 [(.var 4), (.var 3), (.var 5)]) (.tp [(.op .Sub (.c (.int 0)) (.ix (.var 9) (.c (.int 0)))), (.ix (.var 9) (.c (.int 1)))])) (.cmp .NotEq (.fn 46 [(.var 4), (.var 3), (.var 5)]) (.op .Sub (.c (.int 0)) (.fn 46 [(.var 3), (.var 4), (.var 5)])))) [
      .ret (.c (.bl false))] []],
  .ret (.c (.bl true))]
end Sd
namespace Sd
open PySem
/-- law_part_2, number 30 -/
def z_law_part_2 : List Z := [
  .iff (.cmp .Eq (.fn 0 [(.var 0), (.c (.int 3))]) (.c (.int 0))) [
    .ret (.fn 10 [(.var 0)])] [],
  .asg (.tp [(.nm 3), (.nm 4)]) (.tp [(.op .Sub (.fn 0 [(.var 0), (.c (.int 41))]) (.c (.int 20))), (.op .Add (.c (.int 1)) (.fn 0 [(.var 0), (.c (.int 9))]))]),
  .for_ (.nm 5) (.rng1 (.var 2)) [
    .asg (.nm 3) (.op .Mult (.var 3) (.var 1))],
  .for_ (.nm 5) (.rng1 (.op .Sub (.c (.int 0)) (.var 2))) [
    .asg (.nm 4) (.op .Mult (.var 4) (.var 1))],
  .ret (.fn 4 [(.var 3), (.var 4)])]
/-- colour_of, number 54 -/
def z_colour_of : List Z := [
  .ex (.fn 26 [(.var 2)]),
  .asg (.tp [(.nm 3), (.nm 4)]) (.tp [(.fn 28 [(.var 0), (.var 2)]), (.fn 28 [(.var 1), (.var 2)])]),
  .iff (.an (.ro (.cmp .Is (.var 3) (.c .non)) (.cmp .Gt (.var 3) (.c (.int 0)))) (.ro (.cmp .Is (.var 4) (.c .non)) (.cmp .Gt (.var 4) (.c (.int 0))))) [
    .ret (.c (.int 0))] [],
  .iff (.an (.cmp .IsNot (.var 3) (.c .non)) (.ro (.cmp .Is (.var 4) (.c .non)) (.cmp .LtE (.var 3) (.var 4)))) [
    .ret (.c (.int 1))] [],
  .ret (.c (.int 2))]
/-- law_colour, number 55 -/
def z_law_colour : List Z := [
  .asg (.nm 3) (.ls []),
  .for_ (.nm 4) (.e (.tp [(.var 0), (.var 1)])) [
    .ex (.me .append (.var 3) [(.op .Pow (.c (.int 10)) (.c (.int 9)))]),
    .iff (.cmp .NotEq (.ix (.var 4) (.c (.int 0))) (.c (.int 0))) [
      .asg (.ix (.var 3) (.neg (.c (.int 1)))) (.fn 29 [(.ix (.var 4) (.c (.int 0))), (.ix (.var 4) (.c (.int 1))), (.var 2)])] []],
  .iff (.cmp .Gt (.bi .min1 [(.var 3)]) (.c (.int 0))) [
    .ret (.c (.int 0))] [],
  .ret (.op .Add (.c (.int 1)) (.bi .int [(.cmp .Gt (.ix (.var 3) (.c (.int 0))) (.ix (.var 3) (.c (.int 1))))]))]
/-- law_refused_4, number 7 -/
def z_law_refused_4 : List Z := [
  .asg (.nm 3) (.c .non),
  .tr [
    .ex (.fn 54 [(.var 0), (.var 1), (.var 2)])] 0 4 3,
  .iff (.ro (.no (.isi (.var 3) [(.cl 2)])) (.isi (.var 3) [(.cl 6), (.cl 1)])) [
    .ret (.c (.bl false))] [],
  .ret (.isi (.var 3) [(.bt "ValueError")])]
/-- law_9, number 9 -/
def z_law_9 : List Z := [
  .asg (.nm 1) (.fn 24 []),
  .for_ (.nm 2) (.e (.op .Add (.ls [(.c (.int 0))]) (.sl (.var 0) (.c .non) (.aI (.c (.int 30)))))) [
    .asg (.nm 3) (.ls [(.var 2), (.c (.int 0))]),
    .asg (.nm 4) (.ix (.var 1) (.fn 0 [(.var 3), (.c (.int 25))])),
    .asg (.nm 5) (.op .Sub (.fn 0 [(.var 3), (.c (.int 17))]) (.c (.int 8))),
    .asg (.nm 6) (.fn 30 [(.var 3), (.var 4), (.var 5)]),
    .asg (.nm 7) (.fn 30 [(.var 3), (.var 4), (.ix (.ls [(.var 5), (.op .Sub (.fn 0 [(.var 3), (.c (.int 17))]) (.c (.int 8)))]) (.fn 0 [(.var 3), (.c (.int 2))]))]),
    .for_ (.tp [(.nm 8), (.nm 9)]) (.e (.ls [(.tp [(.var 6), (.var 7)]), (.tp [(.var 7), (.var 6)]), (.tp [(.var 6), (.var 6)])])) [
      .asg (.nm 10) (.fn 54 [(.var 8), (.var 9), (.var 4)]),
      .iff (.ro (.no (.fn 5 [(.var 10)])) (.cmp .NotEq (.var 10) (.fn 55 [(.var 8), (.var 9), (.var 4)]))) [
        .ret (.c (.bl false))] []],
    .asg (.nm 11) (.ix (.ls [(.op .Sub (.fn 0 [(.var 3), (.c (.int 114))]) (.c (.int 3))), (.fn 0 [(.var 3), (.op .Pow (.c (.int 10)) (.c (.int 30)))]), (.c (.bl true)), (.c .non), (.bi .str [(.var 4)]), (.ls [(.var 4)])]) (.fn 0 [(.var 3), (.c (.int 6))])),
    .iff (.an (.fn 5 [(.var 11)]) (.cmp .In (.var 11) (.var 1))) [
      .iff (.cmp .NotEq (.fn 54 [(.var 6), (.var 7), (.var 11)]) (.fn 55 [(.var 6), (.var 7), (.var 11)])) [
        .ret (.c (.bl false))] []] [
      .iff (.no (.fn 7 [(.var 6), (.var 7), (.var 11)])) [
        .ret (.c (.bl false))] []]],
  .ret (.c (.bl true))]
end Sd
namespace Sd
open PySem
/-- law_frame, number 56 -/
def z_law_frame : List Z := [
  .for_ (.nm 1) (.rng1 (.c (.int 3))) [
    .asg (.nm 2) (.ls [(.fn 38 [(.var 0)]), (.fn 38 [(.var 0)]), (.fn 38 [(.var 0)])]),
    .iff (.cmp .Eq (.fn 0 [(.var 0), (.c (.int 4))]) (.c (.int 1))) [
      .asg (.nm 2) (.ls [(.fn 32 [(.var 0)]), (.fn 32 [(.var 0)]), (.fn 32 [(.var 0)])])] [],
    .iff (.cmp .NotEq (.fn 50 [(.ix (.var 2) (.c (.int 0))), (.ix (.var 2) (.c (.int 1))), (.ix (.var 2) (.c (.int 2)))]) (.c (.int 0))) [
      .ret (.bi .tuple [(.var 2)])] []],
  .ret (.tp [(.tp [(.tp [(.c (.int 0)), (.c (.int 1))]), (.tp [(.c (.int 0)), (.c (.int 1))])]), (.tp [(.tp [(.c (.int 1)), (.c (.int 1))]), (.tp [(.c (.int 0)), (.c (.int 1))])]), (.tp [(.tp [(.c (.int 0)), (.c (.int 1))]), (.tp [(.c (.int 1)), (.c (.int 1))])])])]
/-- look_frame, number 57 -/
def z_look_frame : List Z := [
  .iff (.cmp .Eq (.fn 46 [(.ix (.var 0) (.c (.int 0))), (.ix (.var 0) (.c (.int 1))), (.ix (.var 0) (.c (.int 2)))]) (.c (.int 0))) [
    .rz 6] []]
/-- in_frame, number 58 -/
def z_in_frame : List Z := [
  .ex (.fn 57 [(.var 0)]),
  .asg (.nm 2) (.fn 45 [(.ix (.var 0) (.c (.int 0))), (.ix (.var 0) (.c (.int 1))), (.ix (.var 0) (.c (.int 2)))]),
  .ret (.tp [(.fn 11 [(.fn 45 [(.ix (.var 0) (.c (.int 0))), (.var 1), (.ix (.var 0) (.c (.int 2)))]), (.var 2)]), (.fn 11 [(.fn 45 [(.ix (.var 0) (.c (.int 0))), (.ix (.var 0) (.c (.int 1))), (.var 1)]), (.var 2)])])]
/-- colour_by, number 59 -/
def z_colour_by : List Z := [
  .asg (.tp [(.nm 3), (.nm 4)]) (.fn 58 [(.var 0), (.var 2)]),
  .ret (.fn 54 [(.var 3), (.var 4), (.var 1)])]
/-- law_asked, number 60 -/
def z_law_asked : List Z := [
  .asg (.nm 3) (.c .non),
  .tr2 [
    .asg (.nm 4) (.fn 59 [(.var 0), (.var 1), (.var 2)])] 0 5 3 4,
  .iff (.cmp .Is (.var 3) (.c .non)) [
    .ret (.ite (.fn 5 [(.var 4)]) (.tp [(.c (.str "told")), (.var 4)]) (.tp [(.c (.str "other")), (.var 4)]))] [],
  .iff (.ro (.no (.isi (.var 3) [(.bt "ValueError")])) (.isi (.var 3) [(.cl 1)])) [
    .ret (.tp [(.c (.str "other")), (.c .non)])] [],
  .asg (.nm 6) (.op .Add (.bi .int [(.isi (.var 3) [(.cl 6)])]) (.op .Mult (.c (.int 2)) (.bi .int [(.isi (.var 3) [(.cl 2)])]))),
  .ret (.tp [(.ix (.ls [(.c (.str "other")), (.c (.str "frame")), (.c (.str "prime")), (.c (.str "both"))]) (.var 6)), (.c .non)])]
/-- law_by_prime, number 61 -/
def z_law_by_prime : List Z := [
  .asg (.nm 2) (.ls []),
  .for_ (.nm 3) (.rng1 (.c (.int 2))) [
    .asg (.tp [(.nm 4), (.nm 5)]) (.tp [(.op .Sub (.fn 0 [(.var 0), (.c (.int 25))]) (.c (.int 12))), (.op .Add (.c (.int 1)) (.fn 0 [(.var 0), (.c (.int 6))]))]),
    .asg (.nm 6) (.op .Sub (.fn 0 [(.var 0), (.c (.int 7))]) (.c (.int 3))),
    .for_ (.nm 7) (.rng1 (.var 6)) [
      .asg (.nm 4) (.op .Mult (.var 4) (.var 1))],
    .for_ (.nm 7) (.rng1 (.op .Sub (.c (.int 0)) (.var 6))) [
      .asg (.nm 5) (.op .Mult (.var 5) (.var 1))],
    .ex (.me .append (.var 2) [(.fn 4 [(.var 4), (.var 5)])])],
  .ret (.tp [(.ix (.var 2) (.c (.int 0))), (.ix (.var 2) (.c (.int 1)))])]
/-- law_in, number 62 -/
def z_law_in : List Z := [
  .asg (.tp [(.nm 2), (.nm 3)]) (.fn 42 [(.ix (.var 0) (.c (.int 0))), (.ix (.var 0) (.c (.int 1))), (.ix (.var 0) (.c (.int 2)))]),
  .asg (.tp [(.nm 4), (.nm 5)]) (.fn 42 [(.ix (.var 0) (.c (.int 0))), (.var 1), (.ix (.var 0) (.c (.int 2)))]),
  .asg (.tp [(.nm 6), (.nm 7)]) (.fn 42 [(.ix (.var 0) (.c (.int 0))), (.ix (.var 0) (.c (.int 1))), (.var 1)]),
  .ret (.tp [(.fn 4 [(.op .Mult (.var 4) (.var 3)), (.op .Mult (.var 5) (.var 2))]), (.fn 4 [(.op .Mult (.var 6) (.var 3)), (.op .Mult (.var 7) (.var 2))])])]
/-- law_on_line, number 63 -/
def z_law_on_line : List Z := [
  .asg (.tp [(.tp [(.nm 2), (.nm 3)]), (.tp [(.nm 4), (.nm 5)])]) (.tp [(.ix (.var 1) (.c (.int 0))), (.ix (.var 1) (.c (.int 1)))]),
  .asg (.nm 6) (.ix (.ls [(.c (.int 0)), (.c (.int 2)), (.c (.int 3)), (.neg (.c (.int 1)))]) (.fn 0 [(.var 0), (.c (.int 4))])),
  .iff (.cmp .Gt (.bi .max1 [(.lc (.op .Add (.bi .abs [(.ix (.var 7) (.c (.int 0)))]) (.ix (.var 7) (.c (.int 1)))) (.nm 7) (.e (.tp [(.var 2), (.var 3), (.var 4), (.var 5)])) (.c (.bl true)) [7])]) (.op .Pow (.c (.int 10)) (.c (.int 8)))) [
    .ret (.ix (.var 1) (.c (.int 0)))] [],
  .asg (.nm 8) (.ls []),
  .for_ (.tp [(.nm 7), (.nm 9)]) (.e (.tp [(.tp [(.var 2), (.var 4)]), (.tp [(.var 3), (.var 5)])])) [
    .asg (.nm 10) (.op .Add (.op .Mult (.op .Mult (.ix (.var 7) (.c (.int 0))) (.ix (.var 9) (.c (.int 1)))) (.op .Sub (.c (.int 1)) (.var 6))) (.op .Mult (.op .Mult (.ix (.var 9) (.c (.int 0))) (.ix (.var 7) (.c (.int 1)))) (.var 6))),
    .ex (.me .append (.var 8) [(.fn 4 [(.var 10), (.op .Mult (.ix (.var 7) (.c (.int 1))) (.ix (.var 9) (.c (.int 1))))])])],
  .ret (.tp [(.ix (.var 8) (.c (.int 0))), (.ix (.var 8) (.c (.int 1)))])]
/-- law_above, number 64 -/
def z_law_above : List Z := [
  .iff (.cmp .Eq (.ix (.var 0) (.c (.int 0))) (.c (.int 0))) [
    .ret (.op .Pow (.c (.int 10)) (.c (.int 9)))] [],
  .ret (.fn 29 [(.ix (.var 0) (.c (.int 0))), (.ix (.var 0) (.c (.int 1))), (.var 1)])]
/-- law_colour_2, number 55 -/
def z_law_colour_2 : List Z := [
  .asg (.tp [(.nm 3), (.nm 4)]) (.tp [(.fn 64 [(.var 0), (.var 2)]), (.fn 64 [(.var 1), (.var 2)])]),
  .iff (.an (.cmp .Gt (.var 3) (.c (.int 0))) (.cmp .Gt (.var 4) (.c (.int 0)))) [
    .ret (.c (.int 0))] [],
  .ret (.op .Add (.c (.int 1)) (.bi .int [(.cmp .Gt (.var 3) (.var 4))]))]
/-- law_10, number 9 -/
def z_law_10 : List Z := [
  .asg (.nm 1) (.fn 24 []),
  .for_ (.nm 2) (.e (.op .Add (.ls [(.c (.int 0))]) (.sl (.var 0) (.c .non) (.aI (.c (.int 20)))))) [
    .asg (.nm 3) (.ls [(.var 2), (.c (.int 0))]),
    .asg (.nm 4) (.fn 56 [(.var 3)]),
    .asg (.nm 5) (.ix (.var 1) (.fn 0 [(.var 3), (.c (.int 25))])),
    .asg (.nm 6) (.fn 0 [(.var 3), (.c (.int 8))]),
    .iff (.cmp .In (.var 6) (.tp [(.c (.int 0)), (.c (.int 1))])) [
      .asg (.nm 4) (.ix (.ls [(.tp [(.ix (.var 4) (.c (.int 0))), (.ix (.var 4) (.c (.int 1))), (.fn 63 [(.var 3), (.var 4)])]), (.tp [(.ix (.var 4) (.c (.int 2))), (.ix (.var 4) (.c (.int 2))), (.ix (.var 4) (.c (.int 2)))])]) (.var 6))] [],
    .iff (.cmp .In (.var 6) (.tp [(.c (.int 1)), (.c (.int 2))])) [
      .asg (.nm 5) (.ix (.ls [(.c (.int 0)), (.c (.int 1)), (.neg (.c (.int 2))), (.c (.int 4)), (.c (.int 91)), (.c (.int 101)), (.c (.bl true)), (.c .non), (.c (.str "2")), (.ls [(.c (.int 2))])]) (.fn 0 [(.var 3), (.c (.int 10))]))] [],
    .for_ (.nm 7) (.rng1 (.c (.int 3))) [
      .asg (.nm 8) (.ix (.ls [(.fn 38 [(.var 3)]), (.fn 32 [(.var 3)]), (.ix (.var 4) (.fn 0 [(.var 3), (.c (.int 3))])), (.fn 61 [(.var 3), (.ix (.ls [(.c (.int 2)), (.var 5)]) (.bi .int [(.cmp .Gt (.var 6) (.c (.int 2)))]))])]) (.fn 0 [(.var 3), (.c (.int 4))])),
      .asg (.nm 9) (.tp [(.c (.str "prime")), (.c .non)]),
      .iff (.cmp .Lt (.var 6) (.c (.int 2))) [
        .asg (.nm 9) (.tp [(.c (.str "frame")), (.c .non)])] [
        .iff (.cmp .Gt (.var 6) (.c (.int 2))) [
          .asg (.tp [(.nm 10), (.nm 11)]) (.fn 62 [(.var 4), (.var 8)]),
          .asg (.nm 9) (.tp [(.c (.str "told")), (.fn 55 [(.var 10), (.var 11), (.var 5)])])] []],
      .iff (.cmp .NotEq (.fn 60 [(.var 4), (.var 5), (.var 8)]) (.var 9)) [
        .ret (.c (.bl false))] []]],
  .ret (.c (.bl true))]
end Sd
namespace Sd
open PySem
/-- with_moved, number 65 -/
def z_with_moved : List Z := [
  .asg (.nm 3) (.ls []),
  .for_ (.nm 4) (.e (.var 0)) [
    .asg (.tp [(.nm 5), (.nm 6), (.nm 7)]) (.lc (.ite (.cmp .Eq (.var 8) (.var 1)) (.var 2) (.var 8)) (.nm 8) (.e (.var 4)) (.c (.bl true)) [8]),
    .ex (.me .append (.var 3) [(.tp [(.var 5), (.var 6), (.var 7)])])],
  .ret (.var 3)]
/-- law_take_3, number 0 -/
def z_law_take_3 : List Z := [
  .asg (.ix (.var 0) (.c (.int 1))) (.op .Add (.ix (.var 0) (.c (.int 1))) (.c (.int 1))),
  .iff (.cmp .GtE (.ix (.var 0) (.c (.int 0))) (.op .Pow (.c (.int 10)) (.c (.int 18)))) [
    .asg (.nm 2) (.op .Sub (.op .FloorDiv (.ix (.var 0) (.c (.int 0))) (.op .Pow (.c (.int 10)) (.c (.int 18)))) (.c (.int 1))),
    .asg (.ix (.var 0) (.c (.int 0))) (.op .Add (.op .Mult (.op .Mult (.op .Add (.op .FloorDiv (.var 2) (.var 1)) (.c (.int 1))) (.op .Pow (.c (.int 10)) (.c (.int 18)))) (.bi .int [(.cmp .GtE (.var 2) (.var 1))])) (.op .Mod (.ix (.var 0) (.c (.int 0))) (.op .Pow (.c (.int 10)) (.c (.int 18))))),
    .ret (.op .Mod (.var 2) (.var 1))] [],
  .asg (.nm 3) (.op .Mod (.op .Add (.op .Add (.op .Mult (.op .Mod (.ix (.var 0) (.c (.int 0))) (.c (.int 2147483629))) (.c (.int 48271))) (.op .Mult (.op .Mult (.c (.int 104729)) (.ix (.var 0) (.c (.int 1)))) (.ix (.var 0) (.c (.int 1))))) (.c (.int 17))) (.c (.int 2147483647))),
  .asg (.nm 3) (.op .Mod (.op .Mult (.var 3) (.op .Add (.op .Mod (.var 3) (.c (.int 65521))) (.c (.int 3)))) (.c (.int 2147483587))),
  .ret (.op .Mod (.op .FloorDiv (.var 3) (.c (.int 7))) (.var 1))]
/-- law_gap, number 66 -/
def z_law_gap : List Z := [
  .ret (.tp [(.op .Sub (.op .Mult (.ix (.var 1) (.c (.int 0))) (.ix (.var 0) (.c (.int 1)))) (.op .Mult (.ix (.var 0) (.c (.int 0))) (.ix (.var 1) (.c (.int 1))))), (.op .Mult (.ix (.var 0) (.c (.int 1))) (.ix (.var 1) (.c (.int 1))))])]
/-- law_twice_2, number 42 -/
def z_law_twice_2 : List Z := [
  .asg (.tp [(.nm 3), (.nm 4)]) (.tp [(.fn 66 [(.ix (.var 0) (.c (.int 0))), (.ix (.var 1) (.c (.int 0)))]), (.fn 66 [(.ix (.var 0) (.c (.int 1))), (.ix (.var 1) (.c (.int 1)))])]),
  .asg (.tp [(.nm 5), (.nm 6)]) (.tp [(.fn 66 [(.ix (.var 0) (.c (.int 0))), (.ix (.var 2) (.c (.int 0)))]), (.fn 66 [(.ix (.var 0) (.c (.int 1))), (.ix (.var 2) (.c (.int 1)))])]),
  .asg (.nm 7) (.op .Mult (.op .Mult (.op .Mult (.ix (.var 3) (.c (.int 0))) (.ix (.var 6) (.c (.int 0)))) (.ix (.var 4) (.c (.int 1)))) (.ix (.var 5) (.c (.int 1)))),
  .ret (.tp [(.op .Sub (.var 7) (.op .Mult (.op .Mult (.op .Mult (.ix (.var 5) (.c (.int 0))) (.ix (.var 4) (.c (.int 0)))) (.ix (.var 3) (.c (.int 1)))) (.ix (.var 6) (.c (.int 1))))), (.op .Mult (.op .Mult (.op .Mult (.ix (.var 3) (.c (.int 1))) (.ix (.var 6) (.c (.int 1)))) (.ix (.var 4) (.c (.int 1)))) (.ix (.var 5) (.c (.int 1))))])]
/-- law_frac_2, number 10 -/
def z_law_frac_2 : List Z := [
  .iff (.ro (.var 1) (.cmp .Gt (.fn 0 [(.var 0), (.c (.int 3))]) (.c (.int 0)))) [
    .ret (.fn 4 [(.op .Sub (.fn 0 [(.var 0), (.c (.int 9))]) (.c (.int 4))), (.op .Add (.c (.int 1)) (.fn 0 [(.var 0), (.c (.int 3))]))])] [],
  .ret (.fn 4 [(.op .Add (.op .Sub (.fn 0 [(.var 0), (.op .Sub (.op .Mult (.c (.int 2)) (.op .Pow (.c (.int 10)) (.c (.int 30)))) (.c (.int 1)))]) (.op .Pow (.c (.int 10)) (.c (.int 30)))) (.c (.int 1))), (.op .Add (.c (.int 1)) (.fn 0 [(.var 0), (.op .Sub (.op .Pow (.c (.int 10)) (.c (.int 30))) (.c (.int 1)))]))])]
/-- law_spot_2, number 32 -/
def z_law_spot_2 : List Z := [
  .iff (.an (.cmp .NotEq (.var 1) (.ls [])) (.cmp .Eq (.fn 0 [(.var 0), (.c (.int 2))]) (.c (.int 1)))) [
    .ret (.ix (.var 1) (.fn 0 [(.var 0), (.bi .len [(.var 1)])]))] [],
  .ret (.tp [(.fn 10 [(.var 0), (.var 2)]), (.fn 10 [(.var 0), (.var 2)])])]
/-- signed_sum, number 67 -/
def z_signed_sum : List Z := [
  .ret (.fn 16 [(.tp [(.c (.int 1)), (.c (.int 2))]), (.fn 18 [(.lc (.fn 45 [(.var 1), (.var 2), (.var 3)]) (.tp [(.nm 1), (.nm 2), (.nm 3)]) (.e (.var 0)) (.c (.bl true)) [1, 2, 3])])])]
/-- law_11, number 9 -/
def z_law_11 : List Z := [
  .for_ (.nm 1) (.e (.op .Add (.ls [(.c (.int 0))]) (.sl (.var 0) (.c .non) (.aI (.c (.int 6)))))) [
    .asg (.nm 2) (.ls [(.var 1), (.c (.int 0))]),
    .asg (.nm 3) (.ls []),
    .asg (.nm 4) (.ls []),
    .asg (.nm 5) (.cmp .Eq (.fn 0 [(.var 2), (.c (.int 6))]) (.c (.int 1))),
    .for_ (.nm 6) (.rng1 (.ix (.ls [(.fn 0 [(.var 2), (.c (.int 6))]), (.c (.int 40))]) (.bi .int [(.var 5)]))) [
      .for_ (.nm 7) (.rng1 (.c (.int 3))) [
        .ex (.me .append (.var 3) [(.fn 32 [(.var 2), (.var 3), (.var 5)])])],
      .ex (.me .append (.var 4) [(.tp [(.ix (.var 3) (.neg (.c (.int 3)))), (.ix (.var 3) (.neg (.c (.int 2)))), (.ix (.var 3) (.neg (.c (.int 1))))])])],
    .asg (.nm 8) (.tp [(.c (.int 0)), (.c (.int 1))]),
    .for_ (.tp [(.nm 9), (.nm 10), (.nm 11)]) (.e (.var 4)) [
      .asg (.tp [(.nm 12), (.nm 13)]) (.fn 42 [(.var 9), (.var 10), (.var 11)]),
      .asg (.nm 8) (.fn 4 [(.op .Add (.op .Mult (.ix (.var 8) (.c (.int 0))) (.var 13)) (.op .Mult (.var 12) (.ix (.var 8) (.c (.int 1))))), (.op .Mult (.ix (.var 8) (.c (.int 1))) (.var 13))])],
    .asg (.nm 8) (.fn 4 [(.ix (.var 8) (.c (.int 0))), (.op .Mult (.c (.int 2)) (.ix (.var 8) (.c (.int 1))))]),
    .asg (.tp [(.nm 14), (.nm 15)]) (.tp [(.fn 32 [(.var 2), (.var 3), (.var 5)]), (.fn 32 [(.var 2), (.var 3), (.var 5)])]),
    .asg (.nm 16) (.lc (.bi .tuple [(.lc (.ix (.ls [(.var 17), (.var 15)]) (.bi .int [(.cmp .Eq (.var 17) (.var 14))])) (.nm 17) (.e (.var 18)) (.c (.bl true)) [17])]) (.nm 18) (.e (.var 4)) (.c (.bl true)) [18]),
    .asg (.nm 19) (.bi .list [(.var 4)]),
    .asg (.nm 20) (.fn 65 [(.var 19), (.var 14), (.var 15)]),
    .iff (.ro (.cmp .NotEq (.fn 67 [(.var 19)]) (.var 8)) (.no (.fn 8 [(.fn 67 [(.var 4)])]))) [
      .ret (.c (.bl false))] [],
    .iff (.cmp .NotEq (.var 19) (.var 4)) [
      .ret (.c (.bl false))] [],
    .iff (.ro (.no (.isi (.var 20) [(.bt "list")])) (.ro (.cmp .NotEq (.var 20) (.var 16)) (.no (.bi .all [(.lc (.isi (.var 18) [(.bt "tuple")]) (.nm 18) (.e (.var 20)) (.c (.bl true)) [18])])))) [
      .ret (.c (.bl false))] [],
    .ex (.me .append (.var 20) [(.c .non)]),
    .iff (.cmp .NotEq (.fn 65 [(.var 4), (.var 14), (.var 15)]) (.var 16)) [
      .ret (.c (.bl false))] []],
  .ret (.c (.bl true))]
end Sd
namespace Sd
open PySem
/-- law_mid, number 69 -/
def z_law_mid : List Z := [
  .asg (.nm 2) (.ls []),
  .for_ (.nm 3) (.rng1 (.c (.int 2))) [
    .asg (.tp [(.nm 4), (.nm 5)]) (.tp [(.c (.int 0)), (.c (.int 1))]),
    .for_ (.tp [(.nm 6), (.nm 7)]) (.zip (.var 0) (.var 1)) [
      .asg (.tp [(.nm 8), (.nm 9)]) (.ix (.var 6) (.var 3)),
      .asg (.nm 4) (.op .Add (.op .Mult (.var 4) (.var 9)) (.op .Mult (.op .Mult (.var 7) (.var 8)) (.var 5))),
      .asg (.nm 5) (.op .Mult (.var 5) (.var 9))],
    .ex (.me .append (.var 2) [(.fn 4 [(.var 4), (.op .Mult (.var 5) (.bi .sum [(.var 1)]))])])],
  .ret (.tp [(.ix (.var 2) (.c (.int 0))), (.ix (.var 2) (.c (.int 1)))])]
/-- law_frame_2, number 56 -/
def z_law_frame_2 : List Z := [
  .asg (.nm 1) (.fn 0 [(.var 0), (.c (.int 5))]),
  .iff (.cmp .Eq (.var 1) (.c (.int 0))) [
    .ret (.ls [(.fn 32 [(.var 0)]), (.fn 32 [(.var 0)]), (.fn 32 [(.var 0)])])] [],
  .asg (.nm 2) (.ls [(.fn 38 [(.var 0)]), (.fn 38 [(.var 0)]), (.fn 38 [(.var 0)])]),
  .iff (.cmp .Eq (.var 1) (.c (.int 1))) [
    .asg (.ix (.var 2) (.c (.int 2))) (.fn 69 [(.sl (.var 2) (.c .non) (.aI (.c (.int 2)))), (.ls [(.op .Add (.c (.int 1)) (.fn 0 [(.var 0), (.c (.int 5))])), (.fn 0 [(.var 0), (.c (.int 5))])])])] [],
  .iff (.an (.cmp .Eq (.var 1) (.c (.int 2))) (.cmp .Eq (.fn 0 [(.var 0), (.c (.int 3))]) (.c (.int 0)))) [
    .asg (.ix (.var 2) (.fn 0 [(.var 0), (.c (.int 3))])) (.ix (.var 2) (.fn 0 [(.var 0), (.c (.int 3))]))] [],
  .ret (.var 2)]
/-- law_leads, number 105 -/
def z_law_leads : List Z := [
  .iff (.ro (.no (.isi (.var 2) [(.bt "tuple")])) (.ro (.cmp .NotEq (.bi .len [(.var 2)]) (.c (.int 2))) (.ro (.no (.fn 8 [(.ix (.var 2) (.c (.int 0)))])) (.no (.fn 8 [(.ix (.var 2) (.c (.int 1)))]))))) [
    .ret (.c (.bl false))] [],
  .asg (.tp [(.tp [(.nm 3), (.nm 4)]), (.tp [(.nm 5), (.nm 6)])]) (.var 2),
  .for_ (.nm 7) (.rng1 (.c (.int 2))) [
    .asg (.tp [(.tp [(.nm 8), (.nm 9)]), (.tp [(.nm 10), (.nm 11)]), (.tp [(.nm 12), (.nm 13)])]) (.tp [(.ix (.ix (.var 0) (.c (.int 0))) (.var 7)), (.ix (.ix (.var 0) (.c (.int 1))) (.var 7)), (.ix (.ix (.var 0) (.c (.int 2))) (.var 7))]),
    .asg (.nm 14) (.op .Mult (.op .Mult (.var 8) (.var 11)) (.var 13)),
    .asg (.nm 15) (.op .Mult (.op .Mult (.var 3) (.var 6)) (.op .Sub (.op .Mult (.op .Mult (.var 10) (.var 9)) (.var 13)) (.var 14))),
    .asg (.nm 16) (.op .Mult (.op .Mult (.var 5) (.var 4)) (.op .Sub (.op .Mult (.op .Mult (.var 12) (.var 9)) (.var 11)) (.var 14))),
    .asg (.tp [(.nm 17), (.nm 18)]) (.ix (.var 1) (.var 7)),
    .asg (.nm 19) (.op .Add (.op .Add (.op .Mult (.op .Mult (.var 14) (.var 4)) (.var 6)) (.var 15)) (.var 16)),
    .iff (.cmp .NotEq (.op .Mult (.var 19) (.var 18)) (.op .Mult (.op .Mult (.op .Mult (.op .Mult (.op .Mult (.var 17) (.var 9)) (.var 11)) (.var 13)) (.var 4)) (.var 6))) [
      .ret (.c (.bl false))] []],
  .ret (.c (.bl true))]
/-- law_made, number 106 -/
def z_law_made : List Z := [
  .asg (.nm 2) (.ls [(.fn 0 [(.var 0), (.c (.int 4))]), (.fn 0 [(.var 0), (.c (.int 3))]), (.fn 0 [(.var 0), (.c (.int 3))])]),
  .asg (.ix (.var 2) (.fn 0 [(.var 0), (.c (.int 3))])) (.c (.int 3)),
  .iff (.cmp .Gt (.bi .max1 [(.lc (.op .Add (.op .Add (.op .Add (.bi .abs [(.ix (.var 3) (.c (.int 0)))]) (.ix (.var 3) (.c (.int 1)))) (.bi .abs [(.ix (.var 4) (.c (.int 0)))])) (.ix (.var 4) (.c (.int 1)))) (.tp [(.nm 3), (.nm 4)]) (.e (.var 1)) (.c (.bl true)) [3, 4])]) (.op .Pow (.c (.int 10)) (.c (.int 8)))) [
    .ret (.ix (.var 1) (.c (.int 0)))] [],
  .ret (.fn 69 [(.bi .list [(.var 1)]), (.var 2)])]
/-- law_refused_7, number 7 -/
def z_law_refused_7 : List Z := [
  .asg (.nm 2) (.c .non),
  .tr [
    .ex (.fn 58 [(.var 0), (.var 1)])] 0 3 2,
  .ret (.an (.isi (.var 2) [(.cl 6)]) (.an (.isi (.var 2) [(.bt "ValueError")]) (.no (.isi (.var 2) [(.cl 5), (.cl 2)]))))]
/-- law_17, number 9 -/
def z_law_17 : List Z := [
  .for_ (.nm 1) (.e (.op .Add (.ls [(.c (.int 0))]) (.sl (.var 0) (.c .non) (.aI (.c (.int 30)))))) [
    .asg (.nm 2) (.ls [(.var 1), (.c (.int 0))]),
    .asg (.nm 3) (.bi .tuple [(.fn 56 [(.var 2)])]),
    .asg (.nm 4) (.ix (.ls [(.fn 38 [(.var 2)]), (.fn 32 [(.var 2)]), (.ix (.var 3) (.fn 0 [(.var 2), (.c (.int 3))])), (.fn 106 [(.var 2), (.var 3)])]) (.fn 0 [(.var 2), (.c (.int 4))])),
    .iff (.cmp .Eq (.fn 50 [(.ix (.var 3) (.c (.int 0))), (.ix (.var 3) (.c (.int 1))), (.ix (.var 3) (.c (.int 2)))]) (.c (.int 0))) [
      .iff (.no (.fn 7 [(.var 3), (.var 4)])) [
        .ret (.c (.bl false))] [],
      .cont] [],
    .iff (.no (.fn 105 [(.var 3), (.var 4), (.fn 58 [(.var 3), (.var 4)])])) [
      .ret (.c (.bl false))] [],
    .asg (.nm 5) (.ls [(.tp [(.tp [(.c (.int 0)), (.c (.int 1))]), (.tp [(.c (.int 0)), (.c (.int 1))])]), (.tp [(.tp [(.c (.int 1)), (.c (.int 1))]), (.tp [(.c (.int 0)), (.c (.int 1))])]), (.tp [(.tp [(.c (.int 0)), (.c (.int 1))]), (.tp [(.c (.int 1)), (.c (.int 1))])])]),
    .iff (.cmp .NotEq (.lc (.fn 58 [(.var 3), (.var 6)]) (.nm 6) (.e (.var 3)) (.c (.bl true)) [6]) (.var 5)) [
      .ret (.c (.bl false))] []],
  .ret (.c (.bl true))]
end Sd
namespace Sd
open PySem
/-- law_bad_spot, number 93 -/
def z_law_bad_spot : List Z := [
  .asg (.tp [(.nm 2), (.nm 3)]) (.var 1),
  .asg (.nm 4) (.op .Add (.c (.int 2)) (.fn 0 [(.var 0), (.c (.int 5))])),
  .asg (.nm 5) (.ls [(.c .non), (.var 2), (.ls [(.var 2), (.var 3)]), (.tp [(.var 2)]), (.tp [(.var 2), (.var 3), (.var 2)]), (.tp [(.ix (.var 2) (.c (.int 0))), (.ix (.var 3) (.c (.int 0)))]), (.tp [(.tp [(.op .Mult (.ix (.var 2) (.c (.int 0))) (.var 4)), (.op .Mult (.ix (.var 2) (.c (.int 1))) (.var 4))]), (.var 3)]), (.tp [(.var 2), (.tp [(.ix (.var 3) (.c (.int 0))), (.op .Sub (.c (.int 0)) (.ix (.var 3) (.c (.int 1))))])]), (.c (.str "0,0"))]),
  .asg (.nm 5) (.op .Add (.var 5) (.ls [(.tp [(.tp [(.c (.bl true)), (.c (.int 1))]), (.var 3)]), (.tp [(.var 2), (.tp [(.ix (.var 3) (.c (.int 0))), (.c (.bl true))])]), (.tp [(.var 2), (.c .non)]), (.c (.int 0))])),
  .ret (.ix (.var 5) (.fn 0 [(.var 0), (.bi .len [(.var 5)])]))]
/-- law_thing_3, number 25 -/
def z_law_thing_3 : List Z := [
  .asg (.nm 2) (.fn 0 [(.var 0), (.c (.int 3))]),
  .asg (.tp [(.nm 3), (.nm 4), (.nm 5)]) (.tp [(.ix (.var 1) (.op .Sub (.var 2) (.c (.int 2)))), (.ix (.var 1) (.op .Sub (.var 2) (.c (.int 1)))), (.ix (.var 1) (.var 2))]),
  .asg (.nm 6) (.fn 69 [(.ls [(.var 3), (.var 4)]), (.ls [(.op .Add (.c (.int 1)) (.fn 0 [(.var 0), (.c (.int 3))])), (.op .Add (.c (.int 1)) (.fn 0 [(.var 0), (.c (.int 3))]))])]),
  .asg (.nm 7) (.ls [(.st (.var 1) none (-1)), (.tp [(.var 3), (.var 4), (.var 3)]), (.tp [(.var 3), (.var 4), (.var 6)]), (.tp [(.var 3), (.var 6), (.var 4)]), (.sl (.var 1) (.c .non) (.aI (.c (.int 2)))), (.op .Add (.var 1) (.tp [(.var 6)]))]),
  .asg (.nm 7) (.op .Add (.var 7) (.ls [(.op .Add (.op .Add (.sl (.var 1) (.c .non) (.aI (.var 2))) (.tp [(.fn 93 [(.var 0), (.var 5)])])) (.sl (.var 1) (.aI (.op .Add (.var 2) (.c (.int 1)))) (.c .non))), (.bi .list [(.var 1)]), (.tp [(.var 1)]), (.c .non), (.c (.bl true)), (.var 5)])),
  .asg (.nm 7) (.op .Add (.var 7) (.ls [(.tp [(.var 1), (.var 1), (.var 1)]), (.tp [(.var 5), (.var 3), (.var 4)]), (.tp [(.var 4), (.var 3), (.var 5)]), (.tp [(.var 3), (.var 6), (.var 5)]), (.c (.int 3)), (.c (.str "piece")), (.tp [])])),
  .ret (.ix (.op .Add (.var 7) (.ls [(.op .Add (.op .Add (.sl (.var 1) (.c .non) (.aI (.var 2))) (.tp [(.fn 93 [(.var 0), (.var 5)])])) (.sl (.var 1) (.aI (.op .Add (.var 2) (.c (.int 1)))) (.c .non)))])) (.fn 0 [(.var 0), (.c (.int 20))]))]
/-- is_piece, number 92 -/
def z_is_piece : List Z := [
  .iff (.ro (.no (.isi (.var 0) [(.bt "tuple")])) (.ro (.cmp .NotEq (.bi .len [(.var 0)]) (.c (.int 3))) (.no (.bi .all [(.lc (.fn 33 [(.var 1)]) (.nm 1) (.e (.var 0)) (.c (.bl true)) [1])])))) [
    .ret (.c (.bl false))] [],
  .ret (.cmp .Eq (.fn 46 [(.ix (.var 0) (.c (.int 0))), (.ix (.var 0) (.c (.int 1))), (.ix (.var 0) (.c (.int 2)))]) (.c (.int 1)))]
/-- law_is_spot, number 73 -/
def z_law_is_spot : List Z := [
  .ret (.an (.isi (.var 0) [(.bt "tuple")]) (.an (.cmp .Eq (.bi .len [(.var 0)]) (.c (.int 2))) (.an (.fn 8 [(.ix (.var 0) (.c (.int 0)))]) (.fn 8 [(.ix (.var 0) (.c (.int 1)))]))))]
/-- law_is_2, number 35 -/
def z_law_is_2 : List Z := [
  .iff (.ro (.no (.isi (.var 0) [(.bt "tuple")])) (.ro (.cmp .NotEq (.bi .len [(.var 0)]) (.c (.int 3))) (.cmp .NotEq (.lc (.var 1) (.nm 1) (.e (.var 0)) (.no (.fn 73 [(.var 1)])) [1]) (.ls [])))) [
    .ret (.c (.bl false))] [],
  .ret (.cmp .Eq (.fn 50 [(.ix (.var 0) (.c (.int 0))), (.ix (.var 0) (.c (.int 1))), (.ix (.var 0) (.c (.int 2)))]) (.c (.int 1)))]
/-- law_15, number 9 -/
def z_law_15 : List Z := [
  .for_ (.nm 1) (.e (.op .Add (.ls [(.c (.int 0))]) (.sl (.var 0) (.c .non) (.aI (.c (.int 30)))))) [
    .asg (.nm 2) (.ls [(.var 1), (.c (.int 0))]),
    .asg (.nm 3) (.ix (.ls [(.c (.int 0)), (.op .Pow (.c (.int 10)) (.c (.int 26)))]) (.fn 0 [(.var 2), (.c (.int 2))])),
    .asg (.nm 4) (.tp [(.op .Sub (.fn 0 [(.var 2), (.op .Add (.op .Mult (.c (.int 2)) (.var 3)) (.c (.int 1)))]) (.var 3)), (.op .Sub (.fn 0 [(.var 2), (.op .Add (.op .Mult (.c (.int 2)) (.var 3)) (.c (.int 1)))]) (.var 3))]),
    .asg (.nm 5) (.ls []),
    .for_ (.nm 6) (.rng1 (.c (.int 3))) [
      .asg (.tp [(.nm 7), (.nm 8)]) (.fn 38 [(.var 2)]),
      .ex (.me .append (.var 5) [(.tp [(.tp [(.op .Add (.ix (.var 7) (.c (.int 0))) (.op .Mult (.ix (.var 4) (.c (.int 0))) (.ix (.var 7) (.c (.int 1))))), (.ix (.var 7) (.c (.int 1)))]), (.tp [(.op .Add (.ix (.var 8) (.c (.int 0))) (.op .Mult (.ix (.var 4) (.c (.int 1))) (.ix (.var 8) (.c (.int 1))))), (.ix (.var 8) (.c (.int 1)))])])])],
    .for_ (.nm 9) (.e (.ls [(.bi .tuple [(.var 5)]), (.bi .tuple [(.st (.var 5) none (-1))])])) [
      .asg (.nm 10) (.fn 92 [(.var 9)]),
      .iff (.ro (.no (.isi (.var 10) [(.bt "bool")])) (.cmp .NotEq (.var 10) (.fn 35 [(.var 9)]))) [
        .ret (.c (.bl false))] []],
    .asg (.nm 11) (.fn 25 [(.var 2), (.bi .tuple [(.var 5)])]),
    .asg (.nm 10) (.fn 92 [(.var 11)]),
    .iff (.ro (.no (.isi (.var 10) [(.bt "bool")])) (.cmp .NotEq (.var 10) (.fn 35 [(.var 11)]))) [
      .ret (.c (.bl false))] []],
  .ret (.c (.bl true))]
end Sd
namespace Sd
open PySem
/-- law_left, number 85 -/
def z_law_left : List Z := [
  .asg (.nm 3) (.fn 50 [(.var 0), (.var 1), (.var 2)]),
  .iff (.cmp .Eq (.var 3) (.c (.int 0))) [
    .asg (.tp [(.tp [(.nm 4), (.nm 5)]), (.tp [(.nm 6), (.nm 7)])]) (.var 0),
    .ret (.tp [(.var 0), (.tp [(.tp [(.op .Add (.var 4) (.var 5)), (.var 5)]), (.tp [(.var 6), (.var 7)])]), (.tp [(.tp [(.var 4), (.var 5)]), (.tp [(.op .Add (.var 6) (.var 7)), (.var 7)])])])] [],
  .ret (.ix (.ls [(.tp [(.var 0), (.var 2), (.var 1)]), (.tp [(.var 0), (.var 1), (.var 2)])]) (.bi .int [(.cmp .Gt (.var 3) (.c (.int 0)))]))]
/-- law_at, number 86 -/
def z_law_at : List Z := [
  .ret (.tp [(.tp [(.var 0), (.c (.int 1))]), (.tp [(.var 1), (.c (.int 1))])])]
/-- law_round_spot, number 87 -/
def z_law_round_spot : List Z := [
  .asg (.nm 1) (.fn 86 [(.op .Add (.c (.int 1)) (.fn 0 [(.var 0), (.c (.int 9))])), (.op .Sub (.fn 0 [(.var 0), (.c (.int 3))]) (.c (.int 1)))]),
  .asg (.nm 2) (.fn 86 [(.op .Sub (.neg (.c (.int 1))) (.fn 0 [(.var 0), (.c (.int 9))])), (.op .Add (.c (.int 10)) (.fn 0 [(.var 0), (.c (.int 9))]))]),
  .ret (.fn 85 [(.var 1), (.var 2), (.fn 86 [(.op .Sub (.neg (.c (.int 1))) (.fn 0 [(.var 0), (.c (.int 9))])), (.op .Sub (.neg (.c (.int 10))) (.fn 0 [(.var 0), (.c (.int 9))]))])])]
/-- law_pair, number 88 -/
def z_law_pair : List Z := [
  .asg (.nm 1) (.fn 0 [(.var 0), (.c (.int 8))]),
  .iff (.cmp .Eq (.var 1) (.c (.int 0))) [
    .ret (.tp [(.fn 85 [(.fn 38 [(.var 0)]), (.fn 38 [(.var 0)]), (.fn 38 [(.var 0)])]), (.fn 85 [(.fn 38 [(.var 0)]), (.fn 38 [(.var 0)]), (.fn 38 [(.var 0)])]), (.c .non)])] [],
  .iff (.cmp .Eq (.var 1) (.c (.int 1))) [
    .ret (.tp [(.fn 87 [(.var 0)]), (.fn 87 [(.var 0)]), (.c (.bl true))])] [],
  .iff (.cmp .Eq (.var 1) (.c (.int 2))) [
    .asg (.tp [(.nm 2), (.nm 3)]) (.tp [(.fn 0 [(.var 0), (.c (.int 6))]), (.op .Add (.c (.int 1)) (.fn 0 [(.var 0), (.c (.int 6))]))]),
    .asg (.nm 4) (.tp [(.fn 86 [(.var 2), (.c (.int 0))]), (.fn 86 [(.op .Add (.var 2) (.var 3)), (.c (.int 0))]), (.fn 86 [(.op .Sub (.fn 0 [(.var 0), (.c (.int 19))]) (.c (.int 9))), (.op .Add (.c (.int 1)) (.fn 0 [(.var 0), (.c (.int 9))]))])]),
    .asg (.tp [(.nm 2), (.nm 3)]) (.tp [(.fn 0 [(.var 0), (.c (.int 9))]), (.op .Add (.c (.int 1)) (.fn 0 [(.var 0), (.c (.int 6))]))]),
    .asg (.nm 5) (.fn 86 [(.op .Sub (.fn 0 [(.var 0), (.c (.int 19))]) (.c (.int 9))), (.op .Sub (.neg (.c (.int 1))) (.fn 0 [(.var 0), (.c (.int 9))]))]),
    .ret (.tp [(.var 4), (.tp [(.fn 86 [(.op .Add (.var 2) (.var 3)), (.c (.int 0))]), (.fn 86 [(.var 2), (.c (.int 0))]), (.var 5)]), (.c (.bl false))])] [],
  .asg (.nm 4) (.fn 85 [(.fn 38 [(.var 0)]), (.fn 38 [(.var 0)]), (.fn 38 [(.var 0)])]),
  .iff (.cmp .Eq (.var 1) (.c (.int 3))) [
    .asg (.nm 6) (.lc (.fn 69 [(.bi .list [(.var 4)]), (.ls [(.op .Add (.c (.int 1)) (.fn 0 [(.var 0), (.c (.int 3))])), (.fn 0 [(.var 0), (.c (.int 3))]), (.fn 0 [(.var 0), (.c (.int 3))])])]) (.nm 7) (.rng1 (.c (.int 3))) (.c (.bl true)) [7]),
    .ret (.tp [(.var 4), (.fn 85 [(.ix (.var 6) (.c (.int 0))), (.ix (.var 6) (.c (.int 1))), (.ix (.var 6) (.c (.int 2)))]), (.c .non)])] [],
  .iff (.cmp .Eq (.var 1) (.c (.int 4))) [
    .ret (.tp [(.var 4), (.var 4), (.c (.bl true))])] [],
  .iff (.cmp .Eq (.var 1) (.c (.int 7))) [
    .asg (.nm 5) (.fn 69 [(.ls [(.ix (.var 4) (.c (.int 0))), (.ix (.var 4) (.c (.int 1))), (.ix (.var 4) (.c (.int 2)))]), (.ls [(.c (.int 1)), (.c (.int 1)), (.neg (.c (.int 1)))])]),
    .asg (.nm 8) (.op .Add (.op .Pow (.c (.int 10)) (.c (.int 20))) (.fn 0 [(.var 0), (.c (.int 9))])),
    .asg (.tp [(.nm 9), (.nm 10)]) (.tp [(.op .Sub (.fn 0 [(.var 0), (.c (.int 3))]) (.c (.int 1))), (.op .Sub (.fn 0 [(.var 0), (.c (.int 3))]) (.c (.int 1)))]),
    .asg (.nm 11) (.ls []),
    .for_ (.tp [(.nm 12), (.nm 13)]) (.e (.tp [(.ix (.var 4) (.c (.int 1))), (.ix (.var 4) (.c (.int 0))), (.var 5)])) [
      .ex (.me .append (.var 11) [(.tp [(.fn 4 [(.op .Add (.op .Mult (.ix (.var 12) (.c (.int 0))) (.var 8)) (.op .Mult (.var 9) (.ix (.var 12) (.c (.int 1))))), (.op .Mult (.ix (.var 12) (.c (.int 1))) (.var 8))]), (.fn 4 [(.op .Add (.op .Mult (.ix (.var 13) (.c (.int 0))) (.var 8)) (.op .Mult (.var 10) (.ix (.var 13) (.c (.int 1))))), (.op .Mult (.ix (.var 13) (.c (.int 1))) (.var 8))])])])],
    .ret (.tp [(.var 4), (.bi .tuple [(.var 11)]), (.c .non)])] [],
  .iff (.cmp .Eq (.var 1) (.c (.int 5))) [
    .ret (.tp [(.var 4), (.tp [(.ix (.var 4) (.c (.int 1))), (.ix (.var 4) (.c (.int 0))), (.fn 69 [(.ls [(.ix (.var 4) (.c (.int 0))), (.ix (.var 4) (.c (.int 1))), (.ix (.var 4) (.c (.int 2)))]), (.ls [(.c (.int 1)), (.c (.int 1)), (.neg (.c (.int 1)))])])]), (.c (.bl false))])] [],
  .ret (.tp [(.tp [(.fn 86 [(.neg (.c (.int 9))), (.c (.int 0))]), (.fn 86 [(.c (.int 9)), (.neg (.c (.int 1)))]), (.fn 86 [(.c (.int 9)), (.c (.int 1))])]), (.tp [(.fn 86 [(.c (.int 0)), (.c (.int 9))]), (.fn 86 [(.neg (.c (.int 1))), (.neg (.c (.int 9)))]), (.fn 86 [(.c (.int 1)), (.neg (.c (.int 9)))])]), (.c (.bl true))])]
/-- law_lap, number 89 -/
def z_law_lap : List Z := [
  .asg (.nm 2) (.op .Add (.bi .list [(.var 0)]) (.bi .list [(.var 1)])),
  .for_ (.nm 3) (.e (.var 2)) [
    .for_ (.nm 4) (.e (.var 2)) [
      .iff (.an (.cmp .NotEq (.var 3) (.var 4)) (.cmp .Lt (.bi .max1 [(.lc (.fn 50 [(.var 3), (.var 4), (.var 5)]) (.nm 5) (.e (.var 0)) (.c (.bl true)) [5])]) (.c (.int 1)))) [
        .iff (.cmp .Gt (.bi .min1 [(.lc (.fn 50 [(.var 3), (.var 4), (.var 5)]) (.nm 5) (.e (.var 1)) (.c (.bl true)) [5])]) (.neg (.c (.int 1)))) [
          .ret (.c (.bl false))] []] []]],
  .ret (.c (.bl true))]
/-- law_moved_2, number 53 -/
def z_law_moved_2 : List Z := [
  .asg (.nm 3) (.ls []),
  .for_ (.tp [(.nm 4), (.nm 5)]) (.e (.op .Add (.sl (.var 0) (.aI (.var 2)) (.c .non)) (.sl (.var 0) (.c .non) (.aI (.var 2))))) [
    .ex (.me .append (.var 3) [(.tp [(.tp [(.op .Add (.ix (.var 4) (.c (.int 0))) (.op .Mult (.ix (.var 1) (.c (.int 0))) (.ix (.var 4) (.c (.int 1))))), (.ix (.var 4) (.c (.int 1)))]), (.tp [(.op .Add (.ix (.var 5) (.c (.int 0))) (.op .Mult (.ix (.var 1) (.c (.int 1))) (.ix (.var 5) (.c (.int 1))))), (.ix (.var 5) (.c (.int 1)))])])])],
  .ret (.bi .tuple [(.var 3)])]
/-- is_behind, number 90 -/
def z_is_behind : List Z := [
  .for_ (.nm 2) (.rng1 (.bi .len [(.var 0)])) [
    .iff (.cmp .Lt (.bi .max1 [(.lc (.fn 46 [(.ix (.var 0) (.op .Sub (.var 2) (.c (.int 1)))), (.ix (.var 0) (.var 2)), (.var 3)]) (.nm 3) (.e (.var 1)) (.c (.bl true)) [3])]) (.c (.int 1))) [
      .ret (.c (.bl true))] []],
  .ret (.c (.bl false))]
/-- do_lap, number 91 -/
def z_do_lap : List Z := [
  .ret (.an (.no (.fn 90 [(.var 0), (.var 1)])) (.no (.fn 90 [(.var 1), (.var 0)])))]
/-- law_14, number 9 -/
def z_law_14 : List Z := [
  .for_ (.nm 1) (.e (.op .Add (.ls [(.c (.int 0))]) (.sl (.var 0) (.c .non) (.aI (.c (.int 12)))))) [
    .asg (.nm 2) (.ls [(.var 1), (.c (.int 0))]),
    .asg (.tp [(.nm 3), (.nm 4), (.nm 5)]) (.fn 88 [(.var 2)]),
    .asg (.nm 6) (.ix (.ls [(.c (.int 0)), (.op .Pow (.c (.int 10)) (.c (.int 26)))]) (.fn 0 [(.var 2), (.c (.int 2))])),
    .iff (.cmp .Gt (.bi .max1 [(.lc (.op .Add (.ix (.ix (.var 7) (.c (.int 0))) (.c (.int 1))) (.ix (.ix (.var 7) (.c (.int 1))) (.c (.int 1)))) (.nm 7) (.e (.var 4)) (.c (.bl true)) [7])]) (.op .Pow (.c (.int 10)) (.c (.int 6)))) [
      .asg (.nm 6) (.c (.int 0))] [],
    .asg (.nm 8) (.tp [(.op .Sub (.fn 0 [(.var 2), (.op .Add (.op .Mult (.c (.int 2)) (.var 6)) (.c (.int 1)))]) (.var 6)), (.op .Sub (.fn 0 [(.var 2), (.op .Add (.op .Mult (.c (.int 2)) (.var 6)) (.c (.int 1)))]) (.var 6))]),
    .asg (.tp [(.nm 3), (.nm 4)]) (.tp [(.fn 53 [(.var 3), (.var 8), (.fn 0 [(.var 2), (.c (.int 3))])]), (.fn 53 [(.var 4), (.var 8), (.fn 0 [(.var 2), (.c (.int 3))])])]),
    .asg (.nm 9) (.fn 89 [(.var 3), (.var 4)]),
    .iff (.ro (.cmp .IsNot (.fn 92 [(.var 3)]) (.c (.bl true))) (.ro (.cmp .IsNot (.fn 92 [(.var 4)]) (.c (.bl true))) (.an (.cmp .IsNot (.var 5) (.c .non)) (.cmp .NotEq (.var 9) (.var 5))))) [
      .ret (.c (.bl false))] [],
    .for_ (.nm 10) (.e (.ls [(.fn 91 [(.var 3), (.var 4)]), (.fn 91 [(.var 4), (.var 3)])])) [
      .iff (.ro (.no (.isi (.var 10) [(.bt "bool")])) (.cmp .NotEq (.var 10) (.var 9))) [
        .ret (.c (.bl false))] []]],
  .ret (.c (.bl true))]
end Sd
namespace Sd
open PySem
/-- law_field, number 68 -/
def z_law_field : List Z := [
  .asg (.nm 2) (.ls [(.ls [(.tp [(.c (.int 0)), (.c (.int 0))]), (.tp [(.c (.int 1)), (.c (.int 0))]), (.tp [(.c (.int 0)), (.c (.int 1))])]), (.ls [(.tp [(.c (.int 0)), (.c (.int 0))]), (.tp [(.c (.int 1)), (.c (.int 0))]), (.tp [(.c (.int 1)), (.c (.int 1))]), (.tp [(.c (.int 0)), (.c (.int 1))])]), (.ls [(.tp [(.c (.int 0)), (.c (.int 0))]), (.tp [(.c (.int 3)), (.c (.int 0))]), (.tp [(.c (.int 2)), (.c (.int 1))]), (.tp [(.c (.int 0)), (.c (.int 1))])])]),
  .asg (.nm 2) (.op .Add (.var 2) (.ls [(.ls [(.tp [(.c (.int 0)), (.c (.int 0))]), (.tp [(.c (.int 2)), (.c (.int 0))]), (.tp [(.c (.int 3)), (.c (.int 2))]), (.tp [(.c (.int 0)), (.c (.int 1))])]), (.ls [(.tp [(.c (.int 0)), (.c (.int 0))]), (.tp [(.c (.int 2)), (.c (.int 0))]), (.tp [(.c (.int 3)), (.c (.int 1))]), (.tp [(.c (.int 1)), (.c (.int 3))]), (.tp [(.c (.int 0)), (.c (.int 2))])])])),
  .asg (.nm 2) (.op .Add (.var 2) (.ls [(.ls [(.tp [(.c (.int 1)), (.c (.int 0))]), (.tp [(.c (.int 3)), (.c (.int 1))]), (.tp [(.c (.int 2)), (.c (.int 3))])]), (.ls [(.tp [(.c (.int 0)), (.c (.int 0))]), (.tp [(.c (.int 1)), (.c (.int 0))]), (.tp [(.c (.int 2)), (.c (.int 1))]), (.tp [(.c (.int 2)), (.c (.int 2))]), (.tp [(.c (.int 1)), (.c (.int 2))]), (.tp [(.c (.int 0)), (.c (.int 1))])])])),
  .ex (.me .append (.var 2) [(.ls [(.tp [(.c (.int 0)), (.c (.int 0))]), (.tp [(.c (.int 3)), (.c (.int 0))]), (.tp [(.c (.int 4)), (.c (.int 2))]), (.tp [(.c (.int 3)), (.c (.int 4))]), (.tp [(.c (.int 1)), (.c (.int 4))]), (.tp [(.c (.int 0)), (.c (.int 3))])])]),
  .asg (.nm 3) (.ix (.var 2) (.fn 0 [(.var 0), (.c (.int 8))])),
  .asg (.nm 4) (.ix (.ls [(.c (.int 4)), (.op .Pow (.c (.int 10)) (.c (.int 7)))]) (.bi .int [(.cmp .Gt (.var 1) (.c (.int 100)))])),
  .asg (.tp [(.nm 5), (.nm 6)]) (.tp [(.op .Add (.c (.int 1)) (.fn 0 [(.var 0), (.var 4)])), (.op .Add (.c (.int 1)) (.fn 0 [(.var 0), (.var 4)]))]),
  .asg (.nm 7) (.op .Add (.op .Sub (.fn 0 [(.var 0), (.op .Sub (.op .Mult (.c (.int 2)) (.var 4)) (.c (.int 1)))]) (.var 4)) (.c (.int 1))),
  .asg (.nm 8) (.op .Add (.op .Sub (.fn 0 [(.var 0), (.op .Sub (.op .Mult (.c (.int 2)) (.var 4)) (.c (.int 1)))]) (.var 4)) (.c (.int 1))),
  .asg (.tp [(.nm 9), (.nm 10)]) (.tp [(.op .Sub (.fn 0 [(.var 0), (.op .Add (.op .Mult (.c (.int 2)) (.var 1)) (.c (.int 1)))]) (.var 1)), (.op .Sub (.fn 0 [(.var 0), (.op .Add (.op .Mult (.c (.int 2)) (.var 1)) (.c (.int 1)))]) (.var 1))]),
  .asg (.nm 11) (.op .Add (.c (.int 1)) (.fn 0 [(.var 0), (.c (.int 6))])),
  .asg (.nm 12) (.ls []),
  .for_ (.tp [(.nm 13), (.nm 14)]) (.e (.var 3)) [
    .asg (.nm 15) (.op .Add (.op .Mult (.var 5) (.var 13)) (.op .Mult (.var 7) (.var 14))),
    .asg (.nm 16) (.op .Add (.op .Mult (.var 8) (.var 15)) (.op .Mult (.var 6) (.var 14))),
    .asg (.nm 13) (.fn 4 [(.op .Add (.var 15) (.op .Mult (.var 9) (.var 11))), (.var 11)]),
    .ex (.me .append (.var 12) [(.tp [(.var 13), (.fn 4 [(.op .Add (.var 16) (.op .Mult (.var 10) (.var 11))), (.var 11)])])])],
  .asg (.nm 17) (.fn 0 [(.var 0), (.bi .len [(.var 12)])]),
  .ret (.bi .tuple [(.op .Add (.sl (.var 12) (.aI (.var 17)) (.c .non)) (.sl (.var 12) (.c .non) (.aI (.var 17))))])]
/-- law_pushed, number 70 -/
def z_law_pushed : List Z := [
  .asg (.nm 2) (.op .Add (.op .Pow (.c (.int 10)) (.c (.int 20))) (.fn 0 [(.var 0), (.c (.int 9))])),
  .asg (.nm 3) (.ls []),
  .for_ (.tp [(.nm 4), (.nm 5)]) (.e (.var 1)) [
    .asg (.nm 6) (.op .Sub (.fn 0 [(.var 0), (.c (.int 3))]) (.c (.int 1))),
    .ex (.me .append (.var 3) [(.fn 4 [(.op .Add (.op .Mult (.var 4) (.var 2)) (.op .Mult (.var 6) (.var 5))), (.op .Mult (.var 5) (.var 2))])])],
  .iff (.cmp .Gt (.bi .max1 [(.lc (.op .Add (.bi .abs [(.ix (.var 7) (.c (.int 0)))]) (.ix (.var 7) (.c (.int 1)))) (.nm 7) (.e (.var 1)) (.c (.bl true)) [7])]) (.op .Pow (.c (.int 10)) (.c (.int 6)))) [
    .ret (.var 1)] [],
  .ret (.tp [(.ix (.var 3) (.c (.int 0))), (.ix (.var 3) (.c (.int 1)))])]
/-- law_bent_field, number 71 -/
def z_law_bent_field : List Z := [
  .asg (.nm 2) (.fn 0 [(.var 0), (.bi .len [(.var 1)])]),
  .asg (.tp [(.nm 3), (.nm 4)]) (.tp [(.ix (.var 1) (.op .Sub (.var 2) (.c (.int 1)))), (.ix (.var 1) (.var 2))]),
  .asg (.nm 5) (.fn 69 [(.ls [(.var 3), (.var 4)]), (.ls [(.c (.int 1)), (.op .Add (.c (.int 1)) (.fn 0 [(.var 0), (.c (.int 4))]))])]),
  .asg (.nm 6) (.fn 69 [(.ls [(.var 3), (.var 4)]), (.ls [(.c (.int 5)), (.neg (.c (.int 2)))])]),
  .asg (.nm 7) (.fn 70 [(.var 0), (.var 5)]),
  .asg (.nm 8) (.ls [(.op .Add (.op .Add (.sl (.var 1) (.c .non) (.aI (.var 2))) (.tp [(.var 5)])) (.sl (.var 1) (.aI (.var 2)) (.c .non))), (.op .Add (.op .Add (.sl (.var 1) (.c .non) (.aI (.var 2))) (.tp [(.var 6)])) (.sl (.var 1) (.aI (.op .Add (.var 2) (.c (.int 1)))) (.c .non))), (.st (.var 1) none (-1)), (.bi .list [(.var 1)])]),
  .asg (.nm 8) (.op .Add (.var 8) (.ls [(.op .Add (.sl (.var 1) (.c .non) (.aI (.var 2))) (.sl (.var 1) (.aI (.op .Add (.var 2) (.c (.int 1)))) (.c .non))), (.op .Add (.op .Add (.sl (.var 1) (.c .non) (.aI (.var 2))) (.tp [(.var 4)])) (.sl (.var 1) (.aI (.var 2)) (.c .non))), (.op .Add (.st (.var 1) none (2)) (.st (.var 1) (some 1) (2))), (.sl (.var 1) (.c .non) (.aI (.c (.int 2))))])),
  .asg (.nm 8) (.op .Add (.var 8) (.ls [(.op .Add (.var 1) (.var 1)), (.op .Add (.op .Add (.sl (.var 1) (.c .non) (.aI (.var 2))) (.tp [(.var 5)])) (.sl (.var 1) (.aI (.op .Add (.var 2) (.c (.int 1)))) (.c .non))), (.op .Add (.op .Add (.sl (.var 1) (.c .non) (.aI (.var 2))) (.tp [(.c .non)])) (.sl (.var 1) (.aI (.op .Add (.var 2) (.c (.int 1)))) (.c .non))), (.c .non)])),
  .asg (.nm 8) (.op .Add (.var 8) (.ls [(.op .Add (.op .Add (.sl (.var 1) (.c .non) (.aI (.var 2))) (.tp [(.tp [(.ix (.var 4) (.c (.int 0))), (.c (.int 1))])])) (.sl (.var 1) (.aI (.op .Add (.var 2) (.c (.int 1)))) (.c .non))), (.op .Add (.op .Add (.sl (.var 1) (.c .non) (.aI (.var 2))) (.tp [(.bi .list [(.var 4)])])) (.sl (.var 1) (.aI (.op .Add (.var 2) (.c (.int 1)))) (.c .non))), (.tp [])])),
  .asg (.nm 9) (.fn 69 [(.ls [(.ix (.var 1) (.c (.int 0))), (.ix (.var 1) (.c (.int 1))), (.ix (.var 1) (.c (.int 2)))]), (.ls [(.c (.int 1)), (.c (.int 1)), (.c (.int 1))])]),
  .asg (.nm 8) (.op .Add (.var 8) (.ls [(.c (.bl true)), (.c (.int 7)), (.c (.str "field")), (.var 4), (.op .Add (.op .Add (.sl (.var 1) (.c .non) (.aI (.var 2))) (.tp [(.var 9)])) (.sl (.var 1) (.aI (.var 2)) (.c .non)))])),
  .asg (.nm 8) (.op .Add (.var 8) (.op .Mult (.ls [(.op .Add (.op .Add (.sl (.var 1) (.c .non) (.aI (.var 2))) (.tp [(.var 7)])) (.sl (.var 1) (.aI (.var 2)) (.c .non)))]) (.c (.int 2)))),
  .asg (.tp [(.nm 10), (.nm 11)]) (.var 4),
  .asg (.nm 12) (.ls [(.tp [(.tp [(.op .Mult (.c (.int 2)) (.ix (.var 10) (.c (.int 0)))), (.op .Mult (.c (.int 2)) (.ix (.var 10) (.c (.int 1))))]), (.var 11)]), (.tp [(.var 10), (.tp [(.op .Sub (.c (.int 0)) (.ix (.var 11) (.c (.int 0)))), (.op .Sub (.c (.int 0)) (.ix (.var 11) (.c (.int 1))))])]), (.tp [(.tp [(.ix (.var 10) (.c (.int 0))), (.c (.bl true))]), (.var 11)]), (.tp [(.var 10), (.var 11), (.var 10)])]),
  .ex (.me .append (.var 8) [(.op .Add (.op .Add (.sl (.var 1) (.c .non) (.aI (.var 2))) (.tp [(.ix (.var 12) (.fn 0 [(.var 0), (.c (.int 4))]))])) (.sl (.var 1) (.aI (.op .Add (.var 2) (.c (.int 1)))) (.c .non)))]),
  .asg (.tp [(.nm 13), (.nm 14)]) (.tp [(.op .Add (.c (.int 1)) (.fn 0 [(.var 0), (.c (.int 9))])), (.fn 0 [(.var 0), (.c (.int 7))])]),
  .asg (.nm 15) (.lc (.tp [(.tp [(.op .Mult (.var 13) (.var 16)), (.c (.int 1))]), (.tp [(.op .Sub (.op .Mult (.var 16) (.var 16)) (.c (.int 9))), (.c (.int 1))])]) (.nm 16) (.rng1 (.c (.int 7))) (.c (.bl true)) [16]),
  .asg (.nm 8) (.op .Add (.var 8) (.ls [(.bi .tuple [(.op .Add (.sl (.var 15) (.aI (.var 14)) (.c .non)) (.sl (.var 15) (.c .non) (.aI (.var 14))))]), (.sl (.bi .tuple [(.op .Add (.sl (.var 15) (.aI (.var 14)) (.c .non)) (.sl (.var 15) (.c .non) (.aI (.var 14))))]) (.c .non) (.aI (.c (.int 6))))])),
  .ret (.ix (.var 8) (.fn 0 [(.var 0), (.bi .len [(.var 8)])]))]
/-- law_round, number 72 -/
def z_law_round : List Z := [
  .asg (.nm 1) (.bi .len [(.var 0)]),
  .for_ (.nm 2) (.rng1 (.var 1)) [
    .for_ (.nm 3) (.rng1 (.var 1)) [
      .iff (.an (.cmp .NotIn (.var 3) (.tp [(.var 2), (.op .Mod (.op .Add (.var 2) (.c (.int 1))) (.var 1))])) (.cmp .Lt (.fn 50 [(.ix (.var 0) (.var 2)), (.ix (.var 0) (.op .Mod (.op .Add (.var 2) (.c (.int 1))) (.var 1))), (.ix (.var 0) (.var 3))]) (.c (.int 1)))) [
        .ret (.c (.bl false))] []]],
  .ret (.c (.bl true))]
/-- law_is_field, number 74 -/
def z_law_is_field : List Z := [
  .iff (.ro (.no (.isi (.var 0) [(.bt "tuple")])) (.no (.chain .LtE .LtE (.c (.int 3)) (.bi .len [(.var 0)]) (.c (.int 6))))) [
    .ret (.c (.bl false))] [],
  .ret (.an (.cmp .Eq (.lc (.var 1) (.nm 1) (.e (.var 0)) (.no (.fn 73 [(.var 1)])) [1]) (.ls [])) (.fn 72 [(.var 0)]))]
/-- goes_round, number 75 -/
def z_goes_round : List Z := [
  .asg (.nm 1) (.bi .len [(.var 0)]),
  .for_ (.nm 2) (.rng1 (.var 1)) [
    .for_ (.nm 3) (.rng1 (.var 1)) [
      .iff (.an (.cmp .NotEq (.var 3) (.var 2)) (.an (.cmp .NotEq (.var 3) (.op .Mod (.op .Add (.var 2) (.c (.int 1))) (.var 1))) (.cmp .NotEq (.fn 46 [(.ix (.var 0) (.var 2)), (.ix (.var 0) (.op .Mod (.op .Add (.var 2) (.c (.int 1))) (.var 1))), (.ix (.var 0) (.var 3))]) (.c (.int 1))))) [
        .ret (.c (.bl false))] []]],
  .ret (.c (.bl true))]
/-- is_field, number 76 -/
def z_is_field : List Z := [
  .iff (.ro (.no (.isi (.var 0) [(.bt "tuple")])) (.ro (.cmp .Lt (.bi .len [(.var 0)]) (.c (.int 3))) (.cmp .Gt (.bi .len [(.var 0)]) (.c (.int 6))))) [
    .ret (.c (.bl false))] [],
  .ret (.an (.bi .all [(.lc (.fn 33 [(.var 1)]) (.nm 1) (.e (.var 0)) (.c (.bl true)) [1])]) (.fn 75 [(.var 0)]))]
/-- look_field, number 77 -/
def z_look_field : List Z := [
  .iff (.no (.fn 76 [(.var 0)])) [
    .rz 3] []]
/-- twice_round, number 78 -/
def z_twice_round : List Z := [
  .asg (.nm 1) (.tp [(.c (.int 0)), (.c (.int 1))]),
  .for_ (.nm 2) (.rng2 (.c (.int 1)) (.op .Sub (.bi .len [(.var 0)]) (.c (.int 1)))) [
    .asg (.nm 1) (.fn 14 [(.var 1), (.fn 45 [(.ix (.var 0) (.c (.int 0))), (.ix (.var 0) (.var 2)), (.ix (.var 0) (.op .Add (.var 2) (.c (.int 1))))])])],
  .ret (.var 1)]
/-- field_twice, number 79 -/
def z_field_twice : List Z := [
  .ex (.fn 77 [(.var 0)]),
  .ret (.fn 78 [(.var 0)])]
/-- law_area, number 80 -/
def z_law_area : List Z := [
  .asg (.tp [(.nm 1), (.nm 2)]) (.tp [(.c (.int 0)), (.c (.int 1))]),
  .for_ (.nm 3) (.rng1 (.bi .len [(.var 0)])) [
    .asg (.tp [(.tp [(.nm 4), (.nm 5)]), (.tp [(.nm 6), (.nm 7)])]) (.tp [(.ix (.ix (.var 0) (.op .Sub (.var 3) (.c (.int 1)))) (.c (.int 0))), (.ix (.ix (.var 0) (.op .Sub (.var 3) (.c (.int 1)))) (.c (.int 1)))]),
    .asg (.tp [(.tp [(.nm 8), (.nm 9)]), (.tp [(.nm 10), (.nm 11)])]) (.tp [(.ix (.ix (.var 0) (.var 3)) (.c (.int 0))), (.ix (.ix (.var 0) (.var 3)) (.c (.int 1)))]),
    .asg (.tp [(.nm 12), (.nm 13)]) (.tp [(.op .Sub (.op .Mult (.op .Mult (.op .Mult (.var 4) (.var 10)) (.var 7)) (.var 9)) (.op .Mult (.op .Mult (.op .Mult (.var 8) (.var 6)) (.var 5)) (.var 11))), (.op .Mult (.op .Mult (.op .Mult (.var 5) (.var 7)) (.var 9)) (.var 11))]),
    .asg (.tp [(.nm 1), (.nm 2)]) (.fn 4 [(.op .Add (.op .Mult (.var 1) (.var 13)) (.op .Mult (.var 12) (.var 2))), (.op .Mult (.var 2) (.var 13))])],
  .ret (.tp [(.var 1), (.var 2)])]
/-- place_among, number 81 -/
def z_place_among : List Z := [
  .asg (.nm 2) (.bi .len [(.var 0)]),
  .for_ (.nm 3) (.rng1 (.var 2)) [
    .iff (.cmp .Eq (.var 1) (.ix (.var 0) (.var 3))) [
      .ret (.tp [(.c (.str "corner")), (.var 3)])] [],
    .iff (.fn 47 [(.var 1), (.ix (.var 0) (.var 3)), (.ix (.var 0) (.op .Mod (.op .Add (.var 3) (.c (.int 1))) (.var 2)))]) [
      .ret (.tp [(.c (.str "side")), (.var 3)])] []],
  .iff (.cmp .Lt (.bi .min1 [(.lc (.fn 46 [(.ix (.var 0) (.op .Sub (.var 3) (.c (.int 1)))), (.ix (.var 0) (.var 3)), (.var 1)]) (.nm 3) (.rng1 (.var 2)) (.c (.bl true)) [3])]) (.c (.int 1))) [
    .ret (.tp [(.c (.str "out"))])] [],
  .ret (.tp [(.c (.str "inside"))])]
/-- place_in, number 82 -/
def z_place_in : List Z := [
  .ex (.fn 77 [(.var 0)]),
  .ret (.fn 81 [(.var 0), (.var 1)])]
/-- law_refused_5, number 7 -/
def z_law_refused_5 : List Z := [
  .asg (.nm 2) (.c .non),
  .tr [
    .iff (.cmp .Eq (.var 1) (.c (.int 0))) [
      .ex (.fn 77 [(.var 0)])] [
      .iff (.cmp .Eq (.var 1) (.c (.int 1))) [
        .ex (.fn 79 [(.var 0)])] [
        .ex (.fn 82 [(.var 0), (.tp [(.tp [(.c (.int 0)), (.c (.int 1))]), (.tp [(.c (.int 0)), (.c (.int 1))])])])]]] 0 3 2,
  .iff (.ro (.no (.isi (.var 2) [(.cl 3)])) (.no (.isi (.var 2) [(.bt "ValueError")]))) [
    .ret (.c (.bl false))] [],
  .ret (.no (.isi (.var 2) [(.cl 4), (.cl 1)]))]
/-- law_12, number 9 -/
def z_law_12 : List Z := [
  .for_ (.nm 1) (.e (.op .Add (.ls [(.c (.int 0))]) (.sl (.var 0) (.c .non) (.aI (.c (.int 30)))))) [
    .asg (.nm 2) (.ls [(.var 1), (.c (.int 0))]),
    .asg (.nm 3) (.fn 68 [(.var 2), (.ix (.ls [(.c (.int 9)), (.op .Pow (.c (.int 10)) (.c (.int 28)))]) (.bi .int [(.cmp .Eq (.fn 0 [(.var 2), (.c (.int 3))]) (.c (.int 1)))]))]),
    .iff (.ro (.cmp .IsNot (.fn 76 [(.var 3)]) (.c (.bl true))) (.ro (.cmp .IsNot (.fn 77 [(.var 3)]) (.c .non)) (.cmp .NotEq (.fn 79 [(.var 3)]) (.fn 80 [(.var 3)])))) [
      .ret (.c (.bl false))] [],
    .asg (.nm 4) (.fn 71 [(.var 2), (.fn 68 [(.var 2), (.ix (.ls [(.c (.int 9)), (.op .Pow (.c (.int 10)) (.c (.int 26)))]) (.bi .int [(.cmp .Eq (.fn 0 [(.var 2), (.c (.int 3))]) (.c (.int 1)))]))])]),
    .asg (.nm 5) (.fn 74 [(.var 4)]),
    .asg (.nm 6) (.fn 76 [(.var 4)]),
    .iff (.ro (.no (.isi (.var 6) [(.bt "bool")])) (.cmp .NotEq (.var 6) (.var 5))) [
      .ret (.c (.bl false))] [],
    .iff (.an (.var 5) (.ro (.cmp .IsNot (.fn 77 [(.var 4)]) (.c .non)) (.cmp .NotEq (.fn 79 [(.var 4)]) (.fn 80 [(.var 4)])))) [
      .ret (.c (.bl false))] [],
    .iff (.an (.no (.var 5)) (.cmp .NotEq (.lc (.var 7) (.nm 7) (.rng1 (.c (.int 3))) (.no (.fn 7 [(.var 4), (.var 7)])) [7]) (.ls []))) [
      .ret (.c (.bl false))] []],
  .ret (.c (.bl true))]
end Sd
namespace Sd
open PySem
/-- law_spots, number 83 -/
def z_law_spots : List Z := [
  .asg (.nm 2) (.fn 0 [(.var 0), (.bi .len [(.var 1)])]),
  .asg (.tp [(.nm 3), (.nm 4)]) (.tp [(.ix (.var 1) (.op .Sub (.var 2) (.c (.int 1)))), (.ix (.var 1) (.var 2))]),
  .asg (.nm 5) (.op .Add (.c (.int 1)) (.fn 0 [(.var 0), (.c (.int 8))])),
  .asg (.nm 6) (.ls [(.var 4), (.fn 69 [(.ls [(.var 3), (.var 4)]), (.ls [(.var 5), (.op .Sub (.c (.int 9)) (.var 5))])]), (.fn 69 [(.ls [(.var 3), (.var 4)]), (.ls [(.op .Add (.c (.int 9)) (.var 5)), (.op .Sub (.c (.int 0)) (.var 5))])])]),
  .asg (.nm 7) (.lc (.op .Add (.fn 0 [(.var 0), (.c (.int 4))]) (.bi .int [(.cmp .Eq (.var 8) (.var 2))])) (.nm 8) (.rng1 (.bi .len [(.var 1)])) (.c (.bl true)) [8]),
  .ex (.me .append (.var 6) [(.fn 69 [(.bi .list [(.var 1)]), (.var 7)])]),
  .asg (.tp [(.nm 9), (.nm 10)]) (.ix (.var 6) (.c (.int 3))),
  .ex (.me .append (.var 6) [(.tp [(.fn 4 [(.op .Sub (.op .Add (.ix (.var 9) (.c (.int 0))) (.fn 0 [(.var 0), (.c (.int 9))])) (.c (.int 4))), (.ix (.var 9) (.c (.int 1)))]), (.fn 4 [(.op .Sub (.op .Add (.ix (.var 10) (.c (.int 0))) (.fn 0 [(.var 0), (.c (.int 9))])) (.c (.int 4))), (.ix (.var 10) (.c (.int 1)))])])]),
  .ex (.me .append (.var 6) [(.fn 69 [(.ls [(.var 4), (.ix (.var 6) (.c (.int 3)))]), (.ls [(.c (.int 9)), (.neg (.c (.int 1)))])])]),
  .ex (.me .append (.var 6) [(.fn 70 [(.var 0), (.ix (.var 6) (.c (.int 1)))])]),
  .ret (.var 6)]
/-- law_amid_2, number 51 -/
def z_law_amid_2 : List Z := [
  .iff (.ro (.cmp .Eq (.var 0) (.var 1)) (.ro (.cmp .Eq (.var 0) (.var 2)) (.cmp .NotEq (.fn 50 [(.var 1), (.var 2), (.var 0)]) (.c (.int 0))))) [
    .ret (.c (.bl false))] [],
  .for_ (.nm 3) (.rng1 (.c (.int 2))) [
    .asg (.tp [(.tp [(.nm 4), (.nm 5)]), (.tp [(.nm 6), (.nm 7)]), (.tp [(.nm 8), (.nm 9)])]) (.tp [(.ix (.var 1) (.var 3)), (.ix (.var 2) (.var 3)), (.ix (.var 0) (.var 3))]),
    .asg (.tp [(.nm 10), (.nm 11)]) (.bi .sorted [(.ls [(.op .Mult (.op .Mult (.var 4) (.var 7)) (.var 9)), (.op .Mult (.op .Mult (.var 6) (.var 5)) (.var 9))])]),
    .iff (.ro (.cmp .Lt (.op .Mult (.op .Mult (.var 8) (.var 5)) (.var 7)) (.var 10)) (.cmp .Gt (.op .Mult (.op .Mult (.var 8) (.var 5)) (.var 7)) (.var 11))) [
      .ret (.c (.bl false))] []],
  .ret (.c (.bl true))]
/-- law_place, number 84 -/
def z_law_place : List Z := [
  .asg (.nm 2) (.bi .len [(.var 0)]),
  .for_ (.nm 3) (.rng1 (.var 2)) [
    .iff (.cmp .Eq (.ix (.var 0) (.var 3)) (.var 1)) [
      .ret (.tp [(.c (.str "corner")), (.var 3)])] []],
  .for_ (.nm 3) (.rng1 (.var 2)) [
    .iff (.fn 51 [(.var 1), (.ix (.var 0) (.var 3)), (.ix (.var 0) (.op .Mod (.op .Add (.var 3) (.c (.int 1))) (.var 2)))]) [
      .ret (.tp [(.c (.str "side")), (.var 3)])] []],
  .for_ (.nm 3) (.rng1 (.var 2)) [
    .iff (.cmp .Lt (.fn 50 [(.ix (.var 0) (.var 3)), (.ix (.var 0) (.op .Mod (.op .Add (.var 3) (.c (.int 1))) (.var 2))), (.var 1)]) (.c (.int 1))) [
      .ret (.tp [(.c (.str "out"))])] []],
  .ret (.tp [(.c (.str "inside"))])]
/-- law_13, number 9 -/
def z_law_13 : List Z := [
  .for_ (.nm 1) (.e (.op .Add (.ls [(.c (.int 0))]) (.sl (.var 0) (.c .non) (.aI (.c (.int 20)))))) [
    .asg (.nm 2) (.ls [(.var 1), (.c (.int 0))]),
    .asg (.nm 3) (.fn 68 [(.var 2), (.ix (.ls [(.c (.int 9)), (.op .Pow (.c (.int 10)) (.c (.int 22)))]) (.bi .int [(.cmp .Eq (.fn 0 [(.var 2), (.c (.int 3))]) (.c (.int 1)))]))]),
    .for_ (.nm 4) (.e (.fn 83 [(.var 2), (.var 3)])) [
      .asg (.nm 5) (.fn 82 [(.var 3), (.var 4)]),
      .iff (.ro (.no (.isi (.var 5) [(.bt "tuple")])) (.ro (.no (.isi (.ix (.var 5) (.c (.int 0))) [(.bt "str")])) (.cmp .NotEq (.var 5) (.fn 84 [(.var 3), (.var 4)])))) [
        .ret (.c (.bl false))] [],
      .iff (.cmp .NotEq (.lc (.var 6) (.nm 6) (.e (.sl (.var 5) (.aI (.c (.int 1))) (.c .non))) (.no (.fn 5 [(.var 6)])) [6]) (.ls [])) [
        .ret (.c (.bl false))] []]],
  .ret (.c (.bl true))]
end Sd
namespace Sd
open PySem
theorem abs_ite (a : Int) : (if a < 0 then -a else a) = (a.natAbs : Int) := by
  split <;> omega
/-- divisor(one, other): the greatest common divisor -/
def c_divisor : Con := fun ds S P _ => match ds with
  | [.int a, .int b] => P (.int (Int.gcd a b)) S
  | _ => False
/-- the loop of divisor and of lowest, over two slots -/
theorem gcd_step {a b : Nat} (hb : 0 < b) : Int.fmod (a : Int) (b : Int) = ((a % b : Nat) : Int) := by
  rw [Int.fmod_eq_emod_of_nonneg _ (by omega)]
  simp
theorem m_divisor {Γ : Gam} : Meets Γ 2 z_divisor c_divisor := by
  intro ds S P W h
  match ds, h with
  | [.int a, .int b], h =>
    dsimp only [c_divisor] at h
    change wZs Γ z_divisor (retE P) [some (.int a), some (.int b)] S (errW W)
    dsimp only [z_divisor, wZs, wZ, wE, wEs, wT, wTs, lk, biS, List.set, aTru]
    rw [abs_ite, abs_ite]
    simp only [List.length_cons, List.length_nil, sizeLine_eq, Nat.reduceAdd, Nat.reduceLeDiff, true_and]
    refine ⟨fun m ρ S1 => S1 = S ∧ ∃ p q : Nat, m = q ∧ ρ = [some (.int p), some (.int q)] ∧ Nat.gcd p q = Int.gcd a b, ⟨b.natAbs, rfl, a.natAbs, b.natAbs, rfl, rfl, rfl⟩, ?_⟩
    rintro q ρ S1 ⟨rfl, p, _, rfl, rfl, hg⟩
    dsimp only [lk, List.set, cmpS, truB, opS]
    by_cases hq : (0 : Int) < (q : Int)
    · rw [if_pos (decide_eq_true hq)]
      refine ⟨by omega, p % q, Nat.mod_lt _ (by omega), rfl, q, p % q, rfl, ?_, ?_⟩
      · rw [gcd_step (by omega)]
      · rw [← hg, Nat.gcd_comm p q, Nat.gcd_rec q p, Nat.gcd_comm]
    · rw [if_neg (by simpa using hq)]
      have e : q = 0 := by omega
      subst e
      rw [Nat.gcd_zero_right] at hg
      rw [hg]
      exact ret_now h
/-! ### plain facts about sizes -/
theorem fmod_rng {a b : Int} (h : 0 < b) : 0 ≤ a.fmod b ∧ a.fmod b < b := by
  rw [Int.fmod_eq_emod_of_nonneg _ (by omega)]
  exact ⟨Int.emod_nonneg _ (by omega), Int.emod_lt_of_pos _ h⟩
theorem fdiv_rng {a b : Int} (h : 0 < b) (ha : 0 ≤ a) : 0 ≤ a.fdiv b ∧ a.fdiv b ≤ a := by
  rw [Int.fdiv_eq_ediv_of_nonneg _ (by omega)]
  exact ⟨Int.ediv_nonneg ha (by omega), Int.ediv_le_self _ ha⟩
/-! ### the law's draws -/
/-- _law_take(row, base): a number below base; the row goes on -/
def c_law_take : Con := fun ds S P _ => match ds with
  | [.ref a, .int b] => (match S a with
    | some (.lst true [.int c, .int n]) => (0 < b ∧ b < 2 ^ 200) ∧ (0 ≤ n ∧ n < 2 ^ 60) ∧ ∀ k c', 0 ≤ k → k < b → P (.int k) (S.up a (.lst true [.int c', .int (n + 1)]))
    | _ => False)
  | _ => False
theorem m_law_take {Γ : Gam} : Meets Γ 4 z_law_take c_law_take := by
  intro ds S P W h
  unfold c_law_take at h
  split at h
  · rename_i a b
    split at h
    · rename_i c n e
      obtain ⟨⟨hb, hb2⟩, ⟨hn0, hn⟩, h⟩ := h
      change wZs Γ z_law_take (retE P) [some (.ref a), some (.int b), none, none] S (errW W)
      dsimp only [z_law_take, wZs, wZ, wE, wEs, wT, wTs, lk, List.set, aTru]
      simp only [q_ixL, e, at0, at1, q_add, q_sub, q_mul, q_div, q_mod, q_pow, q_ge, q_gt, q_tb, List.length_cons, List.length_nil, ixn0, ixn1, List.set, up_same, upup]
      have p18 : L2.CPow 10 18 := ⟨by decide, by decide, by decide⟩
      have p8 : L2.CPow 10 8 := ⟨by decide, by decide, by decide⟩
      have e18 : (10 : Int) ^ Int.toNat 18 = 1000000000000000000 := by decide
      have e8 : (10 : Int) ^ Int.toNat 8 = 100000000 := by decide
      rw [e18, e8]
      have db : DivOk b := div_ok (n := 200) (by omega) (by omega) (by decide) (by decide)
      have bn : b ≠ 0 := by omega
      refine ⟨p18, if_b (fun h1 => ⟨p18, div_ok (n := 64) (by decide) (by decide) (by decide) (by decide), p18, by decide, if_b (fun h2 => ?_) fun h2 => ?_⟩) fun h1 => ?_⟩
      · exact ⟨db, p18, mul_okR (by decide), bn, ret_now (h _ _ (fmod_rng hb).1 (fmod_rng hb).2)⟩
      · exact ⟨bn, ret_now (h _ _ (fmod_rng hb).1 (fmod_rng hb).2)⟩
      · have r1 := fmod_rng (a := c) (b := 2147483629) (by decide)
        generalize c.fmod 2147483629 = u at r1
        have r2 := fmod_rng (a := u * 48271 + 104729 * (n + 1) * (n + 1) + 17) (b := 2147483647) (by decide)
        generalize (u * 48271 + 104729 * (n + 1) * (n + 1) + 17).fmod 2147483647 = v at r2
        have r3 := fmod_rng (a := v) (b := 65521) (by decide)
        generalize v.fmod 65521 = v' at r3
        have r4 := fmod_rng (a := v * (v' + 3)) (b := 2147483587) (by decide)
        generalize (v * (v' + 3)).fmod 2147483587 = t at r4
        have d7 : DivOk 7 := div_ok (n := 64) (by decide) (by decide) (by decide) (by decide)
        refine ⟨by decide, mul_okR (by decide), mul_okL (by decide), mul_okR (by omega), by decide, by decide, mul_okL (by omega), by decide, p8, if_b (fun h3 => ?_) fun h3 => ?_⟩
        · exact ⟨mul_okL (by omega), mul_okR (by omega), mul_okR (by omega), d7, bn, ret_now (h _ _ (fmod_rng hb).1 (fmod_rng hb).2)⟩
        · exact ⟨d7, bn, ret_now (h _ _ (fmod_rng hb).1 (fmod_rng hb).2)⟩
    · exact h.elim
  · exact h.elim
/-! ### fractions -/
/-- what a fraction's top and bottom are divided by -/
def gs (t b : Int) : Int := if b < 0 then 0 - (Int.gcd t b : Int) else (Int.gcd t b : Int)
def frT (t b : Int) : Int := t.fdiv (gs t b)
def frB (t b : Int) : Int := b.fdiv (gs t b)
def fr (t b : Int) : D := .tup [.int (frT t b), .int (frB t b)]
theorem gs_ne {t b : Int} (h : b ≠ 0) : gs t b ≠ 0 := by
  have : Int.gcd t b ≠ 0 := fun e => h (Int.gcd_eq_zero_iff.mp e).2
  unfold gs
  split <;> omega
theorem gs_dvd {t b : Int} : gs t b ∣ t ∧ gs t b ∣ b := by
  have h1 : (Int.gcd t b : Int) ∣ t := Int.gcd_dvd_left ..
  have h2 : (Int.gcd t b : Int) ∣ b := Int.gcd_dvd_right ..
  unfold gs
  split
  · rw [Int.zero_sub]
    exact ⟨Int.neg_dvd.mpr h1, Int.neg_dvd.mpr h2⟩
  · exact ⟨h1, h2⟩
theorem fdiv_dvd {a b : Int} (h : b ∣ a) : a.fdiv b = a / b := by
  rw [Int.fdiv_eq_ediv_of_dvd h]
theorem frT_eq {t b : Int} (h : b ≠ 0) : frT t b * gs t b = t := by
  unfold frT
  rw [fdiv_dvd gs_dvd.1]
  exact Int.ediv_mul_cancel gs_dvd.1
theorem frB_eq {t b : Int} (h : b ≠ 0) : frB t b * gs t b = b := by
  unfold frB
  rw [fdiv_dvd gs_dvd.2]
  exact Int.ediv_mul_cancel gs_dvd.2
theorem frB_pos {t b : Int} (h : b ≠ 0) : 0 < frB t b := by
  have e := frB_eq (t := t) h
  have g := gs_ne (t := t) h
  by_cases hb : b < 0
  · have hg : gs t b < 0 := by
      unfold gs at g ⊢
      rw [if_pos hb] at g ⊢
      omega
    apply Int.not_le.mp
    intro hn
    have := Int.mul_nonneg_of_nonpos_of_nonpos hn (Int.le_of_lt hg)
    omega
  · have hg : 0 < gs t b := by
      unfold gs at g ⊢
      rw [if_neg hb] at g ⊢
      omega
    apply Int.not_le.mp
    intro hn
    have := Int.mul_nonpos_of_nonpos_of_nonneg hn (Int.le_of_lt hg)
    omega
theorem fr_cross {t b : Int} (h : b ≠ 0) : frT t b * b = t * frB t b := by
  have e1 := frT_eq (t := t) h
  have e2 := frB_eq (t := t) h
  calc frT t b * b = frT t b * (frB t b * gs t b) := by rw [e2]
    _ = (frT t b * gs t b) * frB t b := by rw [Int.mul_comm (frB t b), ← Int.mul_assoc]
    _ = t * frB t b := by rw [e1]
theorem gs_abs {t b : Int} : (gs t b).natAbs = Int.gcd t b := by
  unfold gs
  split <;> omega
theorem fr_gcd {t b : Int} (h : b ≠ 0) : Int.gcd (frT t b) (frB t b) = 1 := by
  have e1 := frT_eq (t := t) h
  have e2 := frB_eq (t := t) h
  have g := gs_ne (t := t) h
  have k : Int.gcd (frT t b * gs t b) (frB t b * gs t b) = Int.gcd (frT t b) (frB t b) * (gs t b).natAbs := Int.gcd_mul_right ..
  rw [e1, e2, gs_abs] at k
  have g' : 0 < Int.gcd t b := by
    rw [← gs_abs]
    omega
  have k2 : 1 * Int.gcd t b = Int.gcd (frT t b) (frB t b) * Int.gcd t b := by rw [Nat.one_mul]; exact k
  exact (Nat.eq_of_mul_eq_mul_right g' k2).symm
theorem frT_le {t b : Int} (h : b ≠ 0) : (frT t b).natAbs ≤ t.natAbs := by
  have e := frT_eq (t := t) h
  have g := gs_ne (t := t) h
  have : t.natAbs = (frT t b).natAbs * (gs t b).natAbs := by rw [← Int.natAbs_mul, e]
  rw [this]
  exact Nat.le_mul_of_pos_right _ (by omega)
theorem frB_le {t b : Int} (h : b ≠ 0) : (frB t b).natAbs ≤ b.natAbs := by
  have e := frB_eq (t := t) h
  have g := gs_ne (t := t) h
  have : b.natAbs = (frB t b).natAbs * (gs t b).natAbs := by rw [← Int.natAbs_mul, e]
  rw [this]
  exact Nat.le_mul_of_pos_right _ (by omega)
theorem gs_one {p q : Int} (hq : 0 < q) (h : Int.gcd p q = 1) : gs p q = 1 := by
  unfold gs
  rw [if_neg (by omega), h]
  rfl
/-- the bottom below 2 ^ 9000 -/
def Lt9 (b : Int) : Prop := b.natAbs < 2 ^ 8999
theorem gs_div {t b : Int} (h : b ≠ 0) (hb : Lt9 b) : DivOk (gs t b) := by
  refine div_ok (n := 8999) (gs_ne h) ?_ (by decide) (by decide)
  rw [gs_abs]
  refine Nat.lt_of_le_of_lt ?_ hb
  exact Nat.le_of_dvd (by omega) (Nat.gcd_dvd_right t.natAbs b.natAbs)
/-- frac_of(top, bottom) -/
def c_frac_of : Con := fun ds S P W => match ds with
  | [.int t, .int b] => (b = 0 → W 1 none S) ∧ (b ≠ 0 → Lt9 b ∧ P (fr t b) S)
  | _ => False
theorem m_frac_of {Γ : Gam} (h2 : Γ.fn 2 = c_divisor) (a2 : Γ.ar 2 = 2) : Meets Γ 3 z_frac_of c_frac_of := by
  intro ds S P W h
  unfold c_frac_of at h
  split at h
  · rename_i t b
    change wZs Γ z_frac_of (retE P) [some (.int t), some (.int b), none] S (errW W)
    dsimp only [z_frac_of, wZs, wZ, wE, wEs, wT, wTs, lk, List.set, aTru]
    simp only [h2, a2, c_divisor, q_eq, q_lt, q_tb, q_sub, q_div, List.length_cons, List.length_nil, Nat.reduceAdd, true_and, sizeLine_eq, Nat.reduceLeDiff, lk, List.set]
    refine if_b (fun hb => err_now (h.1 hb)) fun hb => ?_
    obtain ⟨h9, hp⟩ := h.2 hb
    have dv := gs_div (t := t) hb h9
    refine if_b (fun hn => ?_) fun hn => ?_
    · have e : 0 - (Int.gcd t b : Int) = gs t b := by unfold gs; rw [if_pos hn]
      rw [e]
      exact ⟨dv, dv, ret_now hp⟩
    · have e : (Int.gcd t b : Int) = gs t b := by unfold gs; rw [if_neg hn]
      rw [e]
      exact ⟨dv, dv, ret_now hp⟩
  · exact h.elim
/-- _law_number(row): below 10 ** 30 -/
def c_law_number : Con := fun ds S P _ => match ds with
  | [.ref a] => (match S a with
    | some (.lst true [.int c, .int n]) => (0 ≤ n ∧ n < 2 ^ 59) ∧ ∀ k c', k.natAbs < 10 ^ 30 → P (.int k) (S.up a (.lst true [.int c', .int (n + 1 + 1)]))
    | _ => False)
  | _ => False
theorem m_law_number {Γ : Gam} (h0 : Γ.fn 0 = c_law_take) (a0 : Γ.ar 0 = 2) : Meets Γ 2 z_law_number c_law_number := by
  intro ds S P W h
  unfold c_law_number at h
  split at h
  · rename_i a
    split at h
    · rename_i c n e
      obtain ⟨⟨hn0, hn⟩, h⟩ := h
      change wZs Γ z_law_number (retE P) [some (.ref a), none] S (errW W)
      dsimp only [z_law_number, wZs, wZ, wE, wEs, wT, wTs, lk, List.set, aTru]
      simp only [h0, a0, c_law_take, q_sub, q_mul, q_pow, q_add, q_eq, q_tb, e, List.length_cons, List.length_nil, Nat.reduceAdd, true_and, up_same, upup]
      have p9 : L2.CPow 10 9 := ⟨by decide, by decide, by decide⟩
      have p30 : L2.CPow 10 30 := ⟨by decide, by decide, by decide⟩
      have e9 : (10 : Int) ^ Int.toNat 9 = 1000000000 := by decide
      have e30 : (10 : Int) ^ Int.toNat 30 = 1000000000000000000000000000000 := by decide
      rw [e9, e30]
      refine ⟨by decide, ⟨hn0, by omega⟩, fun k c1 k0 k1 => if_b (fun _ => ?_) fun _ => if_b (fun _ => ?_) fun _ => if_b (fun _ => ?_) fun _ => ?_⟩
      · exact ⟨by decide, ⟨by omega, by omega⟩, fun k c2 k0 k1 => ret_now (h _ _ (by omega))⟩
      · exact ⟨by decide, ⟨by omega, by omega⟩, fun k c2 k0 k1 => ret_now (h _ _ (by omega))⟩
      · exact ⟨p9, mul_okL (by decide), by decide, ⟨by omega, by omega⟩, fun k c2 k0 k1 => ⟨p9, ret_now (h _ _ (by omega))⟩⟩
      · exact ⟨p30, mul_okL (by decide), by decide, ⟨by omega, by omega⟩, fun k c2 k0 k1 => ⟨p30, ret_now (h _ _ (by omega))⟩⟩
    · exact h.elim
  · exact h.elim
/-- _law_lowest(top, bottom) -/
def c_law_lowest : Con := fun ds S P _ => match ds with
  | [.int t, .int b] => b ≠ 0 ∧ Lt9 b ∧ P (fr t b) S
  | _ => False
theorem m_law_lowest {Γ : Gam} : Meets Γ 4 z_law_lowest c_law_lowest := by
  intro ds S P W h
  unfold c_law_lowest at h
  split at h
  · rename_i t b
    obtain ⟨hb, h9, hp⟩ := h
    change wZs Γ z_law_lowest (retE P) [some (.int t), some (.int b), none, none] S (errW W)
    dsimp only [z_law_lowest, wZs, wZ, wE, wEs, wT, wTs, lk, List.set, aTru]
    simp only [q_abs, q_gt, q_lt, q_tb, q_sub, q_div, q_mod, List.length_cons, List.length_nil, Nat.reduceAdd, true_and, sizeLine_eq, Nat.reduceLeDiff, lk, List.set]
    refine ⟨fun m ρ S1 => S1 = S ∧ ∃ p q : Nat, m = q ∧ ρ = [some (.int t), some (.int b), some (.int p), some (.int q)] ∧ Nat.gcd p q = Int.gcd t b, ⟨b.natAbs, rfl, t.natAbs, b.natAbs, rfl, rfl, rfl⟩, ?_⟩
    rintro q ρ S1 ⟨rfl, p, _, rfl, rfl, hg⟩
    simp only [lk, List.set, q_gt, q_mod, q_lt, q_tb, q_div, q_sub]
    refine if_b (fun hq => ?_) fun hq => ?_
    · refine ⟨by omega, p % q, Nat.mod_lt _ (by omega), trivial, q, p % q, rfl, ?_, ?_⟩
      · rw [gcd_step (by omega)]
      · rw [← hg, Nat.gcd_comm p q, Nat.gcd_rec q p, Nat.gcd_comm]
    · have e : q = 0 := by omega
      subst e
      rw [Nat.gcd_zero_right] at hg
      rw [hg]
      have dv := gs_div (t := t) hb h9
      refine if_b (fun hn => ?_) fun hn => ?_
      · have e : 0 - (Int.gcd t b : Int) = gs t b := by unfold gs; rw [if_pos hn]
        rw [e]
        exact ⟨dv, dv, ret_now hp⟩
      · have e : (Int.gcd t b : Int) = gs t b := by unfold gs; rw [if_neg hn]
        rw [e]
        exact ⟨dv, dv, ret_now hp⟩
  · exact h.elim
/-- _law_whole(found) -/
def c_law_whole : Con := fun ds S P _ => match ds with
  | [d] => (match btOf S d with
    | some k => P (.bl (k == "int")) S
    | none => False)
  | _ => False
theorem m_law_whole {Γ : Gam} : Meets Γ 1 z_law_whole c_law_whole := by
  intro ds S P W h
  unfold c_law_whole at h
  split at h
  · rename_i d
    split at h
    · rename_i k e
      change wZs Γ z_law_whole (retE P) [some d] S (errW W)
      dsimp only [z_law_whole, wZs, wZ, wE, wEs, wT, wTs, lk, List.set, aTru]
      simp only [isiAny, isiOne, e, btSub, q_tb]
      by_cases h1 : k = "int"
      · subst h1
        exact ret_now h
      · by_cases h2 : k = "bool"
        · subst h2
          exact ret_now h
        · have e1 : (k == "int") = false := by simpa using h1
          have e2 : (k == "bool") = false := by simpa using h2
          simp only [e1, e2, Bool.false_and, Bool.false_or, Bool.or_false, q_tb] at h ⊢
          exact ret_now h
    · exact h.elim
  · exact h.elim
theorem whole_int {S : Sto} {P : PD} {W : FW} {i : Int} : c_law_whole [.int i] S P W = P (.bl true) S := rfl
theorem whole_bl {S : Sto} {P : PD} {W : FW} {i : Bool} : c_law_whole [.bl i] S P W = P (.bl false) S := rfl
theorem whole_tup {S : Sto} {P : PD} {W : FW} {l : List D} : c_law_whole [.tup l] S P W = P (.bl false) S := rfl
theorem whole_non {S : Sto} {P : PD} {W : FW} : c_law_whole [.non] S P W = P (.bl false) S := rfl
/-- the greatest common divisor of two numbers divided by it -/
theorem gcd_div {a b : Int} (h : Int.gcd a b ≠ 0) : Int.gcd (a.fdiv (Int.gcd a b : Int)) (b.fdiv (Int.gcd a b : Int)) = 1 := by
  have h1 : (Int.gcd a b : Int) ∣ a := Int.gcd_dvd_left ..
  have h2 : (Int.gcd a b : Int) ∣ b := Int.gcd_dvd_right ..
  rw [fdiv_dvd h1, fdiv_dvd h2]
  have k : Int.gcd (a / (Int.gcd a b : Int) * (Int.gcd a b : Int)) (b / (Int.gcd a b : Int) * (Int.gcd a b : Int)) = Int.gcd (a / (Int.gcd a b : Int)) (b / (Int.gcd a b : Int)) * ((Int.gcd a b : Int)).natAbs := Int.gcd_mul_right ..
  rw [Int.ediv_mul_cancel h1, Int.ediv_mul_cancel h2] at k
  have e : ((Int.gcd a b : Int)).natAbs = Int.gcd a b := by omega
  rw [e] at k
  have k2 : 1 * Int.gcd a b = Int.gcd (a / (Int.gcd a b : Int)) (b / (Int.gcd a b : Int)) * Int.gcd a b := by rw [Nat.one_mul]; exact k
  exact (Nat.eq_of_mul_eq_mul_right (by omega) k2).symm
theorem fmod_dvd {a b : Int} (h : b ∣ a) : a.fmod b = 0 := Int.fmod_eq_zero_of_dvd h
theorem fdiv_one {a : Int} : a.fdiv 1 = a := Int.fdiv_one ..
theorem fdiv_neg1 {a : Int} : a.fdiv (0 - 1) = 0 - a := by
  rw [fdiv_dvd (by exact ⟨-a, by omega⟩)]
  omega
theorem fr_low {p q : Int} (h : Int.gcd p q = 1) : fr p q = .tup [.int p, .int q] ∨ fr p q = .tup [.int (0 - p), .int (0 - q)] := by
  unfold fr frT frB gs
  rw [h]
  by_cases hq : q < 0
  · rw [if_pos hq]
    exact .inr (by rw [show (0 : Int) - ((1 : Nat) : Int) = 0 - 1 from rfl, fdiv_neg1, fdiv_neg1])
  · rw [if_neg hq]
    exact .inl (by rw [show ((1 : Nat) : Int) = 1 from rfl, fdiv_one, fdiv_one])
theorem fr_self {p q : Int} (hq : 0 < q) (h : Int.gcd p q = 1) : fr p q = .tup [.int p, .int q] := by
  unfold fr frT frB
  rw [gs_one hq h, fdiv_one, fdiv_one]
theorem gcd_small {a b : Int} (h : ¬ (a = 0 ∧ b = 0)) : Int.gcd a b ≠ 0 := fun e => h (Int.gcd_eq_zero_iff.mp e)
theorem gcd_ok {a b : Int} (h : ¬ (a = 0 ∧ b = 0)) (ha : Lt9 a) (hb : Lt9 b) : DivOk (Int.gcd a b : Int) := by
  have g := gcd_small h
  refine div_ok (n := 8999) (by omega) ?_ (by decide) (by decide)
  rw [show ((Int.gcd a b : Int)).natAbs = Int.gcd a b by omega]
  by_cases z : b = 0
  · refine Nat.lt_of_le_of_lt ?_ ha
    exact Nat.le_of_dvd (by omega) (Nat.gcd_dvd_left a.natAbs b.natAbs)
  · refine Nat.lt_of_le_of_lt ?_ hb
    exact Nat.le_of_dvd (by omega) (Nat.gcd_dvd_right a.natAbs b.natAbs)
theorem fdiv_le {a b : Int} (h : b ∣ a) (hb : b ≠ 0) : (a.fdiv b).natAbs ≤ a.natAbs := by
  rw [fdiv_dvd h]
  have e : a / b * b = a := Int.ediv_mul_cancel h
  have : a.natAbs = (a / b).natAbs * b.natAbs := by rw [← Int.natAbs_mul, e]
  rw [this]
  exact Nat.le_mul_of_pos_right _ (by omega)
/-- _law_is_frac of a pair of numbers -/
def c_law_is_frac : Con := fun ds S P _ => match ds with
  | [.tup [.int p, .int q]] => Lt9 q ∧ P (.bl (decide (0 < q ∧ Int.gcd p q = 1))) S
  | _ => False
theorem m_law_is_frac {Γ : Gam} (h4 : Γ.fn 4 = c_law_lowest) (a4 : Γ.ar 4 = 2) (h5 : Γ.fn 5 = c_law_whole) (a5 : Γ.ar 5 = 1) : Meets Γ 1 z_law_is_frac c_law_is_frac := by
  intro ds S P W h
  unfold c_law_is_frac at h
  split at h
  · rename_i p q
    obtain ⟨h9, hp⟩ := h
    change wZs Γ z_law_is_frac (retE P) [some (.tup [.int p, .int q])] S (errW W)
    dsimp only [z_law_is_frac, wZs, wZ, wE, wEs, wT, wTs, lk, List.set, aTru]
    simp only [h4, a4, h5, a5, whole_int, c_law_lowest, q_ixT, at0, at1, q_lenT, q_gt, q_tb, q_ne, List.length_cons, List.length_nil, Nat.reduceAdd, true_and, sizeLine_eq, Nat.reduceLeDiff, Bool.not_true, isiAny, isiOne, btOf]
    refine mb_d (fun hq => ⟨by omega, h9, ?_⟩) fun hq => ?_
    · unfold fr
      rw [q_eqP]
      have e : (frT p q = p ∧ frB p q = q) ↔ (0 < q ∧ Int.gcd p q = 1) := by
        constructor
        · intro ⟨e1, e2⟩
          have := fr_gcd (t := p) (b := q) (by omega)
          rw [e1, e2] at this
          exact ⟨hq, this⟩
        · intro ⟨_, e⟩
          have := fr_self hq e
          unfold fr at this
          injection this with this
          injection this with t1 this
          injection this with t2 this
          injection t1 with t1
          injection t2 with t2
          exact ⟨t1, t2⟩
      rw [decide_eq_decide.mpr e]
      exact ret_now hp
    · rw [decide_eq_false (fun x => hq x.1)] at hp
      rw [decide_eq_false hq]
      exact ret_now hp
  · exact h.elim
theorem lt9_30 {k : Int} (h : k.natAbs < 10 ^ 30) : Lt9 k := Nat.lt_trans h (by decide +kernel)
theorem lt9_0 : Lt9 0 := by
  unfold Lt9
  decide +kernel
/-- what the laws get and give -/
def c_lawT : Con := fun ds S P _ => match ds with
  | [.ref a] => ∃ (w : Bool) (ns : List Int), S a = some (.lst w (ns.map D.int)) ∧ ns.length ≤ 63 ∧ P (.bl true) S
  | _ => False
theorem lawT_con : LawCon c_lawT := fun a w ns S hl hb e => ⟨w, ns, e, hl, rfl⟩
end Sd
namespace Sd
open PySem
theorem Bd.lt9 {n : Nat} {x : Int} (h : Bd n x) (hl : n ≤ 8999) : Lt9 x := h.mono hl
theorem bd30 {x : Int} (h : x.natAbs < 10 ^ 30) : Bd 100 x := Nat.lt_trans h (by decide +kernel)
theorem Bd.frT {n : Nat} {t b : Int} (h : Bd n t) (hb : b ≠ 0) : Bd n (frT t b) := h.le (frT_le hb)
theorem Bd.frB {n : Nat} {t b : Int} (h : Bd n b) (hb : b ≠ 0) : Bd n (frB t b) := h.le (frB_le hb)
/-- a fraction, as a pair -/
abbrev Fr := Int × Int
def dF (x : Fr) : D := .tup [.int x.1, .int x.2]
def frF (t b : Int) : Fr := (frT t b, frB t b)
/-- in lowest terms -/
def Low (x : Fr) : Prop := 0 < x.2 ∧ Int.gcd x.1 x.2 = 1
instance {x : Fr} : Decidable (Low x) := inferInstanceAs (Decidable (_ ∧ _))
theorem q_eqF {x y : Fr} {S : Sto} {P : PD} : cmpS .Eq (dF x) (dF y) S P = P (.bl (decide (x = y))) S := by
  unfold dF
  rw [q_eqP, decide_eq_decide.mpr (show (x.1 = y.1 ∧ x.2 = y.2) ↔ x = y from ⟨fun h => Prod.ext h.1 h.2, fun h => h ▸ ⟨rfl, rfl⟩⟩)]
theorem q_neF {x y : Fr} {S : Sto} {P : PD} : cmpS .NotEq (dF x) (dF y) S P = P (.bl (!decide (x = y))) S := by
  unfold dF
  rw [q_neP, decide_eq_decide.mpr (show (x.1 = y.1 ∧ x.2 = y.2) ↔ x = y from ⟨fun h => Prod.ext h.1 h.2, fun h => h ▸ ⟨rfl, rfl⟩⟩)]
theorem q_isF {x : Fr} {S : Sto} {P : PD} {W : FW} : c_law_is_frac [dF x] S P W = (Lt9 x.2 ∧ P (.bl (decide (Low x))) S) := rfl
theorem low_frF {t b : Int} (h : b ≠ 0) : Low (frF t b) := ⟨frB_pos h, fr_gcd h⟩
/-- _law_frac(row) -/
def c_law_frac : Con := fun ds S P _ => match ds with
  | [.ref a] => (match S a with
    | some (.lst true [.int c, .int n]) => (0 ≤ n ∧ n < 2 ^ 58) ∧ ∀ p q c', Bd 100 p → Bd 100 q → Low (p, q) → P (.tup [.int p, .int q]) (S.up a (.lst true [.int c', .int (n + 4)]))
    | _ => False)
  | _ => False
theorem m_law_frac {Γ : Gam} (h1 : Γ.fn 1 = c_law_number) (a1 : Γ.ar 1 = 1) (h4 : Γ.fn 4 = c_law_lowest) (a4 : Γ.ar 4 = 2) : Meets Γ 2 z_law_frac c_law_frac := by
  intro ds S P W h
  unfold c_law_frac at h
  split at h
  · rename_i a
    split at h
    · rename_i c n e
      obtain ⟨⟨hn0, hn⟩, h⟩ := h
      change wZs Γ z_law_frac (retE P) [some (.ref a), none] S (errW W)
      dsimp only [z_law_frac, wZs, wZ, wE, wEs, wT, wTs, lk, List.set, aTru]
      simp only [h1, a1, h4, a4, c_law_number, c_law_lowest, q_eq, q_tb, e, List.length_cons, List.length_nil, Nat.reduceAdd, true_and, up_same, upup, lk, List.set]
      have go : ∀ q, q ≠ 0 → q.natAbs < 10 ^ 30 → ∀ p c2, p.natAbs < 10 ^ 30 → (retE P).rt (fr p q) (S.up a (.lst true [.int c2, .int (n + 1 + 1 + 1 + 1)])) := fun q hq hb p c2 hp => by
        have e4 : n + 1 + 1 + 1 + 1 = n + 4 := by omega
        rw [e4]
        exact ret_now (h _ _ _ ((bd30 hp).frT hq) ((bd30 hb).frB hq) (low_frF hq))
      refine ⟨⟨hn0, by omega⟩, fun q c1 hq => if_b (fun z => ?_) fun z => ?_⟩
      · exact ⟨⟨by omega, by omega⟩, fun p c2 hp => ⟨by decide, Bd.lt9 (n := 1) (by unfold Bd; decide) (by decide), go 1 (by decide) (by decide) p c2 hp⟩⟩
      · exact ⟨⟨by omega, by omega⟩, fun p c2 hp => ⟨z, lt9_30 hq, go q z hq p c2 hp⟩⟩
    · exact h.elim
  · exact h.elim
/-- four numbers of so many bits -/
def Bd4 (a b c d : Int) : Prop := ∃ n, n ≤ 4499 ∧ Bd n a ∧ Bd n b ∧ Bd n c ∧ Bd n d
def c_added : Con := fun ds S P _ => match ds with
  | [.tup [.int a, .int b], .tup [.int c, .int d]] => b ≠ 0 ∧ d ≠ 0 ∧ Bd4 a b c d ∧ P (fr (a * d + c * b) (b * d)) S
  | _ => False
def c_lessened : Con := fun ds S P _ => match ds with
  | [.tup [.int a, .int b], .tup [.int c, .int d]] => b ≠ 0 ∧ d ≠ 0 ∧ Bd4 a b c d ∧ P (fr (a * d - c * b) (b * d)) S
  | _ => False
def c_multiplied : Con := fun ds S P _ => match ds with
  | [.tup [.int a, .int b], .tup [.int c, .int d]] => b ≠ 0 ∧ d ≠ 0 ∧ Bd4 a b c d ∧ P (fr (a * c) (b * d)) S
  | _ => False
def c_quotient : Con := fun ds S P W => match ds with
  | [.tup [.int a, .int b], .tup [.int c, .int d]] => b ≠ 0 ∧ d ≠ 0 ∧ Bd4 a b c d ∧ (c = 0 → W 1 none S) ∧ (c ≠ 0 → P (fr (a * d) (b * c)) S)
  | _ => False
def c_is_below : Con := fun ds S P _ => match ds with
  | [.tup [.int a, .int b], .tup [.int c, .int d]] => Bd4 a b c d ∧ P (.bl (decide (a * d < c * b))) S
  | _ => False
theorem m_added {Γ : Gam} (h3 : Γ.fn 3 = c_frac_of) (a3 : Γ.ar 3 = 2) : Meets Γ 2 z_added c_added := by
  intro ds S P W h
  unfold c_added at h
  split at h
  · rename_i a b c d
    obtain ⟨hb, hd, ⟨n, hn, ba, bb, bc, bd⟩, hp⟩ := h
    change wZs Γ z_added (retE P) [some (.tup [.int a, .int b]), some (.tup [.int c, .int d])] S (errW W)
    dsimp only [z_added, wZs, wZ, wE, wEs, wT, wTs, lk, List.set, aTru]
    simp only [h3, a3, c_frac_of, q_ixT, at0, at1, q_mul, q_add, List.length_cons, List.length_nil, Nat.reduceAdd, true_and]
    exact ⟨ba.ok bd (by omega), bc.ok bb (by omega), bb.ok bd (by omega), fun z => (Int.mul_ne_zero hb hd z).elim, fun _ => ⟨(bb.mul bd).lt9 (by omega), ret_now hp⟩⟩
  · exact h.elim
theorem m_lessened {Γ : Gam} (h3 : Γ.fn 3 = c_frac_of) (a3 : Γ.ar 3 = 2) : Meets Γ 2 z_lessened c_lessened := by
  intro ds S P W h
  unfold c_lessened at h
  split at h
  · rename_i a b c d
    obtain ⟨hb, hd, ⟨n, hn, ba, bb, bc, bd⟩, hp⟩ := h
    change wZs Γ z_lessened (retE P) [some (.tup [.int a, .int b]), some (.tup [.int c, .int d])] S (errW W)
    dsimp only [z_lessened, wZs, wZ, wE, wEs, wT, wTs, lk, List.set, aTru]
    simp only [h3, a3, c_frac_of, q_ixT, at0, at1, q_mul, q_sub, List.length_cons, List.length_nil, Nat.reduceAdd, true_and]
    exact ⟨ba.ok bd (by omega), bc.ok bb (by omega), bb.ok bd (by omega), fun z => (Int.mul_ne_zero hb hd z).elim, fun _ => ⟨(bb.mul bd).lt9 (by omega), ret_now hp⟩⟩
  · exact h.elim
theorem m_multiplied {Γ : Gam} (h3 : Γ.fn 3 = c_frac_of) (a3 : Γ.ar 3 = 2) : Meets Γ 2 z_multiplied c_multiplied := by
  intro ds S P W h
  unfold c_multiplied at h
  split at h
  · rename_i a b c d
    obtain ⟨hb, hd, ⟨n, hn, ba, bb, bc, bd⟩, hp⟩ := h
    change wZs Γ z_multiplied (retE P) [some (.tup [.int a, .int b]), some (.tup [.int c, .int d])] S (errW W)
    dsimp only [z_multiplied, wZs, wZ, wE, wEs, wT, wTs, lk, List.set, aTru]
    simp only [h3, a3, c_frac_of, q_ixT, at0, at1, q_mul, List.length_cons, List.length_nil, Nat.reduceAdd, true_and]
    exact ⟨ba.ok bc (by omega), bb.ok bd (by omega), fun z => (Int.mul_ne_zero hb hd z).elim, fun _ => ⟨(bb.mul bd).lt9 (by omega), ret_now hp⟩⟩
  · exact h.elim
theorem m_quotient {Γ : Gam} (h3 : Γ.fn 3 = c_frac_of) (a3 : Γ.ar 3 = 2) : Meets Γ 2 z_quotient c_quotient := by
  intro ds S P W h
  unfold c_quotient at h
  split at h
  · rename_i a b c d
    obtain ⟨hb, hd, ⟨n, hn, ba, bb, bc, bd⟩, hw, hp⟩ := h
    change wZs Γ z_quotient (retE P) [some (.tup [.int a, .int b]), some (.tup [.int c, .int d])] S (errW W)
    dsimp only [z_quotient, wZs, wZ, wE, wEs, wT, wTs, lk, List.set, aTru]
    simp only [h3, a3, c_frac_of, q_ixT, at0, at1, q_mul, q_eq, q_tb, List.length_cons, List.length_nil, Nat.reduceAdd, true_and]
    refine if_b (fun z => err_now (hw z)) fun z => ?_
    exact ⟨ba.ok bd (by omega), bb.ok bc (by omega), fun y => (Int.mul_ne_zero hb z y).elim, fun _ => ⟨(bb.mul bc).lt9 (by omega), ret_now (hp z)⟩⟩
  · exact h.elim
theorem m_is_below {Γ : Gam} : Meets Γ 2 z_is_below c_is_below := by
  intro ds S P W h
  unfold c_is_below at h
  split at h
  · rename_i a b c d
    obtain ⟨⟨n, hn, ba, bb, bc, bd⟩, hp⟩ := h
    change wZs Γ z_is_below (retE P) [some (.tup [.int a, .int b]), some (.tup [.int c, .int d])] S (errW W)
    dsimp only [z_is_below, wZs, wZ, wE, wEs, wT, wTs, lk, List.set, aTru]
    simp only [q_ixT, at0, at1, q_mul, q_lt, List.length_cons, List.length_nil, Nat.reduceAdd, true_and]
    exact ⟨ba.ok bd (by omega), bc.ok bb (by omega), ret_now hp⟩
  · exact h.elim
/-! ### sums of fractions -/
def addF (x y : Fr) : Fr := frF (x.1 * y.2 + y.1 * x.2) (x.2 * y.2)
def sumF (l : List Fr) (x : Fr) : Fr := l.foldl addF x
/-- after k parts of 100 bits -/
def Sum9 (k : Nat) (x : Fr) : Prop := x.2 ≠ 0 ∧ Bd (101 * k + 1) x.1 ∧ Bd (101 * k + 1) x.2
def Part (x : Fr) : Prop := x.2 ≠ 0 ∧ Bd 100 x.1 ∧ Bd 100 x.2
theorem sum9_add {k : Nat} {x y : Fr} (h : Sum9 k x) (hy : Part y) : Sum9 (k + 1) (addF x y) := by
  obtain ⟨h1, h2, h3⟩ := h
  obtain ⟨p1, p2, p3⟩ := hy
  have z : x.2 * y.2 ≠ 0 := Int.mul_ne_zero h1 p1
  have m1 : Bd (101 * k + 1 + 100 + 1) (x.1 * y.2 + y.1 * x.2) := (h2.mul p3).add ((p2.mul h3).mono (by omega))
  have m2 : Bd (101 * k + 1 + 100) (x.2 * y.2) := h3.mul p3
  exact ⟨Int.ne_of_gt (frB_pos z), (m1.frT z).mono (by omega), (m2.frB z).mono (by omega)⟩
/-- sum_of(parts) -/
def c_sum_of : Con := fun ds S P _ => match ds with
  | [.ref a] => ∃ w l, S a = some (.lst w (l.map dF)) ∧ l.length ≤ 30 ∧ (∀ x ∈ l, Part x) ∧ P (dF (sumF l (0, 1))) S
  | _ => False
theorem m_sum_of {Γ : Gam} (h14 : Γ.fn 14 = c_added) (a14 : Γ.ar 14 = 2) : Meets Γ 3 z_sum_of c_sum_of := by
  intro ds S P W h
  unfold c_sum_of at h
  split at h
  · rename_i a
    obtain ⟨w, l, e, hl, hpt, hp⟩ := h
    change wZs Γ z_sum_of (retE P) [some (.ref a), none, none] S (errW W)
    dsimp only [z_sum_of, wZs, wZ, wE, wEs, wT, wTs, wI, lk, List.set, aTru]
    simp only [e, List.length_cons, List.length_nil, Nat.reduceAdd, Nat.reduceLeDiff, sizeLine_eq, true_and]
    refine for_ind (src := .lst a w (l.map dF)) (fun r ρ S1 => S1 = S ∧ ∃ k x y m, r = m.map dF ∧ ρ = [some (.ref a), some (dF x), y] ∧ Sum9 k x ∧ k + m.length ≤ 30 ∧ (∀ x ∈ m, Part x) ∧ sumF m x = sumF l (0, 1)) ?_ ?_ ?_ ⟨rfl, 0, (0, 1), none, l, rfl, rfl, ⟨by decide, by unfold Bd; decide, by unfold Bd; decide⟩, by omega, hpt, rfl⟩
    · rintro r ρ S1 ⟨rfl, _⟩
      exact e
    · rintro ρ S1 ⟨rfl, k, x, y, m, hm, rfl, hx, hk, hmp, hs⟩
      have hm' : m = [] := by
        cases m with
        | nil => rfl
        | cons _ _ => cases hm
      subst hm'
      have hs' : x = sumF l (0, 1) := hs
      rw [← hs'] at hp
      exact ret_now hp
    · rintro F d r ρ S1 ⟨rfl, k, x, y, m, hm, rfl, hx, hk, hmp, hs⟩ hF
      cases m with
      | nil => cases hm
      | cons y m =>
        simp only [List.map_cons, List.cons.injEq] at hm
        obtain ⟨rfl, rfl⟩ := hm
        have py := hmp y (by simp)
        have s9 := sum9_add hx py
        have hk' : k + (m.length + 1) ≤ 30 := hk
        simp only [List.set, lk, h14, a14, c_added, dF]
        refine ⟨trivial, hx.1, py.1, ⟨3500, by omega, hx.2.1.mono (by omega), hx.2.2.mono (by omega), py.2.1.mono (by omega), py.2.2.mono (by omega)⟩, ?_⟩
        exact hF _ _ ⟨rfl, k + 1, addF x y, _, m, rfl, rfl, s9, by omega, fun z hz => hmp z (by simp [hz]), hs⟩
  · exact h.elim
end Sd
namespace Sd
open PySem
abbrev c_law_take_2 : Con := c_law_take
theorem m_law_take_2 {Γ : Gam} : Meets Γ 4 z_law_take_2 c_law_take_2 := by
  intro ds S P W h
  unfold c_law_take_2 c_law_take at h
  split at h
  · rename_i a b
    split at h
    · rename_i c n e
      obtain ⟨⟨hb, hb2⟩, ⟨hn0, hn⟩, h⟩ := h
      change wZs Γ z_law_take_2 (retE P) [some (.ref a), some (.int b), none, none] S (errW W)
      dsimp only [z_law_take_2, wZs, wZ, wE, wEs, wT, wTs, lk, List.set, aTru]
      simp only [q_ixL, e, at0, at1, q_add, q_sub, q_mul, q_div, q_mod, q_pow, q_ge, q_gt, q_tb, List.length_cons, List.length_nil, ixn0, ixn1, List.set, up_same, upup]
      have p18 : L2.CPow 10 18 := ⟨by decide, by decide, by decide⟩
      have e18 : (10 : Int) ^ Int.toNat 18 = 1000000000000000000 := by decide
      rw [e18]
      have db : DivOk b := div_ok (n := 200) (by omega) (by omega) (by decide) (by decide)
      have bn : b ≠ 0 := by omega
      refine ⟨p18, if_b (fun h1 => ⟨p18, div_ok (n := 64) (by decide) (by decide) (by decide) (by decide), p18, by decide, if_b (fun h2 => ?_) fun h2 => ?_⟩) fun h1 => ?_⟩
      · exact ⟨db, p18, mul_okR (by decide), bn, ret_now (h _ _ (fmod_rng hb).1 (fmod_rng hb).2)⟩
      · exact ⟨bn, ret_now (h _ _ (fmod_rng hb).1 (fmod_rng hb).2)⟩
      · have r1 := fmod_rng (a := c) (b := 2147483629) (by decide)
        generalize c.fmod 2147483629 = u at r1
        have r2 := fmod_rng (a := u * 48271 + 104729 * (n + 1) * (n + 1) + 17) (b := 2147483647) (by decide)
        generalize (u * 48271 + 104729 * (n + 1) * (n + 1) + 17).fmod 2147483647 = v at r2
        have r3 := fmod_rng (a := v) (b := 65521) (by decide)
        have d7 : DivOk 7 := div_ok (n := 64) (by decide) (by decide) (by decide) (by decide)
        exact ⟨by decide, mul_okR (by decide), mul_okL (by decide), mul_okR (by omega), by decide, by decide, mul_okL (by omega), by decide, d7, bn, ret_now (h _ _ (fmod_rng hb).1 (fmod_rng hb).2)⟩
    · exact h.elim
  · exact h.elim
/-! ### things of any kind -/
/-- of a known kind -/
def Kd (S : Sto) (d : D) : Prop := ∃ k, btOf S d = some k
/-- a part of a tuple -/
def Comp (S : Sto) (x : D) : Prop := Kd S x ∧ ∀ i, x = .int i → Bd 200 i
/-- a thing: a tuple of parts, or no tuple -/
def Thing (S : Sto) : D → Prop
  | .tup l => ∀ x ∈ l, Comp S x
  | d => Kd S d
theorem comp_int {S : Sto} {i : Int} (h : Bd 200 i) : Comp S (.int i) := ⟨⟨_, rfl⟩, fun _ e => by cases e; exact h⟩
theorem comp_bl {S : Sto} {b : Bool} : Comp S (.bl b) := ⟨⟨_, rfl⟩, fun _ e => by cases e⟩
theorem comp_non {S : Sto} : Comp S .non := ⟨⟨_, rfl⟩, fun _ e => by cases e⟩
theorem comp_str {S : Sto} {s : Str} : Comp S (.str s) := ⟨⟨_, rfl⟩, fun _ e => by cases e⟩
theorem comp_tup {S : Sto} {l : List D} : Comp S (.tup l) := ⟨⟨_, rfl⟩, fun _ e => by cases e⟩
theorem bt_ref {S : Sto} {a : Addr} : btOf S (.ref a) = (match S a with
    | some (.lst _ _) => some "list"
    | _ => none) := rfl
theorem bt_list {S : Sto} {a : Addr} {k : String} (e : btOf S (.ref a) = some k) : k = "list" := by
  rw [bt_ref] at e
  split at e
  · cases e; rfl
  · cases e
theorem kd_ref {S : Sto} {p : Addr} {w : Bool} {l : List D} (h : S p = some (.lst w l)) : Kd S (.ref p) := by
  refine ⟨"list", ?_⟩
  rw [bt_ref, h]
theorem comp_ref {S : Sto} {p : Addr} {w : Bool} {l : List D} (h : S p = some (.lst w l)) : Comp S (.ref p) := ⟨kd_ref h, fun _ e => by cases e⟩
/-- is a fraction -/
def fracB : D → Bool
  | .tup [.int p, .int q] => decide (0 < q ∧ Int.gcd p q = 1)
  | _ => false
abbrev c_is_whole : Con := c_law_whole
theorem m_is_whole {Γ : Gam} : Meets Γ 1 z_is_whole c_is_whole := m_law_whole (Γ := Γ)
def c_is_frac : Con := fun ds S P _ => match ds with
  | [d] => Thing S d ∧ P (.bl (fracB d)) S
  | _ => False
theorem whole_kd {S : Sto} {P : PD} {W : FW} {x : D} (h : Kd S x) (h1 : ∀ i, x = .int i → P (.bl true) S) (h2 : (∀ i, x ≠ .int i) → P (.bl false) S) : c_law_whole [x] S P W := by
  obtain ⟨k, e⟩ := h
  show match btOf S x with
    | some k => P (.bl (k == "int")) S
    | none => False
  rw [e]
  show P (.bl (k == "int")) S
  cases x with
  | int i => cases e; exact h1 i rfl
  | non => cases e; exact h2 (fun _ z => by cases z)
  | bl b => cases e; exact h2 (fun _ z => by cases z)
  | str s => cases e; exact h2 (fun _ z => by cases z)
  | ty t => cases e
  | tup l => cases e; exact h2 (fun _ z => by cases z)
  | ref a =>
    have : k = "list" := bt_list e
    subst this
    exact h2 (fun _ z => by cases z)
theorem isi_tup {S : Sto} {l : List D} : isiAny S (.tup l) [.bt "tuple"] = some true := rfl
theorem isi_not {S : Sto} {d : D} (h : Kd S d) (hn : ∀ l, d ≠ .tup l) : isiAny S d [.bt "tuple"] = some false := by
  obtain ⟨k, e⟩ := h
  cases d with
  | tup l => exact (hn l rfl).elim
  | int i => rfl
  | non => rfl
  | bl b => rfl
  | str s => rfl
  | ty t => cases e
  | ref a =>
    have : k = "list" := bt_list e
    subst this
    simp only [isiAny, isiOne, e]
    rfl
theorem m_is_frac {Γ : Gam} (h21 : Γ.fn 21 = c_is_whole) (a21 : Γ.ar 21 = 1) (h2 : Γ.fn 2 = c_divisor) (a2 : Γ.ar 2 = 2) : Meets Γ 1 z_is_frac c_is_frac := by
  intro ds S P W h
  unfold c_is_frac at h
  split at h
  · rename_i d
    obtain ⟨ht, hp⟩ := h
    change wZs Γ z_is_frac (retE P) [some d] S (errW W)
    dsimp only [z_is_frac, wZs, wZ, wE, wEs, wT, wTs, lk, List.set, aTru]
    by_cases hd : ∃ l, d = .tup l
    · obtain ⟨l, rfl⟩ := hd
      have ht' : ∀ x ∈ l, Comp S x := ht
      simp only [isi_tup, q_tb, Bool.not_true, q_lenT, q_ne]
      by_cases hl : l.length = 2
      · match l, hl with
        | [x, y], _ =>
          have hx := (ht' x (by simp)).1
          have hy := (ht' y (by simp)).1
          simp only [List.length_cons, List.length_nil, Nat.reduceAdd, q_ixT, at0, at1, h21, a21, h2, a2, true_and, c_divisor]
          have e2 : decide (((2 : Nat) : Int) = 2) = true := rfl
          simp only [e2, Bool.not_true]
          refine whole_kd hx (fun i e => ?_) fun e => ?_
          · subst e
            simp only [q_tb, Bool.not_true]
            refine whole_kd hy (fun j e => ?_) fun e => ?_
            · subst e
              simp only [q_tb, Bool.not_true, Bool.false_eq_true, if_false, q_ge, q_eq]
              refine mb_d (fun hq => ?_) fun hq => ?_
              · have e1 : ((Int.gcd i j : Int) = 1) ↔ (0 < j ∧ Int.gcd i j = 1) := by omega
                rw [decide_eq_decide.mpr e1]
                exact ret_now hp
              · have e1 : fracB (.tup [.int i, .int j]) = false := decide_eq_false (fun z => hq (by omega))
                rw [e1] at hp
                rw [decide_eq_false hq]
                exact ret_now hp
            · have e1 : fracB (.tup [.int i, y]) = false := by
                cases y <;> first | rfl | exact (e _ rfl).elim
              rw [e1] at hp
              exact ret_now hp
          · have e1 : fracB (.tup [x, y]) = false := by
              cases x <;> first | rfl | exact (e _ rfl).elim
            rw [e1] at hp
            exact ret_now hp
      · have e1 : fracB (.tup l) = false := by
          match l, hl with
          | [], _ => rfl
          | [_], _ => simp [fracB]
          | [_, _], hl => exact (hl rfl).elim
          | _ :: _ :: _ :: _, _ => simp [fracB]
        rw [e1] at hp
        refine mb_n (fun _ => ?_) fun z => (hl (by omega)).elim
        rw [decide_eq_false (fun z : ((l.length : Nat) : Int) = 2 => hl (by omega))]
        exact ret_now hp
    · have hk : Kd S d := by
        cases d <;> first | exact ht | exact (hd ⟨_, rfl⟩).elim
      have e1 : fracB d = false := by
        cases d <;> first | rfl | exact (hd ⟨_, rfl⟩).elim
      rw [e1] at hp
      simp only [isi_not hk (fun l e => hd ⟨l, e⟩), q_tb, Bool.not_false, reduceIte]
      exact ret_now hp
  · exact h.elim
end Sd
namespace Sd
/-! ### rational numbers: sizes, spots -/
/-- of at most n bits -/
def Sz (n : Nat) (x : Rat) : Prop := x.num.natAbs < 2 ^ n ∧ x.den < 2 ^ n
theorem Sz.mono {n m : Nat} {x : Rat} (h : Sz n x) (l : n ≤ m) : Sz m x :=
  ⟨Nat.lt_of_lt_of_le h.1 (Nat.pow_le_pow_right (by decide) l), Nat.lt_of_lt_of_le h.2 (Nat.pow_le_pow_right (by decide) l)⟩
theorem div_small {t b : Int} (hb : b ≠ 0) : ((t : Rat) / b).num.natAbs ≤ t.natAbs ∧ ((t : Rat) / b).den ≤ b.natAbs := by
  rw [← Rat.divInt_eq_div]
  have hbn : 0 < b.natAbs := by omega
  constructor
  · rw [Rat.num_divInt]
    have hg : b.gcd t ≠ 0 := fun e => hb (Int.gcd_eq_zero_iff.mp e).1
    have hd : (b.gcd t : Int) ∣ b.sign * t := Int.dvd_trans (Int.gcd_dvd_right ..) (Int.dvd_mul_left ..)
    have e : b.sign * t / (b.gcd t : Int) * (b.gcd t : Int) = b.sign * t := Int.ediv_mul_cancel hd
    have e2 : (b.sign * t).natAbs = (b.sign * t / (b.gcd t : Int)).natAbs * ((b.gcd t : Int)).natAbs := by rw [← Int.natAbs_mul, e]
    have e3 : (b.sign * t).natAbs = t.natAbs := by
      rw [Int.natAbs_mul, Int.natAbs_sign, if_neg hb, Nat.one_mul]
    rw [← e3, e2]
    exact Nat.le_mul_of_pos_right _ (by omega)
  · rw [Rat.den_divInt, if_neg hb]
    exact Nat.div_le_self ..
theorem sz_div {t b : Int} {n : Nat} (hb : b ≠ 0) (h1 : t.natAbs < 2 ^ n) (h2 : b.natAbs < 2 ^ n) : Sz n ((t : Rat) / b) :=
  ⟨Nat.lt_of_le_of_lt (div_small hb).1 h1, Nat.lt_of_le_of_lt (div_small hb).2 h2⟩
theorem rat_eq (x : Rat) : x = (x.num : Rat) / ((x.den : Int) : Rat) := by
  rw [← Rat.divInt_eq_div, Rat.divInt_ofNat, Rat.mkRat_self]
theorem den_ne (x : Rat) : ((x.den : Int) : Rat) ≠ 0 := by
  have := x.den_nz
  intro h
  have h' : ((x.den : Int) : Rat) = ((0 : Int) : Rat) := h
  have := Rat.intCast_inj.mp h'
  omega
theorem den_neI (x : Rat) : (x.den : Int) ≠ 0 := by have := x.den_nz; omega
theorem cast_ne {b : Int} (h : b ≠ 0) : (b : Rat) ≠ 0 := fun e => h (Rat.intCast_inj.mp (show (b : Rat) = ((0 : Int) : Rat) from e))
theorem bits_mul {a b : Nat} {n m : Nat} (h : a < 2 ^ n) (k : b < 2 ^ m) : a * b < 2 ^ (n + m) := by
  rw [Nat.pow_add]
  exact Nat.mul_lt_mul'' h k
theorem Sz.mul {n m : Nat} {x y : Rat} (h : Sz n x) (k : Sz m y) : Sz (n + m) (x * y) := by
  have e : x * y = ((x.num * y.num : Int) : Rat) / (((x.den : Int) * (y.den : Int) : Int) : Rat) := by
    have h1 := rat_eq x; have h2 := rat_eq y; have h3 := den_ne x; have h4 := den_ne y
    rw [Rat.intCast_mul, Rat.intCast_mul]
    grind
  rw [e]
  refine sz_div (Int.mul_ne_zero (den_neI x) (den_neI y)) ?_ ?_
  · rw [Int.natAbs_mul]; exact bits_mul h.1 k.1
  · rw [Int.natAbs_mul]; exact bits_mul h.2 k.2
theorem Sz.neg {n : Nat} {x : Rat} (h : Sz n x) : Sz n (-x) := by
  refine ⟨?_, h.2⟩
  rw [Rat.neg_num, Int.natAbs_neg]
  exact h.1
theorem Sz.add {n m : Nat} {x y : Rat} (h : Sz n x) (k : Sz m y) : Sz (n + m + 1) (x + y) := by
  have e : x + y = ((x.num * y.den + y.num * x.den : Int) : Rat) / (((x.den : Int) * (y.den : Int) : Int) : Rat) := by
    have h1 := rat_eq x; have h2 := rat_eq y; have h3 := den_ne x; have h4 := den_ne y
    rw [Rat.intCast_mul, Rat.intCast_add, Rat.intCast_mul, Rat.intCast_mul]
    grind
  rw [e]
  refine sz_div (Int.mul_ne_zero (den_neI x) (den_neI y)) ?_ ?_
  · have a1 := bits_mul h.1 k.2
    have a2 := bits_mul k.1 h.2
    rw [Nat.add_comm m n] at a2
    have b1 : (x.num * y.den).natAbs < 2 ^ (n + m) := by rw [Int.natAbs_mul]; exact a1
    have b2 : (y.num * x.den).natAbs < 2 ^ (n + m) := by rw [Int.natAbs_mul]; exact a2
    have := Int.natAbs_add_le (x.num * y.den) (y.num * x.den)
    rw [Nat.pow_succ]
    omega
  · rw [Int.natAbs_mul]
    exact Nat.lt_of_lt_of_le (bits_mul h.2 k.2) (Nat.pow_le_pow_right (by decide) (by omega))
theorem Sz.sub {n m : Nat} {x y : Rat} (h : Sz n x) (k : Sz m y) : Sz (n + m + 1) (x - y) := by
  rw [Rat.sub_eq_add_neg]
  exact h.add k.neg
theorem Sz.inv {n : Nat} {x : Rat} (h : Sz n x) (hn : 0 < n) : Sz n x⁻¹ := by
  refine ⟨?_, ?_⟩
  · rw [Rat.num_inv, Int.natAbs_mul, Int.natAbs_sign]
    split
    · rw [Nat.zero_mul]; exact Nat.pow_pos (by decide)
    · rw [Nat.one_mul]; exact h.2
  · rw [Rat.den_inv]
    split
    · exact Nat.one_lt_two_pow (by omega)
    · exact h.1
theorem Sz.div {n m : Nat} {x y : Rat} (h : Sz n x) (k : Sz m y) (hm : 0 < m) : Sz (n + m) (x / y) := by
  rw [Rat.div_def]
  exact h.mul (k.inv hm)
theorem sz_int {n : Nat} {i : Int} (h : i.natAbs < 2 ^ n) (hn : 0 < n) : Sz n (i : Rat) := by
  refine ⟨by rw [Rat.num_intCast]; exact h, ?_⟩
  rw [Rat.den_intCast]
  exact Nat.one_lt_two_pow (by omega)
/-- spots -/
abbrev Spot := Rat × Rat
/-- twice the area -/
def tw (a b c : Spot) : Rat := (b.1 - a.1) * (c.2 - a.2) - (c.1 - a.1) * (b.2 - a.2)
def sgn (x : Rat) : Int := if 0 < x then 1 else if x < 0 then -1 else 0
/-- lies ahead -/
def ah (a b : Spot) : Prop := a.1 < b.1 ∨ a.1 = b.1 ∧ a.2 < b.2
instance {a b : Spot} : Decidable (ah a b) := inferInstanceAs (Decidable (_ ∨ _))
def SzS (n : Nat) (s : Spot) : Prop := Sz n s.1 ∧ Sz n s.2
theorem SzS.mono {n m : Nat} {x : Spot} (h : SzS n x) (l : n ≤ m) : SzS m x := ⟨h.1.mono l, h.2.mono l⟩
theorem sgn_pos {x : Rat} : sgn x = 1 ↔ 0 < x := by unfold sgn; grind
theorem sgn_neg {x : Rat} : sgn x = -1 ↔ x < 0 := by unfold sgn; grind
theorem sgn_zero {x : Rat} : sgn x = 0 ↔ x = 0 := by unfold sgn; grind
end Sd
namespace Sd
theorem q_nn {c y : Rat} (hc : 0 < c) (h : 0 ≤ c * y) : 0 ≤ y := by
  have : c * 0 ≤ c * y := by rw [Rat.mul_zero]; exact h
  exact Rat.le_of_mul_le_mul_left this hc
theorem q_z {c y : Rat} (hc : c ≠ 0) (h : c * y = 0) : y = 0 := (Rat.mul_eq_zero.mp h).resolve_left hc
/-- between, ends let -/
def btw (p m q : Rat) : Prop := (p ≤ m ∧ m ≤ q) ∨ (m ≤ p ∧ q ≤ m)
instance {p m q : Rat} : Decidable (btw p m q) := inferInstanceAs (Decidable (_ ∨ _))
def amid (s a b : Spot) : Prop := tw a b s = 0 ∧ (ah a s ∧ ah s b ∨ ah b s ∧ ah s a)
instance {s a b : Spot} : Decidable (amid s a b) := inferInstanceAs (Decidable (_ ∧ _))
/-- a spot between two by x, then by y, on a line -/
theorem amid_one {s a b : Spot} (h : tw a b s = 0) (h1 : ah a s) (h2 : ah s b) : s ≠ a ∧ s ≠ b ∧ btw a.1 s.1 b.1 ∧ btw a.2 s.2 b.2 := by
  unfold tw at h
  unfold ah at h1 h2
  have ha : s ≠ a := fun e => by subst e; grind
  have hb : s ≠ b := fun e => by subst e; grind
  refine ⟨ha, hb, ?_⟩
  rcases h1 with h1 | ⟨h1, h1'⟩
  · rcases h2 with h2 | ⟨h2, h2'⟩
    · refine ⟨.inl ⟨Rat.le_of_lt h1, Rat.le_of_lt h2⟩, ?_⟩
      have hc : 0 < b.1 - a.1 := by grind
      rcases Rat.le_total (a := a.2) (b := b.2) with hy | hy
      · left
        have p1 : 0 ≤ (s.1 - a.1) * (b.2 - a.2) := Rat.mul_nonneg (by grind) (by grind)
        have p2 : 0 ≤ (b.1 - s.1) * (b.2 - a.2) := Rat.mul_nonneg (by grind) (by grind)
        have q1 : 0 ≤ s.2 - a.2 := q_nn hc (by grind)
        have q2 : 0 ≤ b.2 - s.2 := q_nn hc (by grind)
        grind
      · right
        have p1 : 0 ≤ (s.1 - a.1) * (a.2 - b.2) := Rat.mul_nonneg (by grind) (by grind)
        have p2 : 0 ≤ (b.1 - s.1) * (a.2 - b.2) := Rat.mul_nonneg (by grind) (by grind)
        have q1 : 0 ≤ a.2 - s.2 := q_nn hc (by grind)
        have q2 : 0 ≤ s.2 - b.2 := q_nn hc (by grind)
        grind
    · have : s.2 - b.2 = 0 := q_z (c := b.1 - a.1) (by grind) (by grind)
      grind
  · have hx : b.1 - a.1 = 0 := q_z (c := s.2 - a.2) (by grind) (by grind)
    unfold btw
    grind
theorem tw_swap {a b c : Spot} : tw b a c = - tw a b c := by unfold tw; grind
theorem tw_rot {a b c : Spot} : tw b c a = tw a b c := by unfold tw; grind
theorem btw_swap {p m q : Rat} : btw p m q → btw q m p := by unfold btw; grind
theorem amid_iff {s a b : Spot} (h : tw a b s = 0) : (ah a s ∧ ah s b ∨ ah b s ∧ ah s a) ↔ (s ≠ a ∧ s ≠ b ∧ btw a.1 s.1 b.1 ∧ btw a.2 s.2 b.2) := by
  constructor
  · rintro (⟨h1, h2⟩ | ⟨h1, h2⟩)
    · exact amid_one h h1 h2
    · obtain ⟨x1, x2, x3, x4⟩ := amid_one (s := s) (a := b) (b := a) (by rw [tw_swap, h]; rfl) h1 h2
      exact ⟨x2, x1, btw_swap x3, btw_swap x4⟩
  · rintro ⟨h1, h2, h3, h4⟩
    unfold tw at h
    have e1 : s.1 = a.1 → s.2 ≠ a.2 := fun z w => h1 (Prod.ext z w)
    have e2 : s.1 = b.1 → s.2 ≠ b.2 := fun z w => h2 (Prod.ext z w)
    have f1 : s.1 = a.1 → b.1 = a.1 := fun z => by
      have : b.1 - a.1 = 0 := q_z (c := s.2 - a.2) (by grind) (by grind)
      grind
    have f2 : s.1 = b.1 → b.1 = a.1 := fun z => by
      have : b.1 - a.1 = 0 := q_z (c := s.2 - b.2) (by grind) (by grind)
      grind
    unfold btw at h3 h4
    unfold ah
    grind
/-- the spot on the way by a part -/
def onw (a b : Spot) (t : Rat) : Spot := (a.1 + t * (b.1 - a.1), a.2 + t * (b.2 - a.2))
def qsum : List Rat → Rat
  | [] => 0
  | x :: l => x + qsum l
theorem qsum_app {l m : List Rat} : qsum (l ++ m) = qsum l + qsum m := by
  induction l with
  | nil => simp only [List.nil_append, qsum, Rat.zero_add]
  | cons x l ih => rw [List.cons_append, qsum, qsum, ih, Rat.add_assoc]
theorem sz_zero {n : Nat} (h : 0 < n) : Sz n 0 := ⟨by show 0 < _; exact Nat.pow_pos (by decide), by show 1 < _; exact Nat.one_lt_two_pow (by omega)⟩
theorem Sz.sum {n : Nat} : ∀ {l : List Rat}, (∀ x ∈ l, Sz n x) → Sz (l.length * (n + 1) + 1) (qsum l)
  | [], _ => sz_zero (by simp)
  | x :: l, h => by
    have h1 := h x (by simp)
    have h2 := Sz.sum (n := n) (l := l) fun y hy => h y (by simp [hy])
    exact (h1.add h2).mono (by rw [List.length_cons, Nat.succ_mul]; omega)
theorem Sz.sums {n : Nat} {l : List Rat} (h : ∀ x ∈ l, Sz n x) (k : Nat) : Sz (l.length * (n + 1) + 1) (qsum (l.take k)) := by
  have := Sz.sum (n := n) (l := l.take k) fun x hx => h x (List.mem_of_mem_take hx)
  refine this.mono ?_
  have : (l.take k).length ≤ l.length := by rw [List.length_take]; omega
  have := Nat.mul_le_mul_right (n + 1) this
  omega
theorem SzS.tw {n : Nat} {a b c : Spot} (ha : SzS n a) (hb : SzS n b) (hc : SzS n c) : Sz (8 * n + 5) (Sd.tw a b c) := by
  have h1 := (hb.1.sub ha.1).mul (hc.2.sub ha.2)
  have h2 := (hc.1.sub ha.1).mul (hb.2.sub ha.2)
  exact (h1.sub h2).mono (by omega)
theorem SzS.onw {n m : Nat} {a b : Spot} {t : Rat} (ha : SzS n a) (hb : SzS n b) (ht : Sz m t) : SzS (3 * n + m + 2) (Sd.onw a b t) :=
  ⟨(ha.1.add (ht.mul (hb.1.sub ha.1))).mono (by omega), (ha.2.add (ht.mul (hb.2.sub ha.2))).mono (by omega)⟩
end Sd
namespace Sd
open PySem
/-! ### stores: what has changed is the row alone -/
def Rowed (S S' : Sto) (a : Addr) : Prop := ∀ b o, b ≠ a → S b = some o → S' b = some o
theorem Rowed.le {S S1 S2 : Sto} {a : Addr} (h : Rowed S S1 a) (l : Sto.le S1 S2) : Rowed S S2 a := fun b o hb e => l _ _ (h b o hb e)
theorem Rowed.ble {S S1 Sb : Sto} {a : Addr} (h : Rowed S S1 a) (l : Sto.le Sb S) (n : Sb a = none) : Sto.le Sb S1 := fun b o e => h b o (fun x => by rw [x, n] at e; cases e) (l _ _ e)
theorem Rowed.trans {S S1 S2 : Sto} {a : Addr} (h : Rowed S S1 a) (k : Rowed S1 S2 a) : Rowed S S2 a := fun b o hb e => k b o hb (h b o hb e)
theorem rowed_le {S S1 : Sto} {a : Addr} {o : O} (h : Rowed S S1 a) (e : S1 a = some o) : Sto.le (S.up a o) S1 := fun b u hb => by
  by_cases hx : a = b
  · subst hx
    rw [up_same] at hb
    cases hb
    exact e
  · rw [up_oth hx] at hb
    exact h b u (fun z => hx z.symm) hb
theorem rowed_refl {S : Sto} {a : Addr} : Rowed S S a := fun _ _ _ e => e
theorem Rowed.up {S S1 : Sto} {a : Addr} {o : O} (h : Rowed S S1 a) : Rowed S (S1.up a o) a := fun b u hb e => by
  rw [up_oth hb.symm]
  exact h b u hb e
theorem Rowed.new {S S1 : Sto} {a p : Addr} {o : O} (h : Rowed S S1 a) (n : S1 p = none) : Rowed S (S1.up p o) a := h.le (up_ls n)
theorem le_rowed {S S1 : Sto} {a : Addr} (h : Sto.le S S1) : Rowed S S1 a := fun b o _ e => h b o e
/-- the row: at most n draws so far -/
def Row (S : Sto) (a : Addr) (n : Int) : Prop := ∃ c m : Int, S a = some (.lst true [.int c, .int m]) ∧ 0 ≤ m ∧ m ≤ n
theorem Row.le {S S1 : Sto} {a : Addr} {n : Int} (h : Row S a n) (l : Sto.le S S1) : Row S1 a n := by
  obtain ⟨c, m, e, h1, h2⟩ := h
  exact ⟨c, m, l _ _ e, h1, h2⟩
theorem Row.mono {S : Sto} {a : Addr} {n m : Int} (h : Row S a n) (l : n ≤ m) : Row S a m := by
  obtain ⟨c, k, e, h1, h2⟩ := h
  exact ⟨c, k, e, h1, by omega⟩
theorem Row.ne {S : Sto} {a b : Addr} {n : Int} (h : Row S a n) (e : S b = none) : b ≠ a := fun x => by
  obtain ⟨c, k, e', _⟩ := h
  rw [x, e'] at e
  cases e
theorem row_new {S : Sto} {p : Addr} {c : Int} : Row (S.up p (.lst true [.int c, .int 0])) p 0 := ⟨c, 0, up_same, by decide, by decide⟩
theorem Row.ne' {S : Sto} {a b : Addr} {n : Int} {o : O} (h : Row S a n) (e : S b = none) : Row (S.up b o) a n := h.le (up_ls e)
theorem take_row {S : Sto} {a : Addr} {n b : Int} {P : PD} {W : FW} (h : Row S a n) (hn : n < 2 ^ 59) (hb : 0 < b ∧ b < 2 ^ 200) (hP : ∀ k S', 0 ≤ k → k < b → Row S' a (n + 1) → Rowed S S' a → P (.int k) S') : c_law_take [.ref a, .int b] S P W := by
  obtain ⟨c, m, e, m0, m1⟩ := h
  unfold c_law_take
  simp only [e]
  exact ⟨hb, ⟨m0, by omega⟩, fun k c' k0 k1 => hP k _ k0 k1 ⟨c', m + 1, up_same, by omega, by omega⟩ rowed_refl.up⟩
theorem number_row {S : Sto} {a : Addr} {n : Int} {P : PD} {W : FW} (h : Row S a n) (hn : n < 2 ^ 58) (hP : ∀ k S', Bd 100 k → Row S' a (n + 2) → Rowed S S' a → P (.int k) S') : c_law_number [.ref a] S P W := by
  obtain ⟨c, m, e, m0, m1⟩ := h
  unfold c_law_number
  simp only [e]
  exact ⟨⟨m0, by omega⟩, fun k c' hk => hP k _ (bd30 hk) ⟨c', m + 1 + 1, up_same, by omega, by omega⟩ rowed_refl.up⟩
/-! ### fractions as rational numbers -/
def dQ (x : Rat) : D := .tup [.int x.num, .int x.den]
def dS (s : Spot) : D := .tup [dQ s.1, dQ s.2]
theorem low_q {p q : Int} (h : Low (p, q)) : ∃ x : Rat, x.num = p ∧ (x.den : Int) = q := by
  obtain ⟨h1, h2⟩ := h
  simp only at h1 h2
  refine ⟨⟨p, q.toNat, by omega, ?_⟩, rfl, by simp only; omega⟩
  rw [Int.gcd] at h2
  rw [show q.toNat = q.natAbs by omega]
  exact h2
theorem fr_q {t b : Int} (hb : b ≠ 0) : fr t b = dQ ((t : Rat) / b) := by
  obtain ⟨x, e1, e2⟩ := low_q (low_frF (t := t) hb)
  have e : x = (t : Rat) / b := by
    rw [← Rat.divInt_eq_div, ← Rat.num_divInt_den x]
    refine (Rat.divInt_eq_divInt_iff (den_neI x) hb).mpr ?_
    rw [e1, e2]
    exact fr_cross hb
  rw [← e]
  unfold fr dQ
  rw [e1, e2]
theorem dQ_inj {x y : Rat} : (x.num = y.num ∧ (x.den : Int) = y.den) ↔ x = y := ⟨fun h => Rat.ext h.1 (by omega), fun h => h ▸ ⟨rfl, rfl⟩⟩
theorem Sz.bd {n : Nat} {x : Rat} (h : Sz n x) : Bd n x.num ∧ Bd n (x.den : Int) := ⟨h.1, by unfold Bd; exact h.2⟩
theorem Sz.bd4 {x y : Rat} (h : Sz 4000 x) (k : Sz 4000 y) : Bd4 x.num x.den y.num y.den := ⟨4000, by decide, h.bd.1, h.bd.2, k.bd.1, k.bd.2⟩
theorem Sz.bd4' {x y : Rat} (h : Sz 4499 x) (k : Sz 4499 y) : Bd4 x.num x.den y.num y.den := ⟨4499, by decide, h.bd.1, h.bd.2, k.bd.1, k.bd.2⟩
theorem frac_row {S : Sto} {a : Addr} {n : Int} {P : PD} {W : FW} (h : Row S a n) (hn : n < 2 ^ 57) (hP : ∀ x S', Sz 100 x → Row S' a (n + 4) → Rowed S S' a → P (dQ x) S') : c_law_frac [.ref a] S P W := by
  obtain ⟨c, m, e, m0, m1⟩ := h
  unfold c_law_frac
  simp only [e]
  refine ⟨⟨m0, by omega⟩, fun p q c' bp bq lo => ?_⟩
  obtain ⟨x, rfl, rfl⟩ := low_q lo
  exact hP x _ ⟨bp, bq⟩ ⟨c', m + 4, up_same, by omega, by omega⟩ rowed_refl.up
section
variable {S : Sto} {P : PD} {W : FW} {x y : Rat} {t b : Int}
theorem lowest_q (hb : b ≠ 0) (h9 : Lt9 b) (h : P (dQ ((t : Rat) / b)) S) : c_law_lowest [.int t, .int b] S P W := ⟨hb, h9, by rw [fr_q hb]; exact h⟩
theorem frac_of_q (hb : b ≠ 0) (h9 : Lt9 b) (h : P (dQ ((t : Rat) / b)) S) : c_frac_of [.int t, .int b] S P W := ⟨fun z => (hb z).elim, fun _ => ⟨h9, by rw [fr_q hb]; exact h⟩⟩
theorem added_q (hx : Sz 4000 x) (hy : Sz 4000 y) (h : P (dQ (x + y)) S) : c_added [dQ x, dQ y] S P W := by
  refine ⟨den_neI x, den_neI y, hx.bd4 hy, ?_⟩
  rw [fr_q (Int.mul_ne_zero (den_neI x) (den_neI y))]
  have e : x + y = ((x.num * y.den + y.num * x.den : Int) : Rat) / (((x.den : Int) * (y.den : Int) : Int) : Rat) := by
    have h1 := rat_eq x; have h2 := rat_eq y; have h3 := den_ne x; have h4 := den_ne y
    rw [Rat.intCast_mul, Rat.intCast_add, Rat.intCast_mul, Rat.intCast_mul]
    grind
  rw [← e]
  exact h
theorem lessened_q (hx : Sz 4000 x) (hy : Sz 4000 y) (h : P (dQ (x - y)) S) : c_lessened [dQ x, dQ y] S P W := by
  refine ⟨den_neI x, den_neI y, hx.bd4 hy, ?_⟩
  rw [fr_q (Int.mul_ne_zero (den_neI x) (den_neI y))]
  have e : x - y = ((x.num * y.den - y.num * x.den : Int) : Rat) / (((x.den : Int) * (y.den : Int) : Int) : Rat) := by
    have h1 := rat_eq x; have h2 := rat_eq y; have h3 := den_ne x; have h4 := den_ne y
    rw [Rat.intCast_mul, Rat.intCast_sub, Rat.intCast_mul, Rat.intCast_mul]
    grind
  rw [← e]
  exact h
theorem multiplied_q (hx : Sz 4000 x) (hy : Sz 4000 y) (h : P (dQ (x * y)) S) : c_multiplied [dQ x, dQ y] S P W := by
  refine ⟨den_neI x, den_neI y, hx.bd4 hy, ?_⟩
  rw [fr_q (Int.mul_ne_zero (den_neI x) (den_neI y))]
  have e : x * y = ((x.num * y.num : Int) : Rat) / (((x.den : Int) * (y.den : Int) : Int) : Rat) := by
    have h1 := rat_eq x; have h2 := rat_eq y; have h3 := den_ne x; have h4 := den_ne y
    rw [Rat.intCast_mul, Rat.intCast_mul]
    grind
  rw [← e]
  exact h
theorem added_Q (hx : Sz 4499 x) (hy : Sz 4499 y) (h : P (dQ (x + y)) S) : c_added [dQ x, dQ y] S P W := by
  refine ⟨den_neI x, den_neI y, hx.bd4' hy, ?_⟩
  rw [fr_q (Int.mul_ne_zero (den_neI x) (den_neI y))]
  have e : x + y = ((x.num * y.den + y.num * x.den : Int) : Rat) / (((x.den : Int) * (y.den : Int) : Int) : Rat) := by
    have h1 := rat_eq x; have h2 := rat_eq y; have h3 := den_ne x; have h4 := den_ne y
    rw [Rat.intCast_mul, Rat.intCast_add, Rat.intCast_mul, Rat.intCast_mul]
    grind
  rw [← e]
  exact h
theorem multiplied_Q (hx : Sz 4499 x) (hy : Sz 4499 y) (h : P (dQ (x * y)) S) : c_multiplied [dQ x, dQ y] S P W := by
  refine ⟨den_neI x, den_neI y, hx.bd4' hy, ?_⟩
  rw [fr_q (Int.mul_ne_zero (den_neI x) (den_neI y))]
  have e : x * y = ((x.num * y.num : Int) : Rat) / (((x.den : Int) * (y.den : Int) : Int) : Rat) := by
    have h1 := rat_eq x; have h2 := rat_eq y; have h3 := den_ne x; have h4 := den_ne y
    rw [Rat.intCast_mul, Rat.intCast_mul]
    grind
  rw [← e]
  exact h
theorem quotient_q (hx : Sz 4000 x) (hy : Sz 4000 y) (hw : y = 0 → W 1 none S) (h : y ≠ 0 → P (dQ (x / y)) S) : c_quotient [dQ x, dQ y] S P W := by
  refine ⟨den_neI x, den_neI y, hx.bd4 hy, fun z => hw (Rat.num_eq_zero.mp z), fun z => ?_⟩
  rw [fr_q (Int.mul_ne_zero (den_neI x) z)]
  have hy0 : y ≠ 0 := fun e => z (Rat.num_eq_zero.mpr e)
  have e : x / y = ((x.num * y.den : Int) : Rat) / (((x.den : Int) * y.num : Int) : Rat) := by
    have h1 := rat_eq x; have h2 := rat_eq y; have h3 := den_ne x; have h4 := den_ne y; have h5 := cast_ne z
    rw [Rat.intCast_mul, Rat.intCast_mul]
    grind
  rw [← e]
  exact h hy0
theorem below_iff {x y : Rat} : (x.num * (y.den : Int) < y.num * (x.den : Int)) ↔ x < y := (Rat.lt_iff x y).symm
theorem is_below_q (hx : Sz 4000 x) (hy : Sz 4000 y) (h : P (.bl (decide (x < y))) S) : c_is_below [dQ x, dQ y] S P W := by
  refine ⟨hx.bd4 hy, ?_⟩
  rw [decide_eq_decide.mpr (below_iff (x := x) (y := y))]
  exact h
theorem q_ixQ0 : ixS (dQ x) (.int 0) S P = P (.int x.num) S := by unfold dQ; rw [q_ixT, at0]
theorem q_ixQ1 : ixS (dQ x) (.int 1) S P = P (.int x.den) S := by unfold dQ; rw [q_ixT, at1]
theorem q_ixS0 {s : Spot} : ixS (dS s) (.int 0) S P = P (dQ s.1) S := by unfold dS; rw [q_ixT, at0]
theorem q_ixS1 {s : Spot} : ixS (dS s) (.int 1) S P = P (dQ s.2) S := by unfold dS; rw [q_ixT, at1]
end
/-! ### == of data by what they encode -/
theorem cmp_eq {S : Sto} {P : PD} {x y : D} {p q : PyData} (hx : pdS S x = some p) (hy : pdS S y = some q) : cmpS .Eq x y S P = P (.bl (PyData.eqv p q)) S := by
  by_cases hi : ∃ i j, x = .int i ∧ y = .int j
  · obtain ⟨i, j, rfl, rfl⟩ := hi
    rw [pds_int] at hx hy
    cases hx
    cases hy
    rw [q_eq, ev_int]
  · have : cmpS .Eq x y S P = (match pdS S x, pdS S y with
      | some p, some q => P (.bl (PyData.eqv p q)) S
      | _, _ => lenS false x y S P) := by
      cases x <;> cases y <;> first | rfl | exact (hi ⟨_, _, rfl, rfl⟩).elim
    rw [this, hx, hy]
theorem cmp_ne {S : Sto} {P : PD} {x y : D} {p q : PyData} (hx : pdS S x = some p) (hy : pdS S y = some q) : cmpS .NotEq x y S P = P (.bl (!PyData.eqv p q)) S := by
  by_cases hi : ∃ i j, x = .int i ∧ y = .int j
  · obtain ⟨i, j, rfl, rfl⟩ := hi
    rw [pds_int] at hx hy
    cases hx
    cases hy
    rw [q_ne, ev_int]
  · have : cmpS .NotEq x y S P = (match pdS S x, pdS S y with
      | some p, some q => P (.bl (!PyData.eqv p q)) S
      | _, _ => lenS true x y S P) := by
      cases x <;> cases y <;> first | rfl | exact (hi ⟨_, _, rfl, rfl⟩).elim
    rw [this, hx, hy]
/-- data that encode things of α, told apart by == -/
structure Enc {α : Type} [DecidableEq α] (enc : α → D) (pe : α → PyData) (k : Nat) : Prop where
  pd : ∀ g n a, k ≤ n → pdW g n (enc a) = some (pe a)
  ev : ∀ a b, PyData.eqv (pe a) (pe b) = decide (a = b)
section
variable {α β : Type} [DecidableEq α] [DecidableEq β] {enc : α → D} {pe : α → PyData} {k : Nat} {enc' : β → D} {pe' : β → PyData}
theorem Enc.pds (h : Enc enc pe k) {g : Addr → Option PyData} {n : Nat} (hn : k ≤ n) : ∀ l : List α, pdWs g n (l.map enc) = some (l.map pe)
  | [] => pd_nil
  | x :: l => by
    rw [List.map_cons, pd_cons, h.pd g n x hn, h.pds hn l]
    rfl
theorem Enc.evs (h : Enc enc pe k) : ∀ l m : List α, PyData.eqvAll (l.map pe) (m.map pe) = decide (l = m)
  | [], [] => ev_nil
  | [], y :: m => by simp [PyData.eqvAll]
  | x :: l, [] => by simp [PyData.eqvAll]
  | x :: l, y :: m => by
    rw [List.map_cons, List.map_cons, ev_cons, h.ev, h.evs l m]
    by_cases h1 : x = y <;> by_cases h2 : l = m <;> simp [h1, h2]
theorem Enc.tup (h : Enc enc pe k) : Enc (fun l : List α => D.tup (l.map enc)) (fun l => PyData.tuple (l.map pe)) (k + 1) where
  pd g n a hn := by
    cases n with
    | zero => omega
    | succ n => rw [pd_tup, h.pds (by omega)]
  ev a b := by rw [ev_tup, h.evs]
theorem Enc.pair (h : Enc enc pe k) (h' : Enc enc' pe' k) : Enc (fun p : α × β => D.tup [enc p.1, enc' p.2]) (fun p => PyData.tuple [pe p.1, pe' p.2]) (k + 1) where
  pd g n a hn := by
    cases n with
    | zero => omega
    | succ n => rw [pd_tup, pd_cons, pd_cons, h.pd g n _ (by omega), h'.pd g n _ (by omega), pd_nil]
  ev a b := by
    rw [ev_tup, ev_cons, ev_cons, ev_nil, h.ev, h'.ev, Bool.and_true]
    obtain ⟨a1, a2⟩ := a
    obtain ⟨b1, b2⟩ := b
    by_cases h1 : a1 = b1 <;> by_cases h2 : a2 = b2 <;> simp [h1, h2]
theorem Enc.up {m : Nat} (h : Enc enc pe k) (l : k ≤ m) : Enc enc pe m := ⟨fun g n a hn => h.pd g n a (by omega), h.ev⟩
theorem Enc.pdS (h : Enc enc pe k) {S : Sto} (hk : k ≤ 12) (a : α) : Sd.pdS S (enc a) = some (pe a) := by
  unfold Sd.pdS
  exact h.pd _ _ a hk
theorem Enc.ref (h : Enc enc pe k) {S : Sto} (hk : k ≤ 12) {a : Addr} {w : Bool} {l : List α} (e : S a = some (.lst w (l.map enc))) : Sd.pdS S (.ref a) = some (.list (l.map pe)) := by
  rw [pds_ref, e]
  simp only [h.pds hk]
theorem ev_list {xs ys : List PyData} : PyData.eqv (.list xs) (.list ys) = PyData.eqvAll xs ys := by simp only [PyData.eqv]
theorem Enc.q_eq (h : Enc enc pe k) (hk : k ≤ 12) {S : Sto} {P : PD} {a b : α} : cmpS .Eq (enc a) (enc b) S P = P (.bl (decide (a = b))) S := by
  rw [cmp_eq (h.pdS hk a) (h.pdS hk b), h.ev]
theorem Enc.q_ne (h : Enc enc pe k) (hk : k ≤ 12) {S : Sto} {P : PD} {a b : α} : cmpS .NotEq (enc a) (enc b) S P = P (.bl (!decide (a = b))) S := by
  rw [cmp_ne (h.pdS hk a) (h.pdS hk b), h.ev]
theorem Enc.q_eqL (h : Enc enc pe k) (hk : k ≤ 12) {S : Sto} {P : PD} {a b : Addr} {w v : Bool} {l m : List α} (e1 : S a = some (.lst w (l.map enc))) (e2 : S b = some (.lst v (m.map enc))) : cmpS .Eq (.ref a) (.ref b) S P = P (.bl (decide (l = m))) S := by
  rw [cmp_eq (h.ref hk e1) (h.ref hk e2), ev_list, h.evs]
theorem Enc.q_neL (h : Enc enc pe k) (hk : k ≤ 12) {S : Sto} {P : PD} {a b : Addr} {w v : Bool} {l m : List α} (e1 : S a = some (.lst w (l.map enc))) (e2 : S b = some (.lst v (m.map enc))) : cmpS .NotEq (.ref a) (.ref b) S P = P (.bl (!decide (l = m))) S := by
  rw [cmp_ne (h.ref hk e1) (h.ref hk e2), ev_list, h.evs]
end
theorem encI : Enc D.int PyData.int 0 := ⟨fun _ _ _ _ => pd_int, fun _ _ => ev_int⟩
def pQ (x : Rat) : PyData := .tuple [.int x.num, .int x.den]
def pSp (s : Spot) : PyData := .tuple [pQ s.1, pQ s.2]
theorem encQ : Enc dQ pQ 1 where
  pd g n a hn := by
    cases n with
    | zero => omega
    | succ n => unfold dQ; rw [pd_tup, pd_cons, pd_cons, pd_int, pd_int, pd_nil]; rfl
  ev a b := by
    unfold pQ
    rw [ev_pair, decide_eq_decide.mpr dQ_inj]
theorem encS : Enc dS pSp 2 := encQ.pair encQ
section
variable {S : Sto} {P : PD} {x y : Rat} {s t : Spot}
theorem q_eqQ : cmpS .Eq (dQ x) (dQ y) S P = P (.bl (decide (x = y))) S := encQ.q_eq (by decide)
theorem q_neQ : cmpS .NotEq (dQ x) (dQ y) S P = P (.bl (!decide (x = y))) S := encQ.q_ne (by decide)
theorem q_eqSp : cmpS .Eq (dS s) (dS t) S P = P (.bl (decide (s = t))) S := encS.q_eq (by decide)
theorem q_neSp : cmpS .NotEq (dS s) (dS t) S P = P (.bl (!decide (s = t))) S := encS.q_ne (by decide)
theorem q_isntB {a b : Bool} : cmpS .IsNot (.bl a) (.bl b) S P = P (.bl (!decide (a = b))) S := rfl
theorem q_isB {a b : Bool} : cmpS .Is (.bl a) (.bl b) S P = P (.bl (decide (a = b))) S := rfl
theorem q_str {i : Int} : biS .str [.int i] S P = (i.natAbs.log2 < 1920 ∧ P (.str (toString i)) S) := rfl
end
/-! ### things: any data whose places are lists, numbers of at most n bits -/
mutual
def Wf (S : Sto) (n : Nat) : D → Prop
  | .int i => Bd n i
  | .ref a => ∃ w l, S a = some (.lst w l)
  | .tup l => Wfs S n l
  | .ty _ => False
  | .non => True
  | .bl _ => True
  | .str _ => True
def Wfs (S : Sto) (n : Nat) : List D → Prop
  | [] => True
  | d :: r => Wf S n d ∧ Wfs S n r
end
/-- S' holds all lists of S as lists -/
def Lw (S S' : Sto) : Prop := ∀ a w l, S a = some (.lst w l) → ∃ w' l', S' a = some (.lst w' l')
theorem lw_le {S S' : Sto} (h : Sto.le S S') : Lw S S' := fun a w l e => ⟨w, l, h _ _ e⟩
theorem lw_row {S S' : Sto} {a : Addr} {n : Int} (h : Rowed S S' a) (r : Row S' a n) : Lw S S' := fun b w l e => by
  by_cases hb : b = a
  · obtain ⟨c, m, e', _⟩ := r
    exact ⟨_, _, hb ▸ e'⟩
  · exact ⟨w, l, h b _ hb e⟩
mutual
theorem Wf.lw {S S' : Sto} {n m : Nat} (h : Lw S S') (l : n ≤ m) : ∀ d, Wf S n d → Wf S' m d
  | .int i, w => w.mono l
  | .ref a, ⟨w, l, e⟩ => h a w l e
  | .tup r, w => Wfs.lw h l r w
  | .ty _, w => w
  | .non, _ => trivial
  | .bl _, _ => trivial
  | .str _, _ => trivial
theorem Wfs.lw {S S' : Sto} {n m : Nat} (h : Lw S S') (l : n ≤ m) : ∀ d, Wfs S n d → Wfs S' m d
  | [], _ => trivial
  | d :: r, w => ⟨Wf.lw h l d w.1, Wfs.lw h l r w.2⟩
end
theorem wfs_mem {S : Sto} {n : Nat} : ∀ {l : List D}, Wfs S n l ↔ ∀ d ∈ l, Wf S n d
  | [] => by simp [Wfs]
  | d :: l => by simp [Wfs, wfs_mem]
theorem Wfs.app {S : Sto} {n : Nat} {l m : List D} (h : Wfs S n l) (k : Wfs S n m) : Wfs S n (l ++ m) := by
  rw [wfs_mem] at *
  intro d hd
  rcases List.mem_append.mp hd with z | z
  · exact h d z
  · exact k d z
theorem Wf.kd {S : Sto} {n : Nat} {d : D} (h : Wf S n d) : Kd S d := by
  cases d with
  | ref a =>
    obtain ⟨w, l, e⟩ := h
    exact kd_ref e
  | ty _ => exact h.elim
  | _ => exact ⟨_, rfl⟩
theorem wf_q {S : Sto} {n : Nat} {x : Rat} (h : Sz n x) : Wf S n (dQ x) := ⟨h.bd.1, h.bd.2, trivial⟩
theorem wf_s {S : Sto} {n : Nat} {s : Spot} (h : SzS n s) : Wf S n (dS s) := ⟨wf_q h.1, wf_q h.2, trivial⟩
/-- at a place drawn -/
theorem at_draw {S : Sto} {n : Nat} {l : List D} {k : Int} (h : Wfs S n l) (h0 : 0 ≤ k) (h1 : k < (l.length : Int)) : ∃ d, L2.atI l k = some d ∧ Wf S n d := by
  have hl : k.toNat < l.length := by omega
  have := at_nat (l := l) (n := k.toNat) hl
  rw [show ((k.toNat : Nat) : Int) = k by omega] at this
  exact ⟨_, this, wfs_mem.mp h _ (List.getElem_mem _)⟩
theorem at_drawD {l : List D} {k : Int} (h0 : 0 ≤ k) (h1 : k < (l.length : Int)) : ∃ d, L2.atI l k = some d ∧ d ∈ l := by
  have hl : k.toNat < l.length := by omega
  have := at_nat (l := l) (n := k.toNat) hl
  rw [show ((k.toNat : Nat) : Int) = k by omega] at this
  exact ⟨_, this, List.getElem_mem _⟩
/-- is a fraction, of any thing -/
def c_is_fracT : Con := fun ds S P _ => match ds with
  | [d] => (∃ n, Wf S n d) ∧ P (.bl (fracB d)) S
  | _ => False
theorem fracB_two {x y : D} : fracB (.tup [x, y]) = true → ∃ i j, x = .int i ∧ y = .int j := by
  intro h
  cases x <;> (try (cases h; done)) <;> cases y <;> (try (cases h; done))
  exact ⟨_, _, rfl, rfl⟩
theorem fracB_q {d : D} : fracB d = true ↔ ∃ x : Rat, d = dQ x := by
  constructor
  · intro h
    unfold fracB at h
    split at h
    · rename_i p q
      obtain ⟨x, rfl, rfl⟩ := low_q (of_decide_eq_true h)
      exact ⟨x, rfl⟩
    · cases h
  · rintro ⟨x, rfl⟩
    unfold fracB dQ
    refine decide_eq_true ⟨?_, ?_⟩
    · have := x.den_nz; omega
    · exact x.reduced
theorem fracB_len {l : List D} (h : l.length ≠ 2) : fracB (.tup l) = false := by
  match l, h with
  | [], _ => rfl
  | [_], _ => simp [fracB]
  | [_, _], hl => exact (hl rfl).elim
  | _ :: _ :: _ :: _, _ => simp [fracB]
theorem Wf.thing {S : Sto} {n : Nat} {d : D} (h : Wf S n d) : (∃ l, d = .tup l ∧ Wfs S n l) ∨ ((∀ l, d ≠ .tup l) ∧ Kd S d) := by
  cases d with
  | tup l => exact .inl ⟨l, rfl, h⟩
  | _ => exact .inr ⟨fun l e => (by cases e), h.kd⟩
theorem m_is_fracT {Γ : Gam} (h21 : Γ.fn 21 = c_is_whole) (a21 : Γ.ar 21 = 1) (h2 : Γ.fn 2 = c_divisor) (a2 : Γ.ar 2 = 2) : Meets Γ 1 z_is_frac c_is_fracT := by
  intro ds S P W h
  unfold c_is_fracT at h
  split at h
  · rename_i d
    obtain ⟨⟨n, ht⟩, hp⟩ := h
    change wZs Γ z_is_frac (retE P) [some d] S (errW W)
    dsimp only [z_is_frac, wZs, wZ, wE, wEs, wT, wTs, lk, List.set, aTru]
    rcases ht.thing with ⟨l, rfl, hl⟩ | ⟨hd, hk⟩
    · simp only [isi_tup, q_tb, Bool.not_true, q_lenT, q_ne]
      by_cases h2l : l.length = 2
      · match l, h2l with
        | [x, y], _ =>
          have hx := hl.1.kd
          have hy := hl.2.1.kd
          simp only [List.length_cons, List.length_nil, Nat.reduceAdd, q_ixT, at0, at1, h21, a21, h2, a2, true_and, c_divisor]
          have e2 : decide (((2 : Nat) : Int) = 2) = true := rfl
          simp only [e2, Bool.not_true]
          refine whole_kd hx (fun i e => ?_) fun e => ?_
          · subst e
            simp only [q_tb, Bool.not_true]
            refine whole_kd hy (fun j e => ?_) fun e => ?_
            · subst e
              simp only [q_tb, Bool.not_true, Bool.false_eq_true, if_false, q_ge, q_eq]
              refine mb_d (fun hq => ?_) fun hq => ?_
              · have e1 : ((Int.gcd i j : Int) = 1) ↔ (0 < j ∧ Int.gcd i j = 1) := by omega
                rw [decide_eq_decide.mpr e1]
                exact ret_now hp
              · have e1 : fracB (.tup [.int i, .int j]) = false := decide_eq_false (fun z => hq (by omega))
                rw [e1] at hp
                rw [decide_eq_false hq]
                exact ret_now hp
            · have e1 : fracB (.tup [.int i, y]) = false := by
                cases y <;> first | rfl | exact (e _ rfl).elim
              rw [e1] at hp
              exact ret_now hp
          · have e1 : fracB (.tup [x, y]) = false := by
              cases x <;> first | rfl | exact (e _ rfl).elim
            rw [e1] at hp
            exact ret_now hp
      · rw [fracB_len h2l] at hp
        refine mb_n (fun _ => ?_) fun z => (h2l (by omega)).elim
        rw [decide_eq_false (fun z : ((l.length : Nat) : Int) = 2 => h2l (by omega))]
        exact ret_now hp
    · have e1 : fracB d = false := by
        cases d <;> first | rfl | exact (hd _ rfl).elim
      rw [e1] at hp
      simp only [isi_not hk hd, q_tb, Bool.not_false, reduceIte]
      exact ret_now hp
  · exact h.elim
/-- the law's own -/
def c_law_is_fracT : Con := fun ds S P _ => match ds with
  | [d] => Wf S 8999 d ∧ P (.bl (fracB d)) S
  | _ => False
theorem fr_iff {p q : Int} (hq : 0 < q) : (frT p q = p ∧ frB p q = q) ↔ (0 < q ∧ Int.gcd p q = 1) := by
  constructor
  · intro ⟨e1, e2⟩
    have := fr_gcd (t := p) (b := q) (by omega)
    rw [e1, e2] at this
    exact ⟨hq, this⟩
  · intro ⟨_, e⟩
    have := fr_self hq e
    unfold fr at this
    injection this with this
    injection this with t1 this
    injection this with t2 this
    injection t1 with t1
    injection t2 with t2
    exact ⟨t1, t2⟩
theorem m_law_is_fracT {Γ : Gam} (h4 : Γ.fn 4 = c_law_lowest) (a4 : Γ.ar 4 = 2) (h5 : Γ.fn 5 = c_law_whole) (a5 : Γ.ar 5 = 1) : Meets Γ 1 z_law_is_frac c_law_is_fracT := by
  intro ds S P W h
  unfold c_law_is_fracT at h
  split at h
  · rename_i d
    obtain ⟨ht, hp⟩ := h
    change wZs Γ z_law_is_frac (retE P) [some d] S (errW W)
    dsimp only [z_law_is_frac, wZs, wZ, wE, wEs, wT, wTs, lk, List.set, aTru]
    rcases ht.thing with ⟨l, rfl, hl⟩ | ⟨hd, hk⟩
    · simp only [isi_tup, q_tb, Bool.not_true, q_lenT, q_ne]
      by_cases h2l : l.length = 2
      · match l, h2l with
        | [x, y], _ =>
          have hx := hl.1.kd
          have hy := hl.2.1
          simp only [List.length_cons, List.length_nil, Nat.reduceAdd, q_ixT, at0, at1, h5, a5, h4, a4, true_and, c_law_lowest]
          have e2 : decide (((2 : Nat) : Int) = 2) = true := rfl
          simp only [e2, Bool.not_true]
          refine whole_kd hx (fun i e => ?_) fun e => ?_
          · subst e
            simp only [q_tb, Bool.not_true]
            refine whole_kd hy.kd (fun j e => ?_) fun e => ?_
            · subst e
              have bj : Bd 8999 j := hy
              simp only [q_tb, Bool.not_true, Bool.false_eq_true, if_false, q_gt]
              refine mb_d (fun hq => ⟨by omega, bj, ?_⟩) fun hq => ?_
              · unfold fr
                rw [q_eqP, decide_eq_decide.mpr (fr_iff hq)]
                exact ret_now hp
              · have e1 : fracB (.tup [.int i, .int j]) = false := decide_eq_false (fun z => hq z.1)
                rw [e1] at hp
                rw [decide_eq_false hq]
                exact ret_now hp
            · have e1 : fracB (.tup [.int i, y]) = false := by
                cases y <;> first | rfl | exact (e _ rfl).elim
              rw [e1] at hp
              exact ret_now hp
          · have e1 : fracB (.tup [x, y]) = false := by
              cases x <;> first | rfl | exact (e _ rfl).elim
            rw [e1] at hp
            exact ret_now hp
      · rw [fracB_len h2l] at hp
        refine mb_n (fun _ => ?_) fun z => (h2l (by omega)).elim
        rw [decide_eq_false (fun z : ((l.length : Nat) : Int) = 2 => h2l (by omega))]
        exact ret_now hp
    · have e1 : fracB d = false := by
        cases d <;> first | rfl | exact (hd _ rfl).elim
      rw [e1] at hp
      simp only [isi_not hk hd, q_tb, Bool.not_false, reduceIte]
      exact ret_now hp
  · exact h.elim
/-! ### lists made -/
/-- a list made of a walk: what is let by, each by f -/
theorem lc_filt {t : ATg} {cond : AT} {e : AE} {src : Src} {p : Addr} {ρ : DSt} {Pd : Sto → Prop} {ds : List D} {S1 : Sto} (f : D → D) (c : D → Bool) (np : S1 p = none) (hs : src.ok S1) (hl : ds.length ≤ sizeLine)
    (step : ∀ d ∈ ds, ∀ (T : Sto) (K : D → Sto → Prop) (G : Sto → Prop), Sto.le S1 T → (c d = true → ∀ T', Sto.le T T' → K (f d) T') → (c d = false → ∀ T', Sto.le T T' → G T') → t d ρ T (fun ρ1 T1 => cond ρ1 T1 (fun b T2 => if b = true then e ρ1 T2 K (fun _ _ _ _ => False) else G T2) (fun _ _ _ _ => False)) (fun _ _ _ _ => False))
    (fin : ∀ T, Sto.le S1 T → T p = some (.lst true ((ds.filter c).map f)) → Pd T) : lcS t cond e src p ρ Pd ds (S1.up p (.lst true [])) := by
  have sok : ∀ T, Sto.le S1 T → src.ok T := by
    intro T hT
    cases src with
    | free => trivial
    | lst a w l => exact hT _ _ hs
    | two a w l b v m => exact ⟨hT _ _ hs.1, hT _ _ hs.2⟩
  have main : ∀ (rest done : List D) (T : Sto), ds = done ++ rest → Sto.le S1 T → T p = some (.lst true ((done.filter c).map f)) → lcS t cond e src p ρ Pd rest T := by
    intro rest
    induction rest with
    | nil =>
      intro done T hd hT hTp
      rw [List.append_nil] at hd
      subst hd
      exact ⟨sok T hT, fin T hT hTp⟩
    | cons d rest ih =>
      intro done T hd hT hTp
      have hmem : d ∈ ds := by rw [hd]; simp
      refine ⟨sok T hT, ?_⟩
      refine step d hmem T _ _ hT (fun hc T' hT' => ?_) fun hc T' hT' => ?_
      · show match T' p with
          | some (.lst true acc) => acc.length < sizeLine ∧ lcS t cond e src p ρ Pd rest (T'.up p (.lst true (acc ++ [f d])))
          | _ => False
        rw [hT' _ _ hTp]
        refine ⟨?_, ih (done ++ [d]) _ (by rw [hd]; simp) (fun b o hb => ?_) ?_⟩
        · rw [List.length_map]
          have h1 := List.length_filter_le c done
          have h2 : ds.length = done.length + (rest.length + 1) := by rw [hd]; simp
          omega
        · rw [up_oth (fun x => by rw [x, hb] at np; cases np)]
          exact hT' _ _ (hT _ _ hb)
        · rw [up_same, List.filter_append, List.map_append]
          simp [hc]
      · refine ih (done ++ [d]) T' (by rw [hd]; simp) (hT.trans hT') ?_
        rw [hT' _ _ hTp, List.filter_append, List.map_append]
        simp [hc]
  exact main ds [] _ rfl (up_ls np) up_same
/-- the same, of things encoded -/
theorem lc_encF {α : Type} {t : ATg} {cond : AT} {e : AE} {src : Src} {p : Addr} {ρ : DSt} {Pd : Sto → Prop} {S1 : Sto} (enc f : α → D) (c : α → Bool) {l : List α} (np : S1 p = none) (hs : src.ok S1) (hl : l.length ≤ sizeLine)
    (step : ∀ x ∈ l, ∀ (T : Sto) (K : D → Sto → Prop) (G : Sto → Prop), Sto.le S1 T → (c x = true → ∀ T', Sto.le T T' → K (f x) T') → (c x = false → ∀ T', Sto.le T T' → G T') → t (enc x) ρ T (fun ρ1 T1 => cond ρ1 T1 (fun b T2 => if b = true then e ρ1 T2 K (fun _ _ _ _ => False) else G T2) (fun _ _ _ _ => False)) (fun _ _ _ _ => False))
    (fin : ∀ T, Sto.le S1 T → T p = some (.lst true ((l.filter c).map f)) → Pd T) : lcS t cond e src p ρ Pd (l.map enc) (S1.up p (.lst true [])) := by
  have sok : ∀ T, Sto.le S1 T → src.ok T := by
    intro T hT
    cases src with
    | free => trivial
    | lst a w l => exact hT _ _ hs
    | two a w l b v m => exact ⟨hT _ _ hs.1, hT _ _ hs.2⟩
  have main : ∀ (rest done : List α) (T : Sto), l = done ++ rest → Sto.le S1 T → T p = some (.lst true ((done.filter c).map f)) → lcS t cond e src p ρ Pd (rest.map enc) T := by
    intro rest
    induction rest with
    | nil =>
      intro done T hd hT hTp
      rw [List.append_nil] at hd
      subst hd
      exact ⟨sok T hT, fin T hT hTp⟩
    | cons d rest ih =>
      intro done T hd hT hTp
      have hmem : d ∈ l := by rw [hd]; simp
      refine ⟨sok T hT, ?_⟩
      refine step d hmem T _ _ hT (fun hc T' hT' => ?_) fun hc T' hT' => ?_
      · show match T' p with
          | some (.lst true acc) => acc.length < sizeLine ∧ lcS t cond e src p ρ Pd (rest.map enc) (T'.up p (.lst true (acc ++ [f d])))
          | _ => False
        rw [hT' _ _ hTp]
        refine ⟨?_, ih (done ++ [d]) _ (by rw [hd]; simp) (fun b o hb => ?_) ?_⟩
        · rw [List.length_map]
          have h1 := List.length_filter_le c done
          have h2 : l.length = done.length + (rest.length + 1) := by rw [hd]; simp
          omega
        · rw [up_oth (fun x => by rw [x, hb] at np; cases np)]
          exact hT' _ _ (hT _ _ hb)
        · rw [up_same, List.filter_append, List.map_append]
          simp [hc]
      · refine ih (done ++ [d]) T' (by rw [hd]; simp) (hT.trans hT') ?_
        rw [hT' _ _ hTp, List.filter_append, List.map_append]
        simp [hc]
  exact main l [] _ rfl (up_ls np) up_same
theorem lc_enc {α : Type} {t : ATg} {cond : AT} {e : AE} {src : Src} {p : Addr} {ρ : DSt} {Pd : Sto → Prop} {S1 : Sto} (enc f : α → D) {l : List α} (np : S1 p = none) (hs : src.ok S1) (hl : l.length ≤ sizeLine)
    (step : ∀ x ∈ l, ∀ (T : Sto) (K : D → Sto → Prop) (G : Sto → Prop), Sto.le S1 T → (∀ T', Sto.le T T' → K (f x) T') → t (enc x) ρ T (fun ρ1 T1 => cond ρ1 T1 (fun b T2 => if b = true then e ρ1 T2 K (fun _ _ _ _ => False) else G T2) (fun _ _ _ _ => False)) (fun _ _ _ _ => False))
    (fin : ∀ T, Sto.le S1 T → T p = some (.lst true (l.map f)) → Pd T) : lcS t cond e src p ρ Pd (l.map enc) (S1.up p (.lst true [])) := by
  refine lc_encF enc f (fun _ => true) np hs hl (fun d hd T K G hT hK _ => step d hd T K G hT (hK rfl)) fun T hT hp => fin T hT ?_
  rw [hp, List.filter_eq_self.mpr (fun _ _ => rfl)]
theorem lc_map {t : ATg} {cond : AT} {e : AE} {src : Src} {p : Addr} {ρ : DSt} {Pd : Sto → Prop} {ds : List D} {S1 : Sto} (f : D → D) (np : S1 p = none) (hs : src.ok S1) (hl : ds.length ≤ sizeLine)
    (step : ∀ d ∈ ds, ∀ (T : Sto) (K : D → Sto → Prop) (G : Sto → Prop), Sto.le S1 T → (∀ T', Sto.le T T' → K (f d) T') → t d ρ T (fun ρ1 T1 => cond ρ1 T1 (fun b T2 => if b = true then e ρ1 T2 K (fun _ _ _ _ => False) else G T2) (fun _ _ _ _ => False)) (fun _ _ _ _ => False))
    (fin : ∀ T, Sto.le S1 T → T p = some (.lst true (ds.map f)) → Pd T) : lcS t cond e src p ρ Pd ds (S1.up p (.lst true [])) := by
  refine lc_filt f (fun _ => true) np hs hl (fun d hd T K G hT hK _ => step d hd T K G hT (hK rfl)) fun T hT hp => fin T hT ?_
  rw [hp, List.filter_eq_self.mpr (fun _ _ => rfl)]
theorem bool_map : ∀ {l : List Bool}, boolL (l.map D.bl) = some l
  | [] => rfl
  | b :: l => by rw [List.map_cons, boolL, bool_map]
theorem int_map : ∀ {l : List Int}, intL (l.map D.int) = some l
  | [] => rfl
  | b :: l => by rw [List.map_cons, intL, int_map]
theorem q_all {S : Sto} {P : PD} {a : Addr} {w : Bool} {l : List Bool} (e : S a = some (.lst w (l.map D.bl))) : biS .all [.ref a] S P = P (.bl (l.all id)) S := by
  simp only [biS, lstD, e, bool_map]
theorem q_any {S : Sto} {P : PD} {a : Addr} {w : Bool} {l : List Bool} (e : S a = some (.lst w (l.map D.bl))) : biS .any [.ref a] S P = P (.bl (l.any id)) S := by
  simp only [biS, lstD, e, bool_map]
theorem q_max1 {S : Sto} {P : PD} {a : Addr} {w : Bool} {l : List Int} (e : S a = some (.lst w (l.map D.int))) (hl : 0 < l.length) (h : ∀ m, m ∈ l → (∀ y, y ∈ l → y ≤ m) → P (.int m) S) : biS .max1 [.ref a] S P := by
  simp only [biS, lstD, e, int_map]
  exact ⟨hl, h⟩
theorem q_min1 {S : Sto} {P : PD} {a : Addr} {w : Bool} {l : List Int} (e : S a = some (.lst w (l.map D.int))) (hl : 0 < l.length) (h : ∀ m, m ∈ l → (∀ y, y ∈ l → m ≤ y) → P (.int m) S) : biS .min1 [.ref a] S P := by
  simp only [biS, lstD, e, int_map]
  exact ⟨hl, h⟩
theorem q_sum1 {S : Sto} {P : PD} {a : Addr} {w : Bool} {l : List Int} (e : S a = some (.lst w (l.map D.int))) : biS .sum [.ref a] S P = P (.int l.sum) S := by
  simp only [biS, lstD, e, int_map]
theorem wZs_one {Γ : Gam} {z : Z} {N : DE} {ρ : DSt} {S : Sto} {W : AW} : wZs Γ [z] N ρ S W = wZ Γ z N ρ S W := by simp only [wZs]
theorem wZ_for {Γ : Gam} {t : T} {it : I} {b : List Z} {N : DE} {ρ : DSt} {S : Sto} {W : AW} : wZ Γ (.for_ t it b) N ρ S W = wI Γ it ρ S (fun ds src S1 => forS (wT Γ t) (wZs Γ b) src N W ds ρ S1) W := by simp only [wZ]
theorem wI_r1 {Γ : Gam} {j : Int} {ρ : DSt} {S : Sto} {P : List D → Src → Sto → Prop} {W : AW} : wI Γ (.rng1 (.c (.int j))) ρ S P W = ((-(2 ^ 62) ≤ j ∧ j < 2 ^ 62) ∧ P (rngItems 0 j.toNat) .free S) := by simp only [wI, wE]
theorem rng_cons {lo : Int} {n : Nat} : rngItems lo (n + 1) = .int lo :: rngItems (lo + 1) n := by
  unfold rngItems
  rw [List.range_succ_eq_map, List.map_cons, List.map_map]
  congr 1
  · simp
  · apply List.map_congr_left
    intro i _
    simp only [Function.comp, Nat.succ_eq_add_one]
    congr 1
    omega
theorem rng_zero {lo : Int} : rngItems lo 0 = [] := rfl
/-- a list of things drawn -/
theorem lc_draw {α : Type} {t : ATg} {cond : AT} {e : AE} {p a : Addr} {ρ : DSt} {Pd : Sto → Prop} {ds : List D} {S1 : Sto} {n : Int} (enc : α → D) (good : α → Prop) (c : Nat) (np : S1 p = none) (r : Row S1 a n) (hl : ds.length ≤ sizeLine)
    (step : ∀ d ∈ ds, ∀ (T : Sto) (m : Int) (K : D → Sto → Prop) (G : Sto → Prop), Row T a m → m ≤ n + c * ds.length → Rowed S1 T a → (∀ x T', good x → Row T' a (m + c) → Rowed T T' a → K (enc x) T') → t d ρ T (fun ρ1 T1 => cond ρ1 T1 (fun b T2 => if b = true then e ρ1 T2 K (fun _ _ _ _ => False) else G T2) (fun _ _ _ _ => False)) (fun _ _ _ _ => False))
    (fin : ∀ (l : List α) T, l.length = ds.length → (∀ x ∈ l, good x) → T p = some (.lst true (l.map enc)) → Row T a (n + c * ds.length) → Rowed S1 T a → Pd T) : lcS t cond e .free p ρ Pd ds (S1.up p (.lst true [])) := by
  have dp : p ≠ a := r.ne np
  have main : ∀ (rest : List D) (l : List α) (T : Sto), rest.length + l.length = ds.length → (∀ d ∈ rest, d ∈ ds) → (∀ x ∈ l, good x) → T p = some (.lst true (l.map enc)) → Row T a (n + c * l.length) → Rowed S1 T a → lcS t cond e .free p ρ Pd rest T := by
    intro rest
    induction rest with
    | nil =>
      intro l T hlen _ hg hT hr ho
      have : l.length = ds.length := by simpa using hlen
      exact ⟨trivial, fin l T this hg hT (by rw [← this]; exact hr) ho⟩
    | cons d rest ih =>
      intro l T hlen hsub hg hT hr ho
      have hlen' : rest.length + 1 + l.length = ds.length := by simpa using hlen
      have hle : (c : Int) * (l.length : Int) ≤ (c : Int) * (ds.length : Int) := Int.mul_le_mul_of_nonneg_left (by omega) (by omega)
      refine ⟨trivial, step d (hsub d (by simp)) T (n + c * l.length) _ _ hr (by omega) ho fun x T' hx hr' ho' => ?_⟩
      show match T' p with
        | some (.lst true acc) => acc.length < sizeLine ∧ lcS t cond e .free p ρ Pd rest (T'.up p (.lst true (acc ++ [enc x])))
        | _ => False
      rw [ho' _ _ dp hT]
      refine ⟨by rw [List.length_map]; omega, ih (l ++ [x]) _ (by rw [List.length_append]; simp only [List.length_cons, List.length_nil]; omega) (fun d hd => hsub d (by simp [hd])) (fun y hy => ?_) (by rw [up_same, List.map_append]; rfl) ?_ ?_⟩
      · rcases List.mem_append.mp hy with z | z
        · exact hg y z
        · rw [List.mem_singleton.mp z]; exact hx
      · obtain ⟨k, m, e, m0, m1⟩ := hr'
        refine ⟨k, m, by rw [up_oth dp]; exact e, m0, ?_⟩
        rw [List.length_append]
        simp only [List.length_cons, List.length_nil]
        have : (c : Int) * (((l.length + (0 + 1) : Nat)) : Int) = (c : Int) * (l.length : Int) + c := by
          rw [show (((l.length + (0 + 1) : Nat)) : Int) = (l.length : Int) + 1 by omega, Int.mul_add, Int.mul_one]
        omega
      · intro b o hb e
        rw [up_oth (fun x => by rw [x, e] at np; cases np)]
        exact (ho.trans ho') b o hb e
  exact main ds [] _ (by simp) (fun _ h => h) (by simp) up_same (by simpa using (r.ne' np)) (rowed_refl.new np)
/-- one of a list by a draw -/
theorem pick_row {S : Sto} {r a : Addr} {n : Int} {w : Bool} {l : List D} {K : PD} {W : FW} (row : Row S a n) (hn : n < 2 ^ 59) (e : S r = some (.lst w l)) (hr : r ≠ a) (hl : 0 < l.length) (hm : l.length < 2 ^ 60)
    (hK : ∀ d S', d ∈ l → Row S' a (n + 1) → Rowed S S' a → K d S') : biS .len [.ref r] S (fun x S1 => c_law_take [.ref a, x] S1 (fun y S2 => ixS (.ref r) y S2 K) W) := by
  rw [q_lenL, q_seqL, e]
  refine take_row row hn ⟨by omega, by omega⟩ fun k S' k0 k1 r1 o1 => ?_
  rw [q_ixL, o1 _ _ hr e]
  obtain ⟨d, e1, hd⟩ := at_drawD k0 k1
  simp only [e1]
  exact hK d S' hd r1 o1
/-- one of a list of things -/
theorem pick_wf {S : Sto} {r a : Addr} {n : Int} {m : Nat} {w : Bool} {l : List D} {K : PD} {W : FW} (row : Row S a n) (hn : n < 2 ^ 59) (e : S r = some (.lst w l)) (hr : r ≠ a) (hl : 0 < l.length) (hm : l.length < 2 ^ 60) (hw : Wfs S m l)
    (hK : ∀ d S', Wf S' m d → Row S' a (n + 1) → Rowed S S' a → K d S') : biS .len [.ref r] S (fun x S1 => c_law_take [.ref a, x] S1 (fun y S2 => ixS (.ref r) y S2 K) W) :=
  pick_row row hn e hr hl hm fun d S' hd r1 o1 => hK d S' (Wf.lw (lw_row o1 r1) (Nat.le_refl _) d (wfs_mem.mp hw d hd)) r1 o1
end Sd
namespace Sd
open PySem
/-! ### constants that are tuples of numbers -/
section
open PySem PySem.Spec PyProof.Rows L2
theorem cst_tup {Γ : Gam} {K : PySem.W.Frag} {mg : Str → Option Value} {x : Str} {k : Nat} {ns : List Int} {h : Heap} (X : K.In h) (G : h.Ns mainGlobals mg) (hΓ : Γ.cst k = some (.tup (ns.map D.int)))
    (c : (eqF (PySem.W.nsIn K mainGlobals x) (some (some (.ref (gaK K x)))) && He.tupB K x (ns.map He.Dv.int)) = true) : CstAt Γ K mg (x, k) := by
  intro d e
  rw [hΓ] at e
  cases e
  rw [Bool.and_eq_true] at c
  obtain ⟨c1, c2⟩ := c
  unfold eqF at c1
  rw [decide_eq_true_eq] at c1
  refine ⟨.ref (gaK K x), .ref (gaK K x), PySem.W.mg_of X G c1, rfl, fun H => ⟨_, _, rfl, He.tupB_ok c2 H, ?_⟩⟩
  have e : (ns.map He.Dv.int).map (He.Dv.v K) = ns.map L2.V.int := by
    rw [List.map_map]
    rfl
  rw [e]
  exact rps_ints ns
end
/-! ### primes -/
def primesL : List Int := [2, 3, 5, 7, 11, 13, 17, 19, 23, 29, 31, 37, 41, 43, 47, 53, 59, 61, 67, 71, 73, 79, 83, 89, 97]
def primeD : D → Bool
  | .int i => decide (i ∈ primesL)
  | _ => false
theorem in_ints {i : Int} : ∀ {ns : List Int}, inFl (.int i) (ns.map D.int) = decide (i ∈ ns)
  | [] => by simp [inFl]
  | n :: ns => by
    have ih := in_ints (i := i) (ns := ns)
    unfold inFl at ih ⊢
    rw [List.map_cons, List.any_cons, ih]
    show ((n == i) || decide (i ∈ ns)) = _
    by_cases h : n = i
    · simp [h]
    · have h' : i ≠ n := fun e => h e.symm
      simp [h, h']
theorem fl_ints : ∀ {ns : List Int}, (ns.map D.int).all flD = true
  | [] => rfl
  | n :: ns => by
    rw [List.map_cons, List.all_cons, fl_ints]
    rfl
theorem q_notinT {S : Sto} {P : PD} {i : Int} {ns : List Int} : cmpS .NotIn (.int i) (.tup (ns.map D.int)) S P = P (.bl (!decide (i ∈ ns))) S := by
  show (flD (.int i) = true ∧ (ns.map D.int).all flD = true ∧ P (.bl (!inFl (.int i) (ns.map D.int))) S) = _
  rw [in_ints]
  simp [fl_ints, flD]
def c_look_prime : Con := fun ds S P W => match ds with
  | [d] => Kd S d ∧ (primeD d = true → P .non S) ∧ (primeD d = false → W 2 none S)
  | _ => False
theorem m_look_prime {Γ : Gam} (h21 : Γ.fn 21 = c_is_whole) (a21 : Γ.ar 21 = 1) (hc : Γ.cst 0 = some (.tup (primesL.map D.int))) : Meets Γ 1 z_look_prime c_look_prime := by
  intro ds S P W h
  unfold c_look_prime at h
  split at h
  · rename_i d
    obtain ⟨hk, h1, h2⟩ := h
    change wZs Γ z_look_prime (retE P) [some d] S (errW W)
    dsimp only [z_look_prime, wZs, wZ, wE, wEs, wT, wTs, lk, List.set, aTru]
    simp only [h21, a21, hc, List.length_cons, List.length_nil, Nat.reduceAdd, true_and]
    refine whole_kd hk (fun i e => ?_) fun e => ?_
    · subst e
      simp only [q_tb, Bool.not_true, q_notinT]
      refine if_nb (fun z => err_now (h2 (decide_eq_false z))) fun z => ?_
      exact ⟨S, Sto.le.refl S, h1 (decide_eq_true z)⟩
    · have e1 : primeD d = false := by
        cases d <;> first | rfl | exact (e _ rfl).elim
      simp only [q_tb, Bool.not_false, reduceIte]
      exact err_now (h2 e1)
  · exact h.elim
/-- how often p divides x -/
def Val (p x : Int) (k : Nat) : Prop := p ^ k ∣ x ∧ ¬ p ^ (k + 1) ∣ x
def c_times_in : Con := fun ds S P _ => match ds with
  | [.int x, .int p] => x ≠ 0 ∧ (2 ≤ p ∧ p < 100) ∧ ∀ k, Val p x k → P (.int (k : Nat)) S
  | _ => False
theorem val_end {p x y : Int} {k : Nat} (hp : 2 ≤ p) (e : x = y * p ^ k) (h : ¬ p ∣ y) : Val p x k := by
  refine ⟨⟨y, by rw [e, Int.mul_comm]⟩, fun ⟨z, hz⟩ => h ⟨z, ?_⟩⟩
  have h0 : p ^ k ≠ 0 := Int.ne_of_gt (Int.pow_pos (by omega))
  apply Int.eq_of_mul_eq_mul_right h0
  rw [← e, hz, Int.pow_succ, Int.mul_assoc, Int.mul_comm (p ^ k)]
theorem fmod_dv {a b : Int} (h : a.fmod b = 0) : b ∣ a := Int.dvd_of_fmod_eq_zero h
theorem div_down {y p : Int} (hp : 2 ≤ p) (hy : y ≠ 0) (h : p ∣ y) : (y.fdiv p).natAbs < y.natAbs ∧ y.fdiv p ≠ 0 ∧ y.fdiv p * p = y := by
  rw [fdiv_dvd h]
  have e : y / p * p = y := Int.ediv_mul_cancel h
  have hz : y / p ≠ 0 := fun z => hy (by rw [← e, z, Int.zero_mul])
  have : y.natAbs = (y / p).natAbs * p.natAbs := by rw [← Int.natAbs_mul, e]
  refine ⟨?_, hz, e⟩
  rw [this]
  have h2 : 2 ≤ p.natAbs := by omega
  have h3 : 0 < (y / p).natAbs := by omega
  calc (y / p).natAbs < (y / p).natAbs * 2 := by omega
    _ ≤ (y / p).natAbs * p.natAbs := Nat.mul_le_mul_left _ h2
theorem m_times_in {Γ : Gam} : Meets Γ 3 z_times_in c_times_in := by
  intro ds S P W h
  unfold c_times_in at h
  split at h
  · rename_i x p
    obtain ⟨hx, ⟨hp, hp2⟩, h⟩ := h
    change wZs Γ z_times_in (retE P) [some (.int x), some (.int p), none] S (errW W)
    dsimp only [z_times_in, wZs, wZ, wE, wEs, wT, wTs, lk, List.set, aTru]
    refine ⟨fun m ρ S1 => S1 = S ∧ ∃ y k, m = y.natAbs ∧ ρ = [some (.int y), some (.int p), some (.int (k : Nat))] ∧ y ≠ 0 ∧ x = y * p ^ k, ⟨_, rfl, x, 0, rfl, rfl, hx, by simp⟩, ?_⟩
    rintro m ρ S1 ⟨rfl, y, k, rfl, rfl, hy, e⟩
    simp only [lk, List.set, q_mod, q_eq, q_tb, q_div]
    refine ⟨by omega, if_b (fun hz => ?_) fun hz => ?_⟩
    · obtain ⟨d1, d2, d3⟩ := div_down hp hy (fmod_dv hz)
      refine ⟨div_ok (n := 64) (by omega) (by omega) (by decide) (by decide), ?_⟩
      refine ⟨_, d1, trivial, _, k + 1, rfl, rfl, d2, ?_⟩
      rw [e, Int.pow_succ, Int.mul_comm (p ^ k), ← Int.mul_assoc, d3]
    · exact ret_now (h k (val_end hp e fun z => hz (fmod_dvd z)))
  · exact h.elim
/-! ### what primes do -/
theorem primes_ok : ∀ p ∈ primesL, 2 ≤ p ∧ p < 100 ∧ ∀ d ∈ List.range (p.toNat + 1), d ∣ p.toNat → d = 1 ∨ d = p.toNat := by decide +kernel
theorem prime_dvd {p : Int} (h : p ∈ primesL) {x y : Int} (hd : p ∣ x * y) : p ∣ x ∨ p ∣ y := by
  obtain ⟨h2, _, hp⟩ := primes_ok p h
  have e : ((p.toNat : Nat) : Int) = p := by omega
  have g : Nat.gcd x.natAbs p.toNat ∣ p.toNat := Nat.gcd_dvd_right ..
  have gl : Nat.gcd x.natAbs p.toNat ≤ p.toNat := Nat.le_of_dvd (by omega) g
  have hd' : p.toNat ∣ x.natAbs * y.natAbs := by
    rw [← Int.natAbs_mul]
    have : p.natAbs ∣ (x * y).natAbs := Int.natAbs_dvd_natAbs.mpr hd
    rwa [show p.natAbs = p.toNat by omega] at this
  rcases hp _ (List.mem_range.mpr (by omega)) g with h1 | h1
  · right
    have c : Nat.Coprime p.toNat x.natAbs := by
      unfold Nat.Coprime
      rw [Nat.gcd_comm]
      exact h1
    have := c.dvd_of_dvd_mul_left hd'
    exact Int.natAbs_dvd_natAbs.mp (by rwa [show p.natAbs = p.toNat by omega])
  · left
    have : p.toNat ∣ x.natAbs := by
      rw [← h1]
      exact Nat.gcd_dvd_left ..
    exact Int.natAbs_dvd_natAbs.mp (by rwa [show p.natAbs = p.toNat by omega])
theorem pow_le_dvd {p : Int} {i j : Nat} (h : i ≤ j) : p ^ i ∣ p ^ j := ⟨p ^ (j - i), by rw [← Int.pow_add]; congr 1; omega⟩
theorem val_uniq {p x : Int} {i j : Nat} (h : Val p x i) (k : Val p x j) : i = j := by
  rcases Nat.lt_trichotomy i j with l | l | l
  · exact (h.2 (Int.dvd_trans (pow_le_dvd l) k.1)).elim
  · exact l
  · exact (k.2 (Int.dvd_trans (pow_le_dvd l) h.1)).elim
theorem val_mul {p : Int} (hp : p ∈ primesL) {x y : Int} {i j : Nat} (h : Val p x i) (k : Val p y j) : Val p (x * y) (i + j) := by
  have h2 := (primes_ok p hp).1
  obtain ⟨⟨u, hu⟩, hx⟩ := h
  obtain ⟨⟨v, hv⟩, hy⟩ := k
  refine val_end h2 (y := u * v) ?_ fun hd => ?_
  · rw [hu, hv, Int.pow_add]
    simp only [Int.mul_comm, Int.mul_left_comm, Int.mul_assoc]
  · rcases prime_dvd hp hd with ⟨z, hz⟩ | ⟨z, hz⟩
    · exact hx ⟨z, by rw [hu, hz, Int.pow_succ, Int.mul_assoc]⟩
    · exact hy ⟨z, by rw [hv, hz, Int.pow_succ, Int.mul_assoc]⟩
theorem val_ex {p : Int} (h2 : 2 ≤ p) : ∀ (n : Nat) {x : Int}, x.natAbs ≤ n → x ≠ 0 → ∃ k, Val p x k
  | 0, x, hn, hx => by omega
  | n + 1, x, hn, hx => by
    by_cases hd : p ∣ x
    · obtain ⟨d1, d2, d3⟩ := div_down h2 hx hd
      obtain ⟨k, hk, hk2⟩ := val_ex h2 n (x := x.fdiv p) (by omega) d2
      refine ⟨k + 1, ?_, ?_⟩
      · obtain ⟨z, hz⟩ := hk
        exact ⟨z, by rw [← d3, hz, Int.pow_succ]; simp only [Int.mul_comm, Int.mul_left_comm, Int.mul_assoc]⟩
      · rintro ⟨z, hz⟩
        apply hk2
        have h0 : p ≠ 0 := by omega
        refine ⟨z, Int.eq_of_mul_eq_mul_right h0 ?_⟩
        rw [d3, hz, Int.pow_succ p (k + 1)]
        simp only [Int.mul_comm, Int.mul_left_comm, Int.mul_assoc]
    · exact ⟨0, ⟨x, by simp⟩, by rw [Nat.zero_add, Int.pow_one]; exact hd⟩
/-- the power of p in t over b -/
def Pw (p t b : Int) (n : Int) : Prop := ∃ i j : Nat, Val p t i ∧ Val p b j ∧ n = (i : Int) - (j : Int)
theorem pw_ex {p t b : Int} (h2 : 2 ≤ p) (ht : t ≠ 0) (hb : b ≠ 0) : ∃ n, Pw p t b n := by
  obtain ⟨i, hi⟩ := val_ex h2 _ (Nat.le_refl _) ht
  obtain ⟨j, hj⟩ := val_ex h2 _ (Nat.le_refl _) hb
  exact ⟨_, i, j, hi, hj, rfl⟩
theorem pw_cross {p : Int} (hp : p ∈ primesL) {t b t' b' n n' : Int} (h : Pw p t b n) (h' : Pw p t' b' n') (e : t * b' = t' * b) : n = n' := by
  obtain ⟨i, j, h1, h2, rfl⟩ := h
  obtain ⟨i', j', h1', h2', rfl⟩ := h'
  have a := val_mul hp h1 h2'
  have b := val_mul hp h1' h2
  rw [e] at a
  have := val_uniq a b
  omega
theorem pw_mul {p : Int} (hp : p ∈ primesL) {t b t' b' n n' : Int} (h : Pw p t b n) (h' : Pw p t' b' n') : Pw p (t * t') (b * b') (n + n') := by
  obtain ⟨i, j, h1, h2, rfl⟩ := h
  obtain ⟨i', j', h1', h2', rfl⟩ := h'
  exact ⟨_, _, val_mul hp h1 h1', val_mul hp h2 h2', by omega⟩
/-- power_in(part, prime) -/
def c_power_in : Con := fun ds S P W => match ds with
  | [.tup [.int t, .int b], d] => Kd S d ∧ (primeD d = false → W 2 none S) ∧ ∀ p, d = .int p → p ∈ primesL → (t = 0 → P .non S) ∧ (t ≠ 0 → b ≠ 0 ∧ ∀ n, Pw p t b n → P (.int n) S)
  | _ => False
theorem m_power_in {Γ : Gam} (h26 : Γ.fn 26 = c_look_prime) (a26 : Γ.ar 26 = 1) (h27 : Γ.fn 27 = c_times_in) (a27 : Γ.ar 27 = 2) : Meets Γ 2 z_power_in c_power_in := by
  intro ds S P W h
  unfold c_power_in at h
  split at h
  · rename_i t b d
    obtain ⟨hk, hw, h⟩ := h
    change wZs Γ z_power_in (retE P) [some (.tup [.int t, .int b]), some d] S (errW W)
    dsimp only [z_power_in, wZs, wZ, wE, wEs, wT, wTs, lk, List.set, aTru]
    simp only [h26, a26, h27, a27, c_look_prime, q_ixT, at0, at1, q_eq, q_tb, List.length_cons, List.length_nil, Nat.reduceAdd, true_and]
    refine ⟨hk, fun hp => ?_, fun hp => err_now (hw hp)⟩
    cases d with
    | int p =>
      have hp' : p ∈ primesL := of_decide_eq_true hp
      obtain ⟨h1, h2⟩ := h p rfl hp'
      obtain ⟨q2, q3, _⟩ := primes_ok p hp'
      refine if_b (fun z => ret_now (h1 z)) fun z => ?_
      obtain ⟨hb, h2⟩ := h2 z
      simp only [c_times_in, q_sub]
      exact ⟨z, ⟨q2, q3⟩, fun i hi => ⟨hb, ⟨q2, q3⟩, fun j hj => ret_now (h2 _ ⟨i, j, hi, hj, rfl⟩)⟩⟩
    | _ => cases hp
  · exact h.elim
/-- _law_power(top, bottom, prime) -/
def c_law_power : Con := fun ds S P W => match ds with
  | [.int t, .int b, .int p] => t ≠ 0 ∧ b ≠ 0 ∧ (2 ≤ p ∧ p < 100) ∧ ∀ n, Pw p t b n → P (.int n) S
  | _ => False
theorem m_law_power {Γ : Gam} : Meets Γ 4 z_law_power c_law_power := by
  intro ds S P W h
  unfold c_law_power at h
  split at h
  · rename_i t b p
    obtain ⟨ht, hb, ⟨hp, hp2⟩, h⟩ := h
    change wZs Γ z_law_power (retE P) [some (.int t), some (.int b), some (.int p), none] S (errW W)
    dsimp only [z_law_power, wZs, wZ, wE, wEs, wT, wTs, lk, List.set, aTru]
    have dp : DivOk p := div_ok (n := 64) (by omega) (by omega) (by decide) (by decide)
    refine ⟨fun m ρ S1 => S1 = S ∧ ∃ y k, m = y.natAbs ∧ ρ = [some (.int y), some (.int b), some (.int p), some (.int (k : Nat))] ∧ y ≠ 0 ∧ t = y * p ^ k, ⟨_, rfl, t, 0, rfl, rfl, ht, by simp⟩, ?_⟩
    rintro m ρ S1 ⟨rfl, y, k, rfl, rfl, hy, e⟩
    simp only [lk, List.set, q_mod, q_eq, q_tb, q_div, q_add]
    refine ⟨by omega, if_b (fun hz => ?_) fun hz => ?_⟩
    · obtain ⟨d1, d2, d3⟩ := div_down hp hy (fmod_dv hz)
      refine ⟨dp, ?_⟩
      refine ⟨_, d1, trivial, _, k + 1, rfl, rfl, d2, ?_⟩
      rw [e, Int.pow_succ, Int.mul_comm (p ^ k), ← Int.mul_assoc, d3]
    · have v1 : Val p t k := val_end hp e fun z => hz (fmod_dvd z)
      refine ⟨fun m ρ S2 => S2 = S1 ∧ ∃ (w : Int) (j : Nat), m = w.natAbs ∧ ρ = [some (.int y), some (.int w), some (.int p), some (.int ((k : Int) - (j : Int)))] ∧ w ≠ 0 ∧ b = w * p ^ j, ⟨_, rfl, b, 0, rfl, by simp, hb, by simp⟩, ?_⟩
      rintro m ρ S2 ⟨rfl, w, j, rfl, rfl, hw, e2⟩
      simp only [lk, List.set, q_mod, q_eq, q_tb, q_div, q_sub]
      refine ⟨by omega, if_b (fun hz => ?_) fun hz => ?_⟩
      · obtain ⟨d1, d2, d3⟩ := div_down hp hw (fmod_dv hz)
        refine ⟨dp, ?_⟩
        refine ⟨_, d1, trivial, _, j + 1, rfl, ?_, d2, ?_⟩
        · rw [show (k : Int) - ((j + 1 : Nat) : Int) = (k : Int) - (j : Int) - 1 by omega]
        · rw [e2, Int.pow_succ, Int.mul_comm (p ^ j), ← Int.mul_assoc, d3]
      · exact ret_now (h _ ⟨k, j, v1, val_end hp e2 fun z => hz (fmod_dvd z), rfl⟩)
  · exact h.elim
end Sd
namespace Sd
open PySem
/-! ### spots -/
def spotB : D → Bool
  | .tup [x, y] => fracB x && fracB y
  | _ => false
theorem spotB_s {d : D} : spotB d = true ↔ ∃ s : Spot, d = dS s := by
  constructor
  · intro h
    unfold spotB at h
    split at h
    · rename_i x y
      rw [Bool.and_eq_true] at h
      obtain ⟨a, rfl⟩ := fracB_q.mp h.1
      obtain ⟨b, rfl⟩ := fracB_q.mp h.2
      exact ⟨(a, b), rfl⟩
    · cases h
  · rintro ⟨s, rfl⟩
    unfold spotB dS
    simp only [Bool.and_eq_true]
    exact ⟨fracB_q.mpr ⟨_, rfl⟩, fracB_q.mpr ⟨_, rfl⟩⟩
theorem spotB_len {l : List D} (h : l.length ≠ 2) : spotB (.tup l) = false := by
  match l, h with
  | [], _ => rfl
  | [_], _ => simp [spotB]
  | [_, _], hl => exact (hl rfl).elim
  | _ :: _ :: _ :: _, _ => simp [spotB]
def c_law_spot : Con := fun ds S P _ => match ds with
  | [.ref a] => ∃ n, Row S a n ∧ n < 2 ^ 50 ∧ ∀ s S', SzS 100 s → Row S' a (n + 8) → Rowed S S' a → P (dS s) S'
  | _ => False
theorem m_law_spot {Γ : Gam} (h10 : Γ.fn 10 = c_law_frac) (a10 : Γ.ar 10 = 1) : Meets Γ 1 z_law_spot c_law_spot := by
  intro ds S P W h
  unfold c_law_spot at h
  split at h
  · rename_i a
    obtain ⟨n, r, hn, h⟩ := h
    change wZs Γ z_law_spot (retE P) [some (.ref a)] S (errW W)
    dsimp only [z_law_spot]
    dsimp only [wZs, wZ, wE, wEs, wT, wTs, wI, lk, List.set, aTru, partS, List.take, List.drop]
    try simp only [h10, a10, q_add, q_sub, q_mul, q_div, q_mod, q_pow, q_lt, q_le, q_gt, q_ge, q_eq, q_ne, q_is, q_isnt, q_isntB, q_isB, q_tb, q_ti, q_tn, q_tt, q_ixQ0, q_ixQ1, q_ixS0, q_ixS1, q_eqQ, q_neQ, q_eqSp, q_neSp, q_eqB, q_neB, q_ixT, q_lenT, q_abs, q_intI, q_intB, q_min2, q_max2, at0, at1, at2, List.length_cons, List.length_nil, sizeLine_eq, Nat.reduceAdd, Nat.reduceLeDiff, true_and, Bool.not_true, Bool.not_false, Bool.false_eq_true, if_false, reduceIte, lk, List.set, whole_int, whole_bl, whole_tup, whole_non]
    refine frac_row r (by omega) fun x S1 hx r1 o1 => frac_row r1 (by omega) fun y S2 hy r2 o2 => ret_now (h (x, y) S2 ⟨hx, hy⟩ (r2.mono (by omega)) (o1.trans o2))
  · exact h.elim
def c_is_spot : Con := fun ds S P _ => match ds with
  | [d] => (∃ n, Wf S n d) ∧ P (.bl (spotB d)) S
  | _ => False
theorem m_is_spot {Γ : Gam} (h22 : Γ.fn 22 = c_is_fracT) (a22 : Γ.ar 22 = 1) : Meets Γ 1 z_is_spot c_is_spot := by
  intro ds S P W h
  unfold c_is_spot at h
  split at h
  · rename_i d
    obtain ⟨⟨n, hw⟩, hp⟩ := h
    change wZs Γ z_is_spot (retE P) [some d] S (errW W)
    dsimp only [z_is_spot]
    dsimp only [wZs, wZ, wE, wEs, wT, wTs, wI, lk, List.set, aTru, partS, List.take, List.drop]
    rcases hw.thing with ⟨l, rfl, hl⟩ | ⟨hd, hk⟩
    · try simp only [isi_tup, q_add, q_sub, q_mul, q_div, q_mod, q_pow, q_lt, q_le, q_gt, q_ge, q_eq, q_ne, q_is, q_isnt, q_isntB, q_isB, q_tb, q_ti, q_tn, q_tt, q_ixQ0, q_ixQ1, q_ixS0, q_ixS1, q_eqQ, q_neQ, q_eqSp, q_neSp, q_eqB, q_neB, q_ixT, q_lenT, q_abs, q_intI, q_intB, q_min2, q_max2, at0, at1, at2, List.length_cons, List.length_nil, sizeLine_eq, Nat.reduceAdd, Nat.reduceLeDiff, true_and, Bool.not_true, Bool.not_false, Bool.false_eq_true, if_false, reduceIte, lk, List.set, whole_int, whole_bl, whole_tup, whole_non]
      by_cases h2 : l.length = 2
      · match l, h2 with
        | [x, y], _ =>
          have e2 : decide (((2 : Nat) : Int) = 2) = true := rfl
          try simp only [e2, h22, a22, c_is_fracT, q_add, q_sub, q_mul, q_div, q_mod, q_pow, q_lt, q_le, q_gt, q_ge, q_eq, q_ne, q_is, q_isnt, q_isntB, q_isB, q_tb, q_ti, q_tn, q_tt, q_ixQ0, q_ixQ1, q_ixS0, q_ixS1, q_eqQ, q_neQ, q_eqSp, q_neSp, q_eqB, q_neB, q_ixT, q_lenT, q_abs, q_intI, q_intB, q_min2, q_max2, at0, at1, at2, List.length_cons, List.length_nil, sizeLine_eq, Nat.reduceAdd, Nat.reduceLeDiff, true_and, Bool.not_true, Bool.not_false, Bool.false_eq_true, if_false, reduceIte, lk, List.set, whole_int, whole_bl, whole_tup, whole_non]
          refine ⟨⟨n, hl.1⟩, ?_⟩
          cases hx : fracB x
          · have e1 : spotB (.tup [x, y]) = false := by simp only [spotB, hx, Bool.false_and]
            rw [e1] at hp
            exact ret_now hp
          · refine ⟨⟨n, hl.2.1⟩, ?_⟩
            have e1 : spotB (.tup [x, y]) = fracB y := by simp only [spotB, hx, Bool.true_and]
            rw [e1] at hp
            exact ret_now hp
      · rw [spotB_len h2] at hp
        rw [decide_eq_false (fun z : ((l.length : Nat) : Int) = 2 => h2 (by omega))]
        exact ret_now hp
    · have e1 : spotB d = false := by
        cases d <;> first | rfl | exact (hd _ rfl).elim
      rw [e1] at hp
      try simp only [isi_not hk hd, q_add, q_sub, q_mul, q_div, q_mod, q_pow, q_lt, q_le, q_gt, q_ge, q_eq, q_ne, q_is, q_isnt, q_isntB, q_isB, q_tb, q_ti, q_tn, q_tt, q_ixQ0, q_ixQ1, q_ixS0, q_ixS1, q_eqQ, q_neQ, q_eqSp, q_neSp, q_eqB, q_neB, q_ixT, q_lenT, q_abs, q_intI, q_intB, q_min2, q_max2, at0, at1, at2, List.length_cons, List.length_nil, sizeLine_eq, Nat.reduceAdd, Nat.reduceLeDiff, true_and, Bool.not_true, Bool.not_false, Bool.false_eq_true, if_false, reduceIte, lk, List.set, whole_int, whole_bl, whole_tup, whole_non]
      exact ret_now hp
  · exact h.elim
def c_is_ahead : Con := fun ds S P _ => match ds with
  | [x, y] => ∃ s t, x = dS s ∧ y = dS t ∧ SzS 4000 s ∧ SzS 4000 t ∧ P (.bl (decide (ah s t))) S
  | _ => False
theorem ah_dec {s t : Spot} (h : s.1 ≠ t.1) : decide (s.1 < t.1) = decide (ah s t) := decide_eq_decide.mpr ⟨fun z => .inl z, fun z => z.elim id fun w => (h w.1).elim⟩
theorem ah_dec2 {s t : Spot} (h : s.1 = t.1) : decide (s.2 < t.2) = decide (ah s t) := decide_eq_decide.mpr ⟨fun z => .inr ⟨h, z⟩, fun z => z.elim (fun w => by rw [h] at w; exact (Rat.lt_irrefl w).elim) fun w => w.2⟩
theorem m_is_ahead {Γ : Gam} (h13 : Γ.fn 13 = c_is_below) (a13 : Γ.ar 13 = 2) : Meets Γ 2 z_is_ahead c_is_ahead := by
  intro ds S P W h
  unfold c_is_ahead at h
  split at h
  · obtain ⟨s, t, rfl, rfl, hs, ht, hp⟩ := h
    change wZs Γ z_is_ahead (retE P) [some (dS s), some (dS t)] S (errW W)
    dsimp only [z_is_ahead]
    dsimp only [wZs, wZ, wE, wEs, wT, wTs, wI, lk, List.set, aTru, partS, List.take, List.drop]
    try simp only [h13, a13, q_add, q_sub, q_mul, q_div, q_mod, q_pow, q_lt, q_le, q_gt, q_ge, q_eq, q_ne, q_is, q_isnt, q_isntB, q_isB, q_tb, q_ti, q_tn, q_tt, q_ixQ0, q_ixQ1, q_ixS0, q_ixS1, q_eqQ, q_neQ, q_eqSp, q_neSp, q_eqB, q_neB, q_ixT, q_lenT, q_abs, q_intI, q_intB, q_min2, q_max2, at0, at1, at2, List.length_cons, List.length_nil, sizeLine_eq, Nat.reduceAdd, Nat.reduceLeDiff, true_and, Bool.not_true, Bool.not_false, Bool.false_eq_true, if_false, reduceIte, lk, List.set, whole_int, whole_bl, whole_tup, whole_non]
    refine if_nb (fun hx => ?_) fun hx => ?_
    · refine is_below_q hs.1 ht.1 (ret_now ?_)
      rw [ah_dec hx]
      exact hp
    · refine is_below_q hs.2 ht.2 (ret_now ?_)
      rw [ah_dec2 hx]
      exact hp
  · exact h.elim
end Sd
namespace Sd
open PySem
/-! ### twice the area -/
/-- how_far: differences over the bottoms -/
def c_how_far : Con := fun ds S P _ => match ds with
  | [x, y] => ∃ s t n, x = dS s ∧ y = dS t ∧ n ≤ 100000 ∧ SzS n s ∧ SzS n t ∧ P (.tup [.tup [.int (t.1.num * s.1.den - s.1.num * t.1.den), .int (t.1.den * s.1.den)], .tup [.int (t.2.num * s.2.den - s.2.num * t.2.den), .int (t.2.den * s.2.den)]]) S
  | _ => False
theorem m_how_far {Γ : Gam} : Meets Γ 4 z_how_far c_how_far := by
  intro ds S P W h
  unfold c_how_far at h
  split at h
  · obtain ⟨s, t, n, rfl, rfl, hn, hs, ht, hp⟩ := h
    change wZs Γ z_how_far (retE P) [some (dS s), some (dS t), none, none] S (errW W)
    dsimp only [z_how_far]
    dsimp only [wZs, wZ, wE, wEs, wT, wTs, wI, lk, List.set, aTru, partS, List.take, List.drop]
    try simp only [true_and, q_add, q_sub, q_mul, q_div, q_mod, q_pow, q_lt, q_le, q_gt, q_ge, q_eq, q_ne, q_is, q_isnt, q_isntB, q_isB, q_tb, q_ti, q_tn, q_tt, q_ixQ0, q_ixQ1, q_ixS0, q_ixS1, q_eqQ, q_neQ, q_eqSp, q_neSp, q_eqB, q_neB, q_ixT, q_lenT, q_abs, q_intI, q_intB, q_min2, q_max2, at0, at1, at2, List.length_cons, List.length_nil, sizeLine_eq, Nat.reduceAdd, Nat.reduceLeDiff, true_and, Bool.not_true, Bool.not_false, Bool.false_eq_true, if_false, reduceIte, lk, List.set, whole_int, whole_bl, whole_tup, whole_non]
    have s1 := hs.1.bd; have s2 := hs.2.bd; have t1 := ht.1.bd; have t2 := ht.2.bd
    exact ⟨t1.1.ok s1.2 (by omega), s1.1.ok t1.2 (by omega), t1.2.ok s1.2 (by omega), t2.1.ok s2.2 (by omega), s2.1.ok t2.2 (by omega), t2.2.ok s2.2 (by omega), ret_now hp⟩
  · exact h.elim
/-- a top over a bottom: twice the area -/
def TwP (a b c : Spot) (n : Nat) (t u : Int) : Prop := 0 < u ∧ (t : Rat) = tw a b c * (u : Rat) ∧ Bd (8 * n + 3) t ∧ Bd (8 * n) u
theorem twp_eq (a b c : Spot) :
    (((b.1.num * a.1.den - a.1.num * b.1.den) * (c.2.num * a.2.den - a.2.num * c.2.den) * (c.1.den * a.1.den) * (b.2.den * a.2.den) - (c.1.num * a.1.den - a.1.num * c.1.den) * (b.2.num * a.2.den - a.2.num * b.2.den) * (b.1.den * a.1.den) * (c.2.den * a.2.den) : Int) : Rat)
      = tw a b c * (((b.1.den * a.1.den) * (c.2.den * a.2.den) * (c.1.den * a.1.den) * (b.2.den * a.2.den) : Int) : Rat) := by
  have h1 := rat_eq a.1; have h2 := rat_eq a.2; have h3 := rat_eq b.1; have h4 := rat_eq b.2; have h5 := rat_eq c.1; have h6 := rat_eq c.2
  have n1 := den_ne a.1; have n2 := den_ne a.2; have n3 := den_ne b.1; have n4 := den_ne b.2; have n5 := den_ne c.1; have n6 := den_ne c.2
  unfold tw
  simp only [Rat.intCast_mul, Rat.intCast_sub]
  generalize (a.1.num : Rat) = an at *
  generalize ((a.1.den : Int) : Rat) = ad at *
  generalize (a.2.num : Rat) = am at *
  generalize ((a.2.den : Int) : Rat) = ae at *
  generalize (b.1.num : Rat) = bn at *
  generalize ((b.1.den : Int) : Rat) = bd at *
  generalize (b.2.num : Rat) = bm at *
  generalize ((b.2.den : Int) : Rat) = be at *
  generalize (c.1.num : Rat) = cn at *
  generalize ((c.1.den : Int) : Rat) = cd at *
  generalize (c.2.num : Rat) = cm at *
  generalize ((c.2.den : Int) : Rat) = ce at *
  generalize a.1 = x1 at *
  generalize a.2 = x2 at *
  generalize b.1 = y1 at *
  generalize b.2 = y2 at *
  generalize c.1 = z1 at *
  generalize c.2 = z2 at *
  have e1 : an = x1 * ad := by rw [h1, Rat.div_mul_cancel n1]
  have e2 : am = x2 * ae := by rw [h2, Rat.div_mul_cancel n2]
  have e3 : bn = y1 * bd := by rw [h3, Rat.div_mul_cancel n3]
  have e4 : bm = y2 * be := by rw [h4, Rat.div_mul_cancel n4]
  have e5 : cn = z1 * cd := by rw [h5, Rat.div_mul_cancel n5]
  have e6 : cm = z2 * ce := by rw [h6, Rat.div_mul_cancel n6]
  rw [e1, e2, e3, e4, e5, e6]
  clear h1 h2 h3 h4 h5 h6 n1 n2 n3 n4 n5 n6 e1 e2 e3 e4 e5 e6
  grind
theorem twp_ok {n : Nat} {a b c : Spot} (ha : SzS n a) (hb : SzS n b) (hc : SzS n c) :
    TwP a b c n ((b.1.num * a.1.den - a.1.num * b.1.den) * (c.2.num * a.2.den - a.2.num * c.2.den) * (c.1.den * a.1.den) * (b.2.den * a.2.den) - (c.1.num * a.1.den - a.1.num * c.1.den) * (b.2.num * a.2.den - a.2.num * b.2.den) * (b.1.den * a.1.den) * (c.2.den * a.2.den))
      ((b.1.den * a.1.den) * (c.2.den * a.2.den) * (c.1.den * a.1.den) * (b.2.den * a.2.den)) := by
  have a1 := ha.1.bd; have a2 := ha.2.bd; have b1 := hb.1.bd; have b2 := hb.2.bd; have c1 := hc.1.bd; have c2 := hc.2.bd
  have pd : ∀ x : Rat, 0 < (x.den : Int) := fun x => by have := x.den_nz; omega
  refine ⟨?_, twp_eq a b c, ?_, ?_⟩
  · exact Int.mul_pos (Int.mul_pos (Int.mul_pos (Int.mul_pos (pd _) (pd _)) (Int.mul_pos (pd _) (pd _))) (Int.mul_pos (pd _) (pd _))) (Int.mul_pos (pd _) (pd _))
  · have r := (b1.1.mul a1.2).sub (a1.1.mul b1.2)
    have h := (c2.1.mul a2.2).sub (a2.1.mul c2.2)
    have q := (c1.1.mul a1.2).sub (a1.1.mul c1.2)
    have u := (b2.1.mul a2.2).sub (a2.1.mul b2.2)
    have x1 := ((r.mul h).mul (c1.2.mul a1.2)).mul (b2.2.mul a2.2)
    have x2 := ((q.mul u).mul (b1.2.mul a1.2)).mul (c2.2.mul a2.2)
    exact (x1.sub x2).mono (by omega)
  · exact ((((b1.2.mul a1.2).mul (c2.2.mul a2.2)).mul (c1.2.mul a1.2)).mul (b2.2.mul a2.2)).mono (by omega)
def c_twice_parts : Con := fun ds S P _ => match ds with
  | [x, y, z] => ∃ a b c n, x = dS a ∧ y = dS b ∧ z = dS c ∧ n ≤ 100000 ∧ SzS n a ∧ SzS n b ∧ SzS n c ∧ ∀ t u, TwP a b c n t u → P (.tup [.int t, .int u]) S
  | _ => False
theorem twp_mul {n : Nat} {a b c : Spot} (hn : n ≤ 100000) (ha : SzS n a) (hb : SzS n b) (hc : SzS n c) :
    IntMulOk (b.1.num * a.1.den - a.1.num * b.1.den) (c.2.num * a.2.den - a.2.num * c.2.den) ∧
    IntMulOk ((b.1.num * a.1.den - a.1.num * b.1.den) * (c.2.num * a.2.den - a.2.num * c.2.den)) (c.1.den * a.1.den) ∧
    IntMulOk ((b.1.num * a.1.den - a.1.num * b.1.den) * (c.2.num * a.2.den - a.2.num * c.2.den) * (c.1.den * a.1.den)) (b.2.den * a.2.den) ∧
    IntMulOk (c.1.num * a.1.den - a.1.num * c.1.den) (b.2.num * a.2.den - a.2.num * b.2.den) ∧
    IntMulOk ((c.1.num * a.1.den - a.1.num * c.1.den) * (b.2.num * a.2.den - a.2.num * b.2.den)) (b.1.den * a.1.den) ∧
    IntMulOk ((c.1.num * a.1.den - a.1.num * c.1.den) * (b.2.num * a.2.den - a.2.num * b.2.den) * (b.1.den * a.1.den)) (c.2.den * a.2.den) ∧
    IntMulOk (b.1.den * a.1.den) (c.2.den * a.2.den) ∧
    IntMulOk ((b.1.den * a.1.den) * (c.2.den * a.2.den)) (c.1.den * a.1.den) ∧
    IntMulOk ((b.1.den * a.1.den) * (c.2.den * a.2.den) * (c.1.den * a.1.den)) (b.2.den * a.2.den) := by
  have a1 := ha.1.bd; have a2 := ha.2.bd; have b1 := hb.1.bd; have b2 := hb.2.bd; have c1 := hc.1.bd; have c2 := hc.2.bd
  have r := (b1.1.mul a1.2).sub (a1.1.mul b1.2)
  have h := (c2.1.mul a2.2).sub (a2.1.mul c2.2)
  have q := (c1.1.mul a1.2).sub (a1.1.mul c1.2)
  have u := (b2.1.mul a2.2).sub (a2.1.mul b2.2)
  have d1 := b1.2.mul a1.2; have d2 := c2.2.mul a2.2; have d3 := c1.2.mul a1.2; have d4 := b2.2.mul a2.2
  exact ⟨r.ok h (by omega), (r.mul h).ok d3 (by omega), ((r.mul h).mul d3).ok d4 (by omega), q.ok u (by omega), (q.mul u).ok d1 (by omega), ((q.mul u).mul d1).ok d2 (by omega), d1.ok d2 (by omega), (d1.mul d2).ok d3 (by omega), ((d1.mul d2).mul d3).ok d4 (by omega)⟩
theorem m_twice_parts {Γ : Gam} (h43 : Γ.fn 43 = c_how_far) (a43 : Γ.ar 43 = 2) : Meets Γ 11 z_twice_parts c_twice_parts := by
  intro ds S P W h
  unfold c_twice_parts at h
  split at h
  · obtain ⟨a, b, c, n, rfl, rfl, rfl, hn, ha, hb, hc, hp⟩ := h
    change wZs Γ z_twice_parts (retE P) [some (dS a), some (dS b), some (dS c), none, none, none, none, none, none, none, none] S (errW W)
    dsimp only [z_twice_parts]
    dsimp only [wZs, wZ, wE, wEs, wT, wTs, wI, lk, List.set, aTru, partS, List.take, List.drop]
    try simp only [h43, a43, q_add, q_sub, q_mul, q_div, q_mod, q_pow, q_lt, q_le, q_gt, q_ge, q_eq, q_ne, q_is, q_isnt, q_isntB, q_isB, q_tb, q_ti, q_tn, q_tt, q_ixQ0, q_ixQ1, q_ixS0, q_ixS1, q_eqQ, q_neQ, q_eqSp, q_neSp, q_eqB, q_neB, q_ixT, q_lenT, q_abs, q_intI, q_intB, q_min2, q_max2, at0, at1, at2, List.length_cons, List.length_nil, sizeLine_eq, Nat.reduceAdd, Nat.reduceLeDiff, true_and, Bool.not_true, Bool.not_false, Bool.false_eq_true, if_false, reduceIte, lk, List.set, whole_int, whole_bl, whole_tup, whole_non]
    refine ⟨a, b, n, rfl, rfl, hn, ha, hb, ?_⟩
    try simp only [true_and, q_add, q_sub, q_mul, q_div, q_mod, q_pow, q_lt, q_le, q_gt, q_ge, q_eq, q_ne, q_is, q_isnt, q_isntB, q_isB, q_tb, q_ti, q_tn, q_tt, q_ixQ0, q_ixQ1, q_ixS0, q_ixS1, q_eqQ, q_neQ, q_eqSp, q_neSp, q_eqB, q_neB, q_ixT, q_lenT, q_abs, q_intI, q_intB, q_min2, q_max2, at0, at1, at2, List.length_cons, List.length_nil, sizeLine_eq, Nat.reduceAdd, Nat.reduceLeDiff, true_and, Bool.not_true, Bool.not_false, Bool.false_eq_true, if_false, reduceIte, lk, List.set, whole_int, whole_bl, whole_tup, whole_non]
    refine ⟨a, c, n, rfl, rfl, hn, ha, hc, ?_⟩
    try simp only [true_and, q_add, q_sub, q_mul, q_div, q_mod, q_pow, q_lt, q_le, q_gt, q_ge, q_eq, q_ne, q_is, q_isnt, q_isntB, q_isB, q_tb, q_ti, q_tn, q_tt, q_ixQ0, q_ixQ1, q_ixS0, q_ixS1, q_eqQ, q_neQ, q_eqSp, q_neSp, q_eqB, q_neB, q_ixT, q_lenT, q_abs, q_intI, q_intB, q_min2, q_max2, at0, at1, at2, List.length_cons, List.length_nil, sizeLine_eq, Nat.reduceAdd, Nat.reduceLeDiff, true_and, Bool.not_true, Bool.not_false, Bool.false_eq_true, if_false, reduceIte, lk, List.set, whole_int, whole_bl, whole_tup, whole_non]
    obtain ⟨g1, g2, g3, g4, g5, g6, g7, g8, g9⟩ := twp_mul hn ha hb hc
    exact ⟨g1, g2, g3, g4, g5, g6, g7, g8, g9, ret_now (hp _ _ (twp_ok ha hb hc))⟩
  · exact h.elim
abbrev c_law_less : Con := fun ds S P _ => match ds with
  | [x, y] => ∃ s t n, x = dQ s ∧ y = dQ t ∧ n ≤ 100000 ∧ Sz n s ∧ Sz n t ∧ P (.tup [.int (s.num * t.den - t.num * s.den), .int (s.den * t.den)]) S
  | _ => False
theorem m_law_less {Γ : Gam} : Meets Γ 2 z_law_less c_law_less := by
  intro ds S P W h
  unfold c_law_less at h
  split at h
  · obtain ⟨s, t, n, rfl, rfl, hn, hs, ht, hp⟩ := h
    change wZs Γ z_law_less (retE P) [some (dQ s), some (dQ t)] S (errW W)
    dsimp only [z_law_less]
    dsimp only [wZs, wZ, wE, wEs, wT, wTs, wI, lk, List.set, aTru, partS, List.take, List.drop]
    try simp only [true_and, q_add, q_sub, q_mul, q_div, q_mod, q_pow, q_lt, q_le, q_gt, q_ge, q_eq, q_ne, q_is, q_isnt, q_isntB, q_isB, q_tb, q_ti, q_tn, q_tt, q_ixQ0, q_ixQ1, q_ixS0, q_ixS1, q_eqQ, q_neQ, q_eqSp, q_neSp, q_eqB, q_neB, q_ixT, q_lenT, q_abs, q_intI, q_intB, q_min2, q_max2, at0, at1, at2, List.length_cons, List.length_nil, sizeLine_eq, Nat.reduceAdd, Nat.reduceLeDiff, true_and, Bool.not_true, Bool.not_false, Bool.false_eq_true, if_false, reduceIte, lk, List.set, whole_int, whole_bl, whole_tup, whole_non]
    have s1 := hs.bd; have t1 := ht.bd
    exact ⟨s1.1.ok t1.2 (by omega), t1.1.ok s1.2 (by omega), s1.2.ok t1.2 (by omega), ret_now hp⟩
  · exact h.elim
abbrev c_law_twice : Con := c_twice_parts
theorem m_law_twice {Γ : Gam} (h41 : Γ.fn 41 = c_law_less) (a41 : Γ.ar 41 = 2) : Meets Γ 12 z_law_twice c_law_twice := by
  intro ds S P W h
  unfold c_law_twice c_twice_parts at h
  split at h
  · obtain ⟨a, b, c, n, rfl, rfl, rfl, hn, ha, hb, hc, hp⟩ := h
    change wZs Γ z_law_twice (retE P) [some (dS a), some (dS b), some (dS c), none, none, none, none, none, none, none, none, none] S (errW W)
    dsimp only [z_law_twice]
    dsimp only [wZs, wZ, wE, wEs, wT, wTs, wI, lk, List.set, aTru, partS, List.take, List.drop]
    try simp only [h41, a41, q_add, q_sub, q_mul, q_div, q_mod, q_pow, q_lt, q_le, q_gt, q_ge, q_eq, q_ne, q_is, q_isnt, q_isntB, q_isB, q_tb, q_ti, q_tn, q_tt, q_ixQ0, q_ixQ1, q_ixS0, q_ixS1, q_eqQ, q_neQ, q_eqSp, q_neSp, q_eqB, q_neB, q_ixT, q_lenT, q_abs, q_intI, q_intB, q_min2, q_max2, at0, at1, at2, List.length_cons, List.length_nil, sizeLine_eq, Nat.reduceAdd, Nat.reduceLeDiff, true_and, Bool.not_true, Bool.not_false, Bool.false_eq_true, if_false, reduceIte, lk, List.set, whole_int, whole_bl, whole_tup, whole_non]
    refine ⟨b.1, a.1, n, rfl, rfl, hn, hb.1, ha.1, ?_⟩
    try simp only [true_and, q_add, q_sub, q_mul, q_div, q_mod, q_pow, q_lt, q_le, q_gt, q_ge, q_eq, q_ne, q_is, q_isnt, q_isntB, q_isB, q_tb, q_ti, q_tn, q_tt, q_ixQ0, q_ixQ1, q_ixS0, q_ixS1, q_eqQ, q_neQ, q_eqSp, q_neSp, q_eqB, q_neB, q_ixT, q_lenT, q_abs, q_intI, q_intB, q_min2, q_max2, at0, at1, at2, List.length_cons, List.length_nil, sizeLine_eq, Nat.reduceAdd, Nat.reduceLeDiff, true_and, Bool.not_true, Bool.not_false, Bool.false_eq_true, if_false, reduceIte, lk, List.set, whole_int, whole_bl, whole_tup, whole_non]
    refine ⟨b.2, a.2, n, rfl, rfl, hn, hb.2, ha.2, ?_⟩
    try simp only [true_and, q_add, q_sub, q_mul, q_div, q_mod, q_pow, q_lt, q_le, q_gt, q_ge, q_eq, q_ne, q_is, q_isnt, q_isntB, q_isB, q_tb, q_ti, q_tn, q_tt, q_ixQ0, q_ixQ1, q_ixS0, q_ixS1, q_eqQ, q_neQ, q_eqSp, q_neSp, q_eqB, q_neB, q_ixT, q_lenT, q_abs, q_intI, q_intB, q_min2, q_max2, at0, at1, at2, List.length_cons, List.length_nil, sizeLine_eq, Nat.reduceAdd, Nat.reduceLeDiff, true_and, Bool.not_true, Bool.not_false, Bool.false_eq_true, if_false, reduceIte, lk, List.set, whole_int, whole_bl, whole_tup, whole_non]
    refine ⟨c.1, a.1, n, rfl, rfl, hn, hc.1, ha.1, ?_⟩
    try simp only [true_and, q_add, q_sub, q_mul, q_div, q_mod, q_pow, q_lt, q_le, q_gt, q_ge, q_eq, q_ne, q_is, q_isnt, q_isntB, q_isB, q_tb, q_ti, q_tn, q_tt, q_ixQ0, q_ixQ1, q_ixS0, q_ixS1, q_eqQ, q_neQ, q_eqSp, q_neSp, q_eqB, q_neB, q_ixT, q_lenT, q_abs, q_intI, q_intB, q_min2, q_max2, at0, at1, at2, List.length_cons, List.length_nil, sizeLine_eq, Nat.reduceAdd, Nat.reduceLeDiff, true_and, Bool.not_true, Bool.not_false, Bool.false_eq_true, if_false, reduceIte, lk, List.set, whole_int, whole_bl, whole_tup, whole_non]
    refine ⟨c.2, a.2, n, rfl, rfl, hn, hc.2, ha.2, ?_⟩
    try simp only [true_and, q_add, q_sub, q_mul, q_div, q_mod, q_pow, q_lt, q_le, q_gt, q_ge, q_eq, q_ne, q_is, q_isnt, q_isntB, q_isB, q_tb, q_ti, q_tn, q_tt, q_ixQ0, q_ixQ1, q_ixS0, q_ixS1, q_eqQ, q_neQ, q_eqSp, q_neSp, q_eqB, q_neB, q_ixT, q_lenT, q_abs, q_intI, q_intB, q_min2, q_max2, at0, at1, at2, List.length_cons, List.length_nil, sizeLine_eq, Nat.reduceAdd, Nat.reduceLeDiff, true_and, Bool.not_true, Bool.not_false, Bool.false_eq_true, if_false, reduceIte, lk, List.set, whole_int, whole_bl, whole_tup, whole_non]
    obtain ⟨g1, g2, g3, g4, g5, g6, g7, g8, g9⟩ := twp_mul hn ha hb hc
    exact ⟨g1, g2, g3, g4, g5, g6, g7, g8, g9, ret_now (hp _ _ (twp_ok ha hb hc))⟩
  · exact h.elim
theorem TwP.div {a b c : Spot} {n : Nat} {t u : Int} (h : TwP a b c n t u) : (t : Rat) / (u : Rat) = tw a b c := by
  obtain ⟨h1, h2, _⟩ := h
  rw [h2, Rat.mul_div_cancel (cast_ne (by omega))]
def c_twice_of : Con := fun ds S P _ => match ds with
  | [x, y, z] => ∃ a b c, x = dS a ∧ y = dS b ∧ z = dS c ∧ SzS 1100 a ∧ SzS 1100 b ∧ SzS 1100 c ∧ P (dQ (tw a b c)) S
  | _ => False
theorem m_twice_of {Γ : Gam} (h44 : Γ.fn 44 = c_twice_parts) (a44 : Γ.ar 44 = 3) (h3 : Γ.fn 3 = c_frac_of) (a3 : Γ.ar 3 = 2) : Meets Γ 5 z_twice_of c_twice_of := by
  intro ds S P W h
  unfold c_twice_of at h
  split at h
  · obtain ⟨a, b, c, rfl, rfl, rfl, ha, hb, hc, hp⟩ := h
    change wZs Γ z_twice_of (retE P) [some (dS a), some (dS b), some (dS c), none, none] S (errW W)
    dsimp only [z_twice_of]
    dsimp only [wZs, wZ, wE, wEs, wT, wTs, wI, lk, List.set, aTru, partS, List.take, List.drop]
    try simp only [h44, a44, h3, a3, q_add, q_sub, q_mul, q_div, q_mod, q_pow, q_lt, q_le, q_gt, q_ge, q_eq, q_ne, q_is, q_isnt, q_isntB, q_isB, q_tb, q_ti, q_tn, q_tt, q_ixQ0, q_ixQ1, q_ixS0, q_ixS1, q_eqQ, q_neQ, q_eqSp, q_neSp, q_eqB, q_neB, q_ixT, q_lenT, q_abs, q_intI, q_intB, q_min2, q_max2, at0, at1, at2, List.length_cons, List.length_nil, sizeLine_eq, Nat.reduceAdd, Nat.reduceLeDiff, true_and, Bool.not_true, Bool.not_false, Bool.false_eq_true, if_false, reduceIte, lk, List.set, whole_int, whole_bl, whole_tup, whole_non]
    refine ⟨a, b, c, 1100, rfl, rfl, rfl, by decide, ha, hb, hc, fun t u htu => ?_⟩
    try simp only [true_and, q_add, q_sub, q_mul, q_div, q_mod, q_pow, q_lt, q_le, q_gt, q_ge, q_eq, q_ne, q_is, q_isnt, q_isntB, q_isB, q_tb, q_ti, q_tn, q_tt, q_ixQ0, q_ixQ1, q_ixS0, q_ixS1, q_eqQ, q_neQ, q_eqSp, q_neSp, q_eqB, q_neB, q_ixT, q_lenT, q_abs, q_intI, q_intB, q_min2, q_max2, at0, at1, at2, List.length_cons, List.length_nil, sizeLine_eq, Nat.reduceAdd, Nat.reduceLeDiff, true_and, Bool.not_true, Bool.not_false, Bool.false_eq_true, if_false, reduceIte, lk, List.set, whole_int, whole_bl, whole_tup, whole_non]
    refine frac_of_q (by have := htu.1; omega) (htu.2.2.2.lt9 (by decide)) ?_
    rw [htu.div]
    exact ret_now hp
  · exact h.elim
theorem int_lt0 {t : Int} : ((t : Rat) < 0) ↔ t < 0 := Rat.intCast_neg_iff
theorem sgn_top {a b c : Spot} {n : Nat} {t u : Int} (h : TwP a b c n t u) : ((if decide (0 < t) = true then (1 : Int) else 0) - (if decide (t < 0) = true then 1 else 0)) = sgn (tw a b c) := by
  obtain ⟨h1, h2, _⟩ := h
  have hu : (0 : Rat) < (u : Rat) := Rat.intCast_pos.mpr h1
  have p : 0 < t ↔ 0 < tw a b c := by
    rw [← Rat.intCast_pos (a := t), h2]
    exact Rat.mul_pos_iff_of_pos_right hu
  have q : t < 0 ↔ tw a b c < 0 := by
    rw [← int_lt0 (t := t), h2]
    exact Rat.mul_neg_iff_of_pos_right hu
  unfold sgn
  simp only [decide_eq_true_eq]
  by_cases h3 : 0 < t
  · rw [if_pos h3, if_pos (p.mp h3), if_neg (by omega)]; rfl
  · rw [if_neg h3, if_neg (fun z => h3 (p.mpr z))]
    by_cases h4 : t < 0
    · rw [if_pos h4, if_pos (q.mp h4)]; rfl
    · rw [if_neg h4, if_neg (fun z => h4 (q.mpr z))]; rfl
def c_turn_of : Con := fun ds S P _ => match ds with
  | [x, y, z] => ∃ a b c n, x = dS a ∧ y = dS b ∧ z = dS c ∧ n ≤ 100000 ∧ SzS n a ∧ SzS n b ∧ SzS n c ∧ P (.int (sgn (tw a b c))) S
  | _ => False
theorem m_turn_of {Γ : Gam} (h44 : Γ.fn 44 = c_twice_parts) (a44 : Γ.ar 44 = 3) : Meets Γ 4 z_turn_of c_turn_of := by
  intro ds S P W h
  unfold c_turn_of at h
  split at h
  · obtain ⟨a, b, c, n, rfl, rfl, rfl, hn, ha, hb, hc, hp⟩ := h
    change wZs Γ z_turn_of (retE P) [some (dS a), some (dS b), some (dS c), none] S (errW W)
    dsimp only [z_turn_of]
    dsimp only [wZs, wZ, wE, wEs, wT, wTs, wI, lk, List.set, aTru, partS, List.take, List.drop]
    try simp only [h44, a44, q_add, q_sub, q_mul, q_div, q_mod, q_pow, q_lt, q_le, q_gt, q_ge, q_eq, q_ne, q_is, q_isnt, q_isntB, q_isB, q_tb, q_ti, q_tn, q_tt, q_ixQ0, q_ixQ1, q_ixS0, q_ixS1, q_eqQ, q_neQ, q_eqSp, q_neSp, q_eqB, q_neB, q_ixT, q_lenT, q_abs, q_intI, q_intB, q_min2, q_max2, at0, at1, at2, List.length_cons, List.length_nil, sizeLine_eq, Nat.reduceAdd, Nat.reduceLeDiff, true_and, Bool.not_true, Bool.not_false, Bool.false_eq_true, if_false, reduceIte, lk, List.set, whole_int, whole_bl, whole_tup, whole_non]
    refine ⟨a, b, c, n, rfl, rfl, rfl, hn, ha, hb, hc, fun t u htu => ?_⟩
    try simp only [true_and, q_add, q_sub, q_mul, q_div, q_mod, q_pow, q_lt, q_le, q_gt, q_ge, q_eq, q_ne, q_is, q_isnt, q_isntB, q_isB, q_tb, q_ti, q_tn, q_tt, q_ixQ0, q_ixQ1, q_ixS0, q_ixS1, q_eqQ, q_neQ, q_eqSp, q_neSp, q_eqB, q_neB, q_ixT, q_lenT, q_abs, q_intI, q_intB, q_min2, q_max2, at0, at1, at2, List.length_cons, List.length_nil, sizeLine_eq, Nat.reduceAdd, Nat.reduceLeDiff, true_and, Bool.not_true, Bool.not_false, Bool.false_eq_true, if_false, reduceIte, lk, List.set, whole_int, whole_bl, whole_tup, whole_non]
    rw [sgn_top htu]
    exact ret_now hp
  · exact h.elim
abbrev c_law_turn : Con := c_turn_of
theorem m_law_turn {Γ : Gam} (h42 : Γ.fn 42 = c_twice_parts) (a42 : Γ.ar 42 = 3) : Meets Γ 4 z_law_turn c_law_turn := by
  intro ds S P W h
  unfold c_law_turn c_turn_of at h
  split at h
  · obtain ⟨a, b, c, n, rfl, rfl, rfl, hn, ha, hb, hc, hp⟩ := h
    change wZs Γ z_law_turn (retE P) [some (dS a), some (dS b), some (dS c), none] S (errW W)
    dsimp only [z_law_turn]
    dsimp only [wZs, wZ, wE, wEs, wT, wTs, wI, lk, List.set, aTru, partS, List.take, List.drop]
    try simp only [h42, a42, q_add, q_sub, q_mul, q_div, q_mod, q_pow, q_lt, q_le, q_gt, q_ge, q_eq, q_ne, q_is, q_isnt, q_isntB, q_isB, q_tb, q_ti, q_tn, q_tt, q_ixQ0, q_ixQ1, q_ixS0, q_ixS1, q_eqQ, q_neQ, q_eqSp, q_neSp, q_eqB, q_neB, q_ixT, q_lenT, q_abs, q_intI, q_intB, q_min2, q_max2, at0, at1, at2, List.length_cons, List.length_nil, sizeLine_eq, Nat.reduceAdd, Nat.reduceLeDiff, true_and, Bool.not_true, Bool.not_false, Bool.false_eq_true, if_false, reduceIte, lk, List.set, whole_int, whole_bl, whole_tup, whole_non]
    refine ⟨a, b, c, n, rfl, rfl, rfl, hn, ha, hb, hc, fun t u htu => ?_⟩
    try simp only [true_and, q_add, q_sub, q_mul, q_div, q_mod, q_pow, q_lt, q_le, q_gt, q_ge, q_eq, q_ne, q_is, q_isnt, q_isntB, q_isB, q_tb, q_ti, q_tn, q_tt, q_ixQ0, q_ixQ1, q_ixS0, q_ixS1, q_eqQ, q_neQ, q_eqSp, q_neSp, q_eqB, q_neB, q_ixT, q_lenT, q_abs, q_intI, q_intB, q_min2, q_max2, at0, at1, at2, List.length_cons, List.length_nil, sizeLine_eq, Nat.reduceAdd, Nat.reduceLeDiff, true_and, Bool.not_true, Bool.not_false, Bool.false_eq_true, if_false, reduceIte, lk, List.set, whole_int, whole_bl, whole_tup, whole_non]
    rw [sgn_top htu]
    exact ret_now hp
  · exact h.elim
def c_is_amid : Con := fun ds S P _ => match ds with
  | [x, y, z] => ∃ s a b, x = dS s ∧ y = dS a ∧ z = dS b ∧ SzS 4000 s ∧ SzS 4000 a ∧ SzS 4000 b ∧ P (.bl (decide (amid s a b))) S
  | _ => False
theorem m_is_amid {Γ : Gam} (h46 : Γ.fn 46 = c_turn_of) (a46 : Γ.ar 46 = 3) (h34 : Γ.fn 34 = c_is_ahead) (a34 : Γ.ar 34 = 2) : Meets Γ 3 z_is_amid c_is_amid := by
  intro ds S P W h
  unfold c_is_amid at h
  split at h
  · obtain ⟨s, a, b, rfl, rfl, rfl, hs, ha, hb, hp⟩ := h
    change wZs Γ z_is_amid (retE P) [some (dS s), some (dS a), some (dS b)] S (errW W)
    dsimp only [z_is_amid]
    dsimp only [wZs, wZ, wE, wEs, wT, wTs, wI, lk, List.set, aTru, partS, List.take, List.drop]
    try simp only [h46, a46, h34, a34, q_add, q_sub, q_mul, q_div, q_mod, q_pow, q_lt, q_le, q_gt, q_ge, q_eq, q_ne, q_is, q_isnt, q_isntB, q_isB, q_tb, q_ti, q_tn, q_tt, q_ixQ0, q_ixQ1, q_ixS0, q_ixS1, q_eqQ, q_neQ, q_eqSp, q_neSp, q_eqB, q_neB, q_ixT, q_lenT, q_abs, q_intI, q_intB, q_min2, q_max2, at0, at1, at2, List.length_cons, List.length_nil, sizeLine_eq, Nat.reduceAdd, Nat.reduceLeDiff, true_and, Bool.not_true, Bool.not_false, Bool.false_eq_true, if_false, reduceIte, lk, List.set, whole_int, whole_bl, whole_tup, whole_non]
    refine ⟨a, b, s, 4000, rfl, rfl, rfl, by decide, ha, hb, hs, ?_⟩
    try simp only [true_and, q_add, q_sub, q_mul, q_div, q_mod, q_pow, q_lt, q_le, q_gt, q_ge, q_eq, q_ne, q_is, q_isnt, q_isntB, q_isB, q_tb, q_ti, q_tn, q_tt, q_ixQ0, q_ixQ1, q_ixS0, q_ixS1, q_eqQ, q_neQ, q_eqSp, q_neSp, q_eqB, q_neB, q_ixT, q_lenT, q_abs, q_intI, q_intB, q_min2, q_max2, at0, at1, at2, List.length_cons, List.length_nil, sizeLine_eq, Nat.reduceAdd, Nat.reduceLeDiff, true_and, Bool.not_true, Bool.not_false, Bool.false_eq_true, if_false, reduceIte, lk, List.set, whole_int, whole_bl, whole_tup, whole_non]
    refine if_nb (fun hz => ?_) fun hz => ?_
    · rw [decide_eq_false (fun z : amid s a b => hz (sgn_zero.mpr z.1))] at hp
      exact ret_now hp
    · have h0 := sgn_zero.mp hz
      have e : decide (amid s a b) = decide (ah a s ∧ ah s b ∨ ah b s ∧ ah s a) := decide_eq_decide.mpr ⟨fun z => z.2, fun z => ⟨h0, z⟩⟩
      rw [e] at hp
      refine ⟨a, s, rfl, rfl, ha, hs, ?_⟩
      by_cases g1 : ah a s <;> by_cases g2 : ah s b <;> by_cases g3 : ah b s <;> by_cases g4 : ah s a <;> simp only [g1, g2, g3, g4, decide_true, decide_false, q_tb, and_true, true_and, or_true, true_or, and_false, false_and, or_false, false_or, and_self, or_self] at hp ⊢ <;>
        first
        | exact ret_now hp
        | exact ⟨_, _, rfl, rfl, hs, hb, by simp only [g1, g2, g3, g4, decide_true, decide_false, q_tb]; first | exact ret_now hp | exact ⟨_, _, rfl, rfl, hb, hs, by simp only [g1, g2, g3, g4, decide_true, decide_false, q_tb]; first | exact ret_now hp | exact ⟨_, _, rfl, rfl, hs, ha, by simp only [g1, g2, g3, g4, decide_true, decide_false, q_tb]; exact ret_now hp⟩⟩⟩
        | exact ⟨_, _, rfl, rfl, hb, hs, by simp only [g1, g2, g3, g4, decide_true, decide_false, q_tb]; first | exact ret_now hp | exact ⟨_, _, rfl, rfl, hs, ha, by simp only [g1, g2, g3, g4, decide_true, decide_false, q_tb]; exact ret_now hp⟩⟩
  · exact h.elim
def c_on_way : Con := fun ds S P _ => match ds with
  | [x, y, z] => ∃ a b t n, x = dS a ∧ y = dS b ∧ z = dQ t ∧ n ≤ 900 ∧ SzS n a ∧ SzS n b ∧ Sz n t ∧ P (dS (onw a b t)) S
  | _ => False
theorem m_on_way {Γ : Gam} (h14 : Γ.fn 14 = c_added) (a14 : Γ.ar 14 = 2) (h15 : Γ.fn 15 = c_lessened) (a15 : Γ.ar 15 = 2) (h16 : Γ.fn 16 = c_multiplied) (a16 : Γ.ar 16 = 2) : Meets Γ 3 z_on_way c_on_way := by
  intro ds S P W h
  unfold c_on_way at h
  split at h
  · obtain ⟨a, b, t, n, rfl, rfl, rfl, hn, ha, hb, ht, hp⟩ := h
    change wZs Γ z_on_way (retE P) [some (dS a), some (dS b), some (dQ t)] S (errW W)
    dsimp only [z_on_way]
    dsimp only [wZs, wZ, wE, wEs, wT, wTs, wI, lk, List.set, aTru, partS, List.take, List.drop]
    try simp only [h14, a14, h15, a15, h16, a16, q_add, q_sub, q_mul, q_div, q_mod, q_pow, q_lt, q_le, q_gt, q_ge, q_eq, q_ne, q_is, q_isnt, q_isntB, q_isB, q_tb, q_ti, q_tn, q_tt, q_ixQ0, q_ixQ1, q_ixS0, q_ixS1, q_eqQ, q_neQ, q_eqSp, q_neSp, q_eqB, q_neB, q_ixT, q_lenT, q_abs, q_intI, q_intB, q_min2, q_max2, at0, at1, at2, List.length_cons, List.length_nil, sizeLine_eq, Nat.reduceAdd, Nat.reduceLeDiff, true_and, Bool.not_true, Bool.not_false, Bool.false_eq_true, if_false, reduceIte, lk, List.set, whole_int, whole_bl, whole_tup, whole_non]
    have d1 := hb.1.sub ha.1; have d2 := hb.2.sub ha.2
    refine lessened_q (hb.1.mono (by omega)) (ha.1.mono (by omega)) (multiplied_q (ht.mono (by omega)) (d1.mono (by omega)) (added_q (ha.1.mono (by omega)) ((ht.mul d1).mono (by omega)) ?_))
    refine lessened_q (hb.2.mono (by omega)) (ha.2.mono (by omega)) (multiplied_q (ht.mono (by omega)) (d2.mono (by omega)) (added_q (ha.2.mono (by omega)) ((ht.mul d2).mono (by omega)) ?_))
    exact ret_now hp
  · exact h.elim
def c_law_near : Con := fun ds S P _ => match ds with
  | [.ref a] => ∃ n, Row S a n ∧ n < 2 ^ 50 ∧ ∀ s S', SzS 6 s → Row S' a (n + 4) → Rowed S S' a → P (dS s) S'
  | _ => False
theorem m_law_near {Γ : Gam} (h0 : Γ.fn 0 = c_law_take_2) (a0 : Γ.ar 0 = 2) (h4 : Γ.fn 4 = c_law_lowest) (a4 : Γ.ar 4 = 2) : Meets Γ 1 z_law_near c_law_near := by
  intro ds S P W h
  unfold c_law_near at h
  split at h
  · rename_i a
    obtain ⟨n, r, hn, h⟩ := h
    change wZs Γ z_law_near (retE P) [some (.ref a)] S (errW W)
    dsimp only [z_law_near]
    dsimp only [wZs, wZ, wE, wEs, wT, wTs, wI, lk, List.set, aTru, partS, List.take, List.drop]
    try simp only [h0, a0, h4, a4, q_add, q_sub, q_mul, q_div, q_mod, q_pow, q_lt, q_le, q_gt, q_ge, q_eq, q_ne, q_is, q_isnt, q_isntB, q_isB, q_tb, q_ti, q_tn, q_tt, q_ixQ0, q_ixQ1, q_ixS0, q_ixS1, q_eqQ, q_neQ, q_eqSp, q_neSp, q_eqB, q_neB, q_ixT, q_lenT, q_abs, q_intI, q_intB, q_min2, q_max2, at0, at1, at2, List.length_cons, List.length_nil, sizeLine_eq, Nat.reduceAdd, Nat.reduceLeDiff, true_and, Bool.not_true, Bool.not_false, Bool.false_eq_true, if_false, reduceIte, lk, List.set, whole_int, whole_bl, whole_tup, whole_non]
    have sz : ∀ {k m : Int}, 0 ≤ k → k < 25 → 0 ≤ m → m < 6 → Sz 6 (((k - 12 : Int) : Rat) / ((1 + m : Int) : Rat)) := fun k0 k1 m0 m1 => sz_div (by omega) (by omega) (by omega)
    refine take_row r (by omega) (by decide) fun k S1 k0 k1 r1 o1 => ?_
    try simp only [true_and, q_add, q_sub, q_mul, q_div, q_mod, q_pow, q_lt, q_le, q_gt, q_ge, q_eq, q_ne, q_is, q_isnt, q_isntB, q_isB, q_tb, q_ti, q_tn, q_tt, q_ixQ0, q_ixQ1, q_ixS0, q_ixS1, q_eqQ, q_neQ, q_eqSp, q_neSp, q_eqB, q_neB, q_ixT, q_lenT, q_abs, q_intI, q_intB, q_min2, q_max2, at0, at1, at2, List.length_cons, List.length_nil, sizeLine_eq, Nat.reduceAdd, Nat.reduceLeDiff, true_and, Bool.not_true, Bool.not_false, Bool.false_eq_true, if_false, reduceIte, lk, List.set, whole_int, whole_bl, whole_tup, whole_non]
    refine take_row r1 (by omega) (by decide) fun m S2 m0 m1 r2 o2 => ?_
    try simp only [true_and, q_add, q_sub, q_mul, q_div, q_mod, q_pow, q_lt, q_le, q_gt, q_ge, q_eq, q_ne, q_is, q_isnt, q_isntB, q_isB, q_tb, q_ti, q_tn, q_tt, q_ixQ0, q_ixQ1, q_ixS0, q_ixS1, q_eqQ, q_neQ, q_eqSp, q_neSp, q_eqB, q_neB, q_ixT, q_lenT, q_abs, q_intI, q_intB, q_min2, q_max2, at0, at1, at2, List.length_cons, List.length_nil, sizeLine_eq, Nat.reduceAdd, Nat.reduceLeDiff, true_and, Bool.not_true, Bool.not_false, Bool.false_eq_true, if_false, reduceIte, lk, List.set, whole_int, whole_bl, whole_tup, whole_non]
    refine lowest_q (by omega) (Bd.lt9 (n := 4) (by unfold Bd; omega) (by decide)) ?_
    refine take_row r2 (by omega) (by decide) fun k' S3 k0' k1' r3 o3 => ?_
    try simp only [true_and, q_add, q_sub, q_mul, q_div, q_mod, q_pow, q_lt, q_le, q_gt, q_ge, q_eq, q_ne, q_is, q_isnt, q_isntB, q_isB, q_tb, q_ti, q_tn, q_tt, q_ixQ0, q_ixQ1, q_ixS0, q_ixS1, q_eqQ, q_neQ, q_eqSp, q_neSp, q_eqB, q_neB, q_ixT, q_lenT, q_abs, q_intI, q_intB, q_min2, q_max2, at0, at1, at2, List.length_cons, List.length_nil, sizeLine_eq, Nat.reduceAdd, Nat.reduceLeDiff, true_and, Bool.not_true, Bool.not_false, Bool.false_eq_true, if_false, reduceIte, lk, List.set, whole_int, whole_bl, whole_tup, whole_non]
    refine take_row r3 (by omega) (by decide) fun m' S4 m0' m1' r4 o4 => ?_
    try simp only [true_and, q_add, q_sub, q_mul, q_div, q_mod, q_pow, q_lt, q_le, q_gt, q_ge, q_eq, q_ne, q_is, q_isnt, q_isntB, q_isB, q_tb, q_ti, q_tn, q_tt, q_ixQ0, q_ixQ1, q_ixS0, q_ixS1, q_eqQ, q_neQ, q_eqSp, q_neSp, q_eqB, q_neB, q_ixT, q_lenT, q_abs, q_intI, q_intB, q_min2, q_max2, at0, at1, at2, List.length_cons, List.length_nil, sizeLine_eq, Nat.reduceAdd, Nat.reduceLeDiff, true_and, Bool.not_true, Bool.not_false, Bool.false_eq_true, if_false, reduceIte, lk, List.set, whole_int, whole_bl, whole_tup, whole_non]
    refine lowest_q (by omega) (Bd.lt9 (n := 4) (by unfold Bd; omega) (by decide)) ?_
    exact ret_now (h (_, _) _ ⟨sz k0 k1 m0 m1, sz k0' k1' m0' m1'⟩ (r4.mono (by omega)) (o1.trans (o2.trans (o3.trans o4))))
  · exact h.elim
/-- sums of any list -/
def c_sum_ofT : Con := fun ds S P _ => match ds with
  | [.ref a] => ∃ w l, S a = some (.lst w (l.map dQ)) ∧ (∀ x ∈ l, Sz 4499 x) ∧ (∀ k, Sz 4499 (qsum (l.take k))) ∧ P (dQ (qsum l)) S
  | _ => False
theorem m_sum_ofT {Γ : Gam} (h14 : Γ.fn 14 = c_added) (a14 : Γ.ar 14 = 2) : Meets Γ 3 z_sum_of c_sum_ofT := by
  intro ds S P W h
  unfold c_sum_ofT at h
  split at h
  · rename_i a
    obtain ⟨w, l, e, hz, hk, hp⟩ := h
    change wZs Γ z_sum_of (retE P) [some (.ref a), none, none] S (errW W)
    dsimp only [z_sum_of]
    dsimp only [wZs, wZ, wE, wEs, wT, wTs, wI, lk, List.set, aTru, partS, List.take, List.drop]
    try simp only [e, q_add, q_sub, q_mul, q_div, q_mod, q_pow, q_lt, q_le, q_gt, q_ge, q_eq, q_ne, q_is, q_isnt, q_isntB, q_isB, q_tb, q_ti, q_tn, q_tt, q_ixQ0, q_ixQ1, q_ixS0, q_ixS1, q_eqQ, q_neQ, q_eqSp, q_neSp, q_eqB, q_neB, q_ixT, q_lenT, q_abs, q_intI, q_intB, q_min2, q_max2, at0, at1, at2, List.length_cons, List.length_nil, sizeLine_eq, Nat.reduceAdd, Nat.reduceLeDiff, true_and, Bool.not_true, Bool.not_false, Bool.false_eq_true, if_false, reduceIte, lk, List.set, whole_int, whole_bl, whole_tup, whole_non]
    refine for_ind (src := .lst a w (l.map dQ)) (fun r ρ S1 => S1 = S ∧ ∃ done rest y, l = done ++ rest ∧ r = rest.map dQ ∧ ρ = [some (.ref a), some (dQ (qsum done)), y]) ?_ ?_ ?_ ⟨rfl, [], l, none, rfl, rfl, rfl⟩
    · rintro r ρ S1 ⟨rfl, _⟩
      exact e
    · rintro ρ S1 ⟨rfl, done, rest, y, hl, hr, rfl⟩
      have : rest = [] := by
        cases rest with
        | nil => rfl
        | cons _ _ => cases hr
      subst this
      rw [List.append_nil] at hl
      subst hl
      exact ret_now hp
    · rintro F d r ρ S1 ⟨rfl, done, rest, y, hl, hr, rfl⟩ hF
      cases rest with
      | nil => cases hr
      | cons x rest =>
        simp only [List.map_cons, List.cons.injEq] at hr
        obtain ⟨rfl, rfl⟩ := hr
        try simp only [h14, a14, q_add, q_sub, q_mul, q_div, q_mod, q_pow, q_lt, q_le, q_gt, q_ge, q_eq, q_ne, q_is, q_isnt, q_isntB, q_isB, q_tb, q_ti, q_tn, q_tt, q_ixQ0, q_ixQ1, q_ixS0, q_ixS1, q_eqQ, q_neQ, q_eqSp, q_neSp, q_eqB, q_neB, q_ixT, q_lenT, q_abs, q_intI, q_intB, q_min2, q_max2, at0, at1, at2, List.length_cons, List.length_nil, sizeLine_eq, Nat.reduceAdd, Nat.reduceLeDiff, true_and, Bool.not_true, Bool.not_false, Bool.false_eq_true, if_false, reduceIte, lk, List.set, whole_int, whole_bl, whole_tup, whole_non]
        have hd := hk done.length
        rw [hl, List.take_left] at hd
        refine added_Q hd (hz x (by rw [hl]; simp)) (hF _ _ ⟨rfl, done ++ [x], rest, some (dQ x), by rw [hl]; simp, rfl, ?_⟩)
        rw [qsum_app, qsum, qsum, Rat.add_zero]
  · exact h.elim
end Sd
namespace Sd
open PySem
theorem pd_ints {n : Nat} {g : Addr → Option PyData} : ∀ {l : List Int}, pdWs g (n + 1) (l.map D.int) = some (l.map PyData.int)
  | [] => pd_nil
  | x :: l => by
    rw [List.map_cons, pd_cons, pd_ints, pd_int]
    rfl
theorem pds_ints {S : Sto} {a : Addr} {w : Bool} {l : List Int} (e : S a = some (.lst w (l.map D.int))) : pdS S (.ref a) = some (.list (l.map PyData.int)) := by
  rw [pds_ref, e]
  simp only [pd_ints]
theorem pds_nil {S : Sto} {a : Addr} {w : Bool} (e : S a = some (.lst w [])) : pdS S (.ref a) = some (.list []) := pds_ints (l := []) e
theorem ev_isnil {l : List Int} : PyData.eqv (.list (l.map PyData.int)) (.list []) = l.isEmpty := by
  rw [ev_list]
  cases l with
  | nil => rw [List.map_nil, ev_nil]; rfl
  | cons x l => rw [List.map_cons]; simp only [PyData.eqvAll]; rfl
/-- divisors from lo on -/
def dvs (n : Int) : Int → Nat → List Int
  | _, 0 => []
  | lo, k + 1 => if n.fmod lo = 0 then lo :: dvs n (lo + 1) k else dvs n (lo + 1) k
def isPr (n : Int) : Bool := (dvs n 2 (n - 2).toNat).isEmpty
def sieve : Int → Nat → List Int
  | _, 0 => []
  | lo, k + 1 => if isPr lo = true then lo :: sieve (lo + 1) k else sieve (lo + 1) k
theorem sieve_all : sieve 2 98 = primesL := by decide +kernel
def c_law_primes : Con := fun ds S P _ => match ds with
  | [] => ∀ p, S p = none → P (.ref p) (S.up p (.lst true (primesL.map D.int)))
  | _ => False
theorem m_law_primes {Γ : Gam} : Meets Γ 2 z_law_primes c_law_primes := by
  intro ds S P W h
  unfold c_law_primes at h
  split at h
  · change wZs Γ z_law_primes (retE P) [none, none] S (errW W)
    dsimp only [z_law_primes, wZs, wZ, wE, wEs, wT, wTs, wI, lk, List.set, aTru, wipeD]
    refine ⟨by decide, fun p np => ?_⟩
    refine lc_ind (src := .free) (fun r T => ∃ (lo : Int) (n : Nat) (acc : List Int), r = rngItems lo n ∧ T p = some (.lst true (acc.map D.int)) ∧ Sto.le S T ∧ acc ++ sieve lo n = primesL ∧ 2 ≤ lo ∧ lo + n ≤ 100 ∧ acc.length + n ≤ 98) (fun _ _ _ => trivial) ?_ ?_ ⟨2, 98, [], rfl, up_same, up_ls np, sieve_all, by decide, by decide, by decide⟩
    · rintro T ⟨lo, n, acc, hr, e, hT, hs, _⟩
      have hn : n = 0 := by
        cases n with
        | zero => rfl
        | succ n => rw [rng_cons] at hr; cases hr
      subst hn
      rw [show sieve lo 0 = [] from rfl, List.append_nil] at hs
      subst hs
      refine ret_le (S' := S.up p (.lst true (primesL.map D.int))) (fun b o hb => ?_) (h p np)
      by_cases hbp : p = b
      · subst hbp
        rw [up_same] at hb
        cases hb
        exact e
      · rw [up_oth hbp] at hb
        exact hT _ _ hb
    · rintro F d r T ⟨lo, n, acc, hr, e, hT, hs, h2, h100, hlen⟩ hF
      cases n with
      | zero => cases hr
      | succ n =>
        rw [rng_cons] at hr
        cases hr
        have hlo : ((n + 1 : Nat) : Int) = (n : Int) + 1 := by omega
        simp only [lk, List.set]
        refine ⟨by omega, fun q nq => ?_⟩
        have hpq : q ≠ p := fun x => by rw [x, e] at nq; cases nq
        have fin : ∀ T', T' q = some (.lst true ((dvs lo 2 (lo - 2).toNat).map D.int)) → T' p = some (.lst true (acc.map D.int)) → Sto.le S T' → ∀ q2, T' q2 = none → cmpS .Eq (.ref q) (.ref q2) (T'.up q2 (.lst true [])) (fun d S1 => match truB S1 d with
          | some b => if b = true then (match S1 p with
              | some (.lst true acc) => acc.length < sizeLine ∧ F (S1.up p (.lst true (acc ++ [.int lo])))
              | _ => False) else F S1
          | none => False) := by
          intro T' e1 e2 hT' q2 n2
          have l2 := up_ls (o := .lst true []) n2
          rw [q_eqL, pds_ints (l2 _ _ e1), pds_nil (a := q2) up_same]
          simp only [ev_isnil, q_tb]
          rw [l2 _ _ e2]
          by_cases hP : isPr lo = true
          · rw [if_pos (show (dvs lo 2 (lo - 2).toNat).isEmpty = true from hP)]
            refine ⟨by rw [List.length_map, sizeLine_eq]; omega, hF _ ⟨lo + 1, n, acc ++ [lo], rfl, by rw [up_same]; simp, fun b o hb => ?_, ?_, by omega, by omega, by simp only [List.length_append, List.length_cons, List.length_nil]; omega⟩⟩
            · have := (hT'.trans l2) _ _ hb
              rw [up_oth (fun x => by rw [x, hb] at np; cases np)]
              exact this
            · rw [← hs, sieve, if_pos hP, List.append_assoc]
              rfl
          · rw [if_neg (show ¬ (dvs lo 2 (lo - 2).toNat).isEmpty = true from hP)]
            refine hF _ ⟨lo + 1, n, acc, rfl, l2 _ _ e2, hT'.trans l2, ?_, by omega, by omega, by omega⟩
            rw [← hs, sieve, if_neg hP]
        refine lc_ind (src := .free) (fun r T' => ∃ (k : Int) (m : Nat) (ds : List Int), r = rngItems k m ∧ T' q = some (.lst true (ds.map D.int)) ∧ T' p = some (.lst true (acc.map D.int)) ∧ Sto.le S T' ∧ ds ++ dvs lo k m = dvs lo 2 (lo - 2).toNat ∧ 2 ≤ k ∧ ds.length + m ≤ 98) (fun _ _ _ => trivial) ?_ ?_ ⟨2, (lo - 2).toNat, [], rfl, up_same, by rw [up_oth hpq]; exact e, hT.trans (up_ls nq), rfl, by decide, by simp only [List.length_nil]; omega⟩
        · rintro T' ⟨k, m, ds, hr, e1, e2, hT', hd, _⟩
          have hm : m = 0 := by
            cases m with
            | zero => rfl
            | succ m => rw [rng_cons] at hr; cases hr
          subst hm
          rw [show dvs lo k 0 = [] from rfl, List.append_nil] at hd
          subst hd
          simp only [List.length_nil]
          exact ⟨by rw [sizeLine_eq]; decide, fun q2 n2 => fin T' e1 e2 hT' q2 n2⟩
        · rintro G d r T' ⟨k, m, ds, hr, e1, e2, hT', hd, hk, hl⟩ hG
          cases m with
          | zero => cases hr
          | succ m =>
            rw [rng_cons] at hr
            cases hr
            simp only [lk, List.set, q_mod, q_eq, q_tb]
            rw [dvs] at hd
            refine ⟨by omega, if_b (fun hz => ?_) fun hz => ?_⟩
            · rw [if_pos hz] at hd
              rw [e1]
              refine ⟨by rw [List.length_map, sizeLine_eq]; omega, hG _ ⟨k + 1, m, ds ++ [k], rfl, by rw [up_same]; simp, by rw [up_oth hpq]; exact e2, fun b o hb => ?_, ?_, by omega, by simp only [List.length_append, List.length_cons, List.length_nil]; omega⟩⟩
              · have hbq : q ≠ b := fun x => by
                  rw [← x] at hb
                  rw [hT _ _ hb] at nq
                  cases nq
                rw [up_oth hbq]
                exact hT' _ _ hb
              · rw [List.append_assoc]
                exact hd
            · rw [if_neg hz] at hd
              exact hG _ ⟨k + 1, m, ds, rfl, e1, e2, hT', hd, by omega, by omega⟩
  · exact h.elim
end Sd
namespace Sd
open PySem
/-! ### the power of a prime in a rational number -/
noncomputable def vq (p : Int) (x : Rat) : Int := Classical.epsilon fun n => Pw p x.num x.den n
theorem num_ne {x : Rat} (h : x ≠ 0) : x.num ≠ 0 := fun e => h (Rat.num_eq_zero.mp e)
section
variable {p : Int} (hp : p ∈ primesL) {x y : Rat}
include hp
theorem vq_pw (h : x ≠ 0) : Pw p x.num x.den (vq p x) := Classical.epsilon_spec (pw_ex (primes_ok p hp).1 (num_ne h) (den_neI x))
theorem vq_of {t b n : Int} (h : x ≠ 0) (hb : b ≠ 0) (e : (t : Rat) = x * (b : Rat)) (k : Pw p t b n) : n = vq p x := by
  refine pw_cross hp k (vq_pw hp h) ?_
  apply Rat.intCast_inj.mp
  rw [Rat.intCast_mul, Rat.intCast_mul, e]
  have h1 := rat_eq x
  have h2 := den_ne x
  have h4 : (x.num : Rat) = x * ((x.den : Int) : Rat) := by
    have := Rat.div_mul_cancel (a := (x.num : Rat)) h2
    rw [← h1] at this
    exact this.symm
  rw [h4]
  grind
theorem vq_mul (hx : x ≠ 0) (hy : y ≠ 0) : vq p (x * y) = vq p x + vq p y := by
  have h := pw_mul hp (vq_pw hp hx) (vq_pw hp hy)
  refine (vq_of hp (fun e => ?_) (Int.mul_ne_zero (den_neI x) (den_neI y)) ?_ h).symm
  · rcases Rat.mul_eq_zero.mp e with e | e
    · exact hx e
    · exact hy e
  · have h1 := rat_eq x; have h2 := rat_eq y; have h3 := den_ne x; have h4 := den_ne y
    rw [Rat.intCast_mul, Rat.intCast_mul]
    grind
end
theorem val_le {p x : Int} {k m : Nat} (h : p ^ k ∣ x) (v : Val p x m) : k ≤ m := by
  rcases Nat.lt_or_ge m k with l | l
  · exact (v.2 (Int.dvd_trans (pow_le_dvd l) h)).elim
  · exact l
theorem val_add1 {p x y : Int} {k l m : Nat} (hx : Val p x k) (hy : Val p y l) (h : Val p (x + y) m) (kl : k ≤ l) : k ≤ m ∧ (k ≠ l → m = k) := by
  have d1 : p ^ k ∣ x + y := Int.dvd_add hx.1 (Int.dvd_trans (pow_le_dvd kl) hy.1)
  refine ⟨val_le d1 h, fun hne => ?_⟩
  have d2 : p ^ (k + 1) ∣ y := Int.dvd_trans (pow_le_dvd (by omega)) hy.1
  have v : Val p (x + y) k := ⟨d1, fun d3 => hx.2 (by
    have := Int.dvd_sub d3 d2
    rwa [Int.add_sub_cancel] at this)⟩
  exact val_uniq h v
theorem val_add {p x y : Int} {k l m : Nat} (hx : Val p x k) (hy : Val p y l) (h : Val p (x + y) m) : min k l ≤ m ∧ (k ≠ l → m = min k l) := by
  rcases Nat.le_total k l with z | z
  · obtain ⟨h1, h2⟩ := val_add1 hx hy h z
    exact ⟨by omega, fun hne => by rw [h2 hne]; omega⟩
  · rw [Int.add_comm] at h
    obtain ⟨h1, h2⟩ := val_add1 hy hx h z
    exact ⟨by omega, fun hne => by rw [h2 (fun e => hne e.symm)]; omega⟩
theorem val_small {p x : Int} {k : Nat} {n : Nat} (hp : 2 ≤ p) (hx : x ≠ 0) (h : Val p x k) (hb : x.natAbs < 2 ^ n) : k < n := by
  have h1 : (p ^ k).natAbs ∣ x.natAbs := Int.natAbs_dvd_natAbs.mpr h.1
  have h2 : (p ^ k).natAbs ≤ x.natAbs := Nat.le_of_dvd (by omega) h1
  rw [Int.natAbs_pow] at h2
  have h3 : 2 ^ k ≤ p.natAbs ^ k := Nat.pow_le_pow_left (by omega) k
  exact (Nat.pow_lt_pow_iff_right (by decide)).mp (by omega : 2 ^ k < 2 ^ n)
section
variable {p : Int} (hp : p ∈ primesL) {x y : Rat}
include hp
theorem vq_add (hx : x ≠ 0) (hy : y ≠ 0) (hs : x + y ≠ 0) : min (vq p x) (vq p y) ≤ vq p (x + y) ∧ (vq p x ≠ vq p y → vq p (x + y) = min (vq p x) (vq p y)) := by
  obtain ⟨va, vb, ha, hb, e1⟩ := vq_pw hp hx
  obtain ⟨vc, vd, hc, hd, e2⟩ := vq_pw hp hy
  have hne : x.num * y.den + y.num * x.den ≠ 0 := by
    intro z
    apply hs
    have h1 := rat_eq x; have h2 := rat_eq y; have h3 := den_ne x; have h4 := den_ne y
    have z' : ((x.num * y.den + y.num * x.den : Int) : Rat) = 0 := by rw [z]; rfl
    rw [Rat.intCast_add, Rat.intCast_mul, Rat.intCast_mul] at z'
    grind
  obtain ⟨vt, ht⟩ := val_ex (primes_ok p hp).1 _ (Nat.le_refl _) hne
  have hu := val_mul hp hb hd
  have e3 : ((vt : Int) - ((vb + vd : Nat) : Int)) = vq p (x + y) := by
    refine vq_of hp hs (Int.mul_ne_zero (den_neI x) (den_neI y)) ?_ ⟨vt, vb + vd, ht, hu, rfl⟩
    have h1 := rat_eq x; have h2 := rat_eq y; have h3 := den_ne x; have h4 := den_ne y
    rw [Rat.intCast_add, Rat.intCast_mul, Rat.intCast_mul, Rat.intCast_mul]
    grind
  obtain ⟨q1, q2⟩ := val_add (val_mul hp ha hd) (val_mul hp hc hb) ht
  rw [← e3, e1, e2]
  constructor
  · omega
  · intro hne
    have := q2 (by omega)
    omega
theorem vq_one : vq p 1 = 0 := by
  have h := vq_mul hp (x := 1) (y := 1) (by decide) (by decide)
  rw [Rat.mul_one] at h
  omega
theorem vq_neg (hx : x ≠ 0) : vq p (-x) = vq p x := by
  have h1 := vq_mul hp (x := -1) (y := -1) (by decide) (by decide)
  rw [show (-1 : Rat) * -1 = 1 by grind, vq_one hp] at h1
  have h2 := vq_mul hp (x := -1) (y := x) (by decide) hx
  rw [show (-1 : Rat) * x = -x by grind] at h2
  omega
theorem vq_div (hx : x ≠ 0) (hy : y ≠ 0) : vq p (x / y) = vq p x - vq p y := by
  have h0 : x / y ≠ 0 := by grind
  have h := vq_mul hp h0 hy
  rw [Rat.div_mul_cancel hy] at h
  omega
theorem vq_small {n : Nat} (hx : x ≠ 0) (h : Sz n x) : (vq p x).natAbs < n := by
  obtain ⟨i, j, hi, hj, e⟩ := vq_pw hp hx
  have h1 := val_small (primes_ok p hp).1 (num_ne hx) hi h.bd.1
  have h2 := val_small (primes_ok p hp).1 (den_neI x) hj h.bd.2
  omega
theorem power_q {S : Sto} {P : PD} {W : FW} (h0 : x = 0 → P .non S) (h1 : x ≠ 0 → P (.int (vq p x)) S) : c_power_in [dQ x, .int p] S P W := by
  refine ⟨⟨_, rfl⟩, fun z => ?_, fun q e hq => ?_⟩
  · rw [show primeD (.int p) = true from decide_eq_true hp] at z
    cases z
  · cases e
    refine ⟨fun z => h0 (Rat.num_eq_zero.mp z), fun z => ⟨den_neI x, fun n hn => ?_⟩⟩
    have hx : x ≠ 0 := fun e => z (Rat.num_eq_zero.mpr e)
    have : n = vq p x := pw_cross hp hn (vq_pw hp hx) rfl
    rw [this]
    exact h1 hx
theorem law_power_q {S : Sto} {P : PD} {W : FW} (hx : x ≠ 0) (h1 : P (.int (vq p x)) S) : c_law_power [.int x.num, .int x.den, .int p] S P W := by
  refine ⟨num_ne hx, den_neI x, ⟨(primes_ok p hp).1, (primes_ok p hp).2.1⟩, fun n hn => ?_⟩
  have : n = vq p x := pw_cross hp hn (vq_pw hp hx) rfl
  rw [this]
  exact h1
end
/-- the colour of two numbers -/
noncomputable def col (p : Int) (x y : Rat) : Int :=
  if (x = 0 ∨ 0 < vq p x) ∧ (y = 0 ∨ 0 < vq p y) then 0 else if x ≠ 0 ∧ (y = 0 ∨ vq p x ≤ vq p y) then 1 else 2
theorem prime_kd {S : Sto} {d : D} (h : primeD d = true) : ∃ p, d = .int p ∧ p ∈ primesL := by
  cases d with
  | int p => exact ⟨p, rfl, of_decide_eq_true h⟩
  | _ => cases h
def c_colour_of : Con := fun ds S P W => match ds with
  | [u, v, d] => ∃ x y, u = dQ x ∧ v = dQ y ∧ Kd S d ∧ (primeD d = false → W 2 none S) ∧ ∀ p, d = .int p → p ∈ primesL → P (.int (col p x y)) S
  | _ => False
theorem m_colour_of {Γ : Gam} (h26 : Γ.fn 26 = c_look_prime) (a26 : Γ.ar 26 = 1) (h28 : Γ.fn 28 = c_power_in) (a28 : Γ.ar 28 = 2) : Meets Γ 5 z_colour_of c_colour_of := by
  intro ds S P W h
  unfold c_colour_of at h
  split at h
  · rename_i u v d
    obtain ⟨x, y, rfl, rfl, hk, hw, h⟩ := h
    change wZs Γ z_colour_of (retE P) [some (dQ x), some (dQ y), some d, none, none] S (errW W)
    dsimp only [z_colour_of]
    dsimp only [wZs, wZ, wE, wEs, wT, wTs, wI, lk, List.set, aTru, partS, List.take, List.drop]
    try simp only [h26, a26, h28, a28, q_add, q_sub, q_mul, q_div, q_mod, q_pow, q_lt, q_le, q_gt, q_ge, q_eq, q_ne, q_is, q_isnt, q_isntB, q_isB, q_tb, q_ti, q_tn, q_tt, q_ixQ0, q_ixQ1, q_ixS0, q_ixS1, q_eqQ, q_neQ, q_eqSp, q_neSp, q_eqB, q_neB, q_ixT, q_lenT, q_abs, q_intI, q_intB, q_min2, q_max2, at0, at1, at2, List.length_cons, List.length_nil, sizeLine_eq, Nat.reduceAdd, Nat.reduceLeDiff, true_and, Bool.not_true, Bool.not_false, Bool.false_eq_true, if_false, reduceIte, lk, List.set, whole_int, whole_bl, whole_tup, whole_non]
    refine ⟨hk, fun hd => ?_, fun hd => err_now (hw hd)⟩
    obtain ⟨p, rfl, hp⟩ := prime_kd (S := S) hd
    have h := h p rfl hp
    unfold col at h
    refine power_q hp (fun hx => ?_) fun hx => ?_
    · refine power_q hp (fun hy => ?_) fun hy => ?_
      · try simp only [isNo, q_add, q_sub, q_mul, q_div, q_mod, q_pow, q_lt, q_le, q_gt, q_ge, q_eq, q_ne, q_is, q_isnt, q_isntB, q_isB, q_tb, q_ti, q_tn, q_tt, q_ixQ0, q_ixQ1, q_ixS0, q_ixS1, q_eqQ, q_neQ, q_eqSp, q_neSp, q_eqB, q_neB, q_ixT, q_lenT, q_abs, q_intI, q_intB, q_min2, q_max2, at0, at1, at2, List.length_cons, List.length_nil, sizeLine_eq, Nat.reduceAdd, Nat.reduceLeDiff, true_and, Bool.not_true, Bool.not_false, Bool.false_eq_true, if_false, reduceIte, lk, List.set, whole_int, whole_bl, whole_tup, whole_non]
        rw [if_pos ⟨.inl hx, .inl hy⟩] at h
        exact ret_now h
      · try simp only [isNo, q_add, q_sub, q_mul, q_div, q_mod, q_pow, q_lt, q_le, q_gt, q_ge, q_eq, q_ne, q_is, q_isnt, q_isntB, q_isB, q_tb, q_ti, q_tn, q_tt, q_ixQ0, q_ixQ1, q_ixS0, q_ixS1, q_eqQ, q_neQ, q_eqSp, q_neSp, q_eqB, q_neB, q_ixT, q_lenT, q_abs, q_intI, q_intB, q_min2, q_max2, at0, at1, at2, List.length_cons, List.length_nil, sizeLine_eq, Nat.reduceAdd, Nat.reduceLeDiff, true_and, Bool.not_true, Bool.not_false, Bool.false_eq_true, if_false, reduceIte, lk, List.set, whole_int, whole_bl, whole_tup, whole_non]
        by_cases hv : 0 < vq p y
        · simp only [hv, decide_true, q_tb, reduceIte]
          rw [if_pos ⟨.inl hx, .inr hv⟩] at h
          exact ret_now h
        · simp only [hv, decide_false, q_tb, Bool.false_eq_true, if_false]
          rw [if_neg (fun z => z.2.elim hy hv), if_neg (fun z => z.1 hx)] at h
          exact ret_now h
    · refine power_q hp (fun hy => ?_) fun hy => ?_
      · try simp only [isNo, q_add, q_sub, q_mul, q_div, q_mod, q_pow, q_lt, q_le, q_gt, q_ge, q_eq, q_ne, q_is, q_isnt, q_isntB, q_isB, q_tb, q_ti, q_tn, q_tt, q_ixQ0, q_ixQ1, q_ixS0, q_ixS1, q_eqQ, q_neQ, q_eqSp, q_neSp, q_eqB, q_neB, q_ixT, q_lenT, q_abs, q_intI, q_intB, q_min2, q_max2, at0, at1, at2, List.length_cons, List.length_nil, sizeLine_eq, Nat.reduceAdd, Nat.reduceLeDiff, true_and, Bool.not_true, Bool.not_false, Bool.false_eq_true, if_false, reduceIte, lk, List.set, whole_int, whole_bl, whole_tup, whole_non]
        by_cases hv : 0 < vq p x
        · simp only [hv, decide_true, q_tb, reduceIte]
          rw [if_pos ⟨.inr hv, .inl hy⟩] at h
          exact ret_now h
        · simp only [hv, decide_false, q_tb, Bool.false_eq_true, if_false]
          rw [if_neg (fun z => z.1.elim hx hv), if_pos ⟨hx, .inl hy⟩] at h
          exact ret_now h
      · try simp only [isNo, q_add, q_sub, q_mul, q_div, q_mod, q_pow, q_lt, q_le, q_gt, q_ge, q_eq, q_ne, q_is, q_isnt, q_isntB, q_isB, q_tb, q_ti, q_tn, q_tt, q_ixQ0, q_ixQ1, q_ixS0, q_ixS1, q_eqQ, q_neQ, q_eqSp, q_neSp, q_eqB, q_neB, q_ixT, q_lenT, q_abs, q_intI, q_intB, q_min2, q_max2, at0, at1, at2, List.length_cons, List.length_nil, sizeLine_eq, Nat.reduceAdd, Nat.reduceLeDiff, true_and, Bool.not_true, Bool.not_false, Bool.false_eq_true, if_false, reduceIte, lk, List.set, whole_int, whole_bl, whole_tup, whole_non]
        by_cases hv : 0 < vq p x <;> by_cases hu : 0 < vq p y <;> by_cases hw : vq p x ≤ vq p y <;> simp only [hx, hy, hv, hu, hw, decide_true, decide_false, false_or, or_false, and_true, true_and, and_false, false_and, or_true, reduceIte, q_tb, ne_eq, not_false_eq_true, Bool.false_eq_true, if_false, if_true] at h ⊢ <;> exact ret_now h
  · exact h.elim
end Sd
namespace Sd
open PySem
/-! ### frames -/
def d3 (a b c : Spot) : D := .tup [dS a, dS b, dS c]
def c_look_frame : Con := fun ds S P W => match ds with
  | [f] => ∃ a b c n, f = d3 a b c ∧ n ≤ 100000 ∧ SzS n a ∧ SzS n b ∧ SzS n c ∧ (tw a b c = 0 → W 6 none S) ∧ (tw a b c ≠ 0 → P .non S)
  | _ => False
theorem m_look_frame {Γ : Gam} (h46 : Γ.fn 46 = c_turn_of) (a46 : Γ.ar 46 = 3) : Meets Γ 1 z_look_frame c_look_frame := by
  intro ds S P W h
  unfold c_look_frame at h
  split at h
  · obtain ⟨a, b, c, n, rfl, hn, ha, hb, hc, hw, hp⟩ := h
    change wZs Γ z_look_frame (retE P) [some (d3 a b c)] S (errW W)
    dsimp only [z_look_frame]
    dsimp only [wZs, wZ, wE, wEs, wT, wTs, wI, lk, List.set, aTru, partS, List.take, List.drop]
    try simp only [d3, h46, a46, q_add, q_sub, q_mul, q_div, q_mod, q_pow, q_lt, q_le, q_gt, q_ge, q_eq, q_ne, q_is, q_isnt, q_isntB, q_isB, q_tb, q_ti, q_tn, q_tt, q_ixQ0, q_ixQ1, q_ixS0, q_ixS1, q_eqQ, q_neQ, q_eqSp, q_neSp, q_eqB, q_neB, q_ixT, q_lenT, q_abs, q_intI, q_intB, q_min2, q_max2, at0, at1, at2, List.length_cons, List.length_nil, sizeLine_eq, Nat.reduceAdd, Nat.reduceLeDiff, true_and, Bool.not_true, Bool.not_false, Bool.false_eq_true, if_false, reduceIte, lk, List.set, whole_int, whole_bl, whole_tup, whole_non]
    refine ⟨a, b, c, n, rfl, rfl, rfl, hn, ha, hb, hc, ?_⟩
    try simp only [true_and, q_add, q_sub, q_mul, q_div, q_mod, q_pow, q_lt, q_le, q_gt, q_ge, q_eq, q_ne, q_is, q_isnt, q_isntB, q_isB, q_tb, q_ti, q_tn, q_tt, q_ixQ0, q_ixQ1, q_ixS0, q_ixS1, q_eqQ, q_neQ, q_eqSp, q_neSp, q_eqB, q_neB, q_ixT, q_lenT, q_abs, q_intI, q_intB, q_min2, q_max2, at0, at1, at2, List.length_cons, List.length_nil, sizeLine_eq, Nat.reduceAdd, Nat.reduceLeDiff, true_and, Bool.not_true, Bool.not_false, Bool.false_eq_true, if_false, reduceIte, lk, List.set, whole_int, whole_bl, whole_tup, whole_non]
    exact if_b (fun h => err_now (hw (sgn_zero.mp h))) fun h => ⟨S, Sto.le.refl S, hp fun z => h (sgn_zero.mpr z)⟩
  · exact h.elim
def c_in_frame : Con := fun ds S P W => match ds with
  | [f, x] => ∃ a b c s, f = d3 a b c ∧ x = dS s ∧ SzS 490 a ∧ SzS 490 b ∧ SzS 490 c ∧ SzS 490 s ∧ (tw a b c = 0 → W 6 none S) ∧ (tw a b c ≠ 0 → P (.tup [dQ (tw a s c / tw a b c), dQ (tw a b s / tw a b c)]) S)
  | _ => False
theorem m_in_frame {Γ : Gam} (h57 : Γ.fn 57 = c_look_frame) (a57 : Γ.ar 57 = 1) (h45 : Γ.fn 45 = c_twice_of) (a45 : Γ.ar 45 = 3) (h11 : Γ.fn 11 = c_quotient) (a11 : Γ.ar 11 = 2) : Meets Γ 3 z_in_frame c_in_frame := by
  intro ds S P W h
  unfold c_in_frame at h
  split at h
  · obtain ⟨a, b, c, s, rfl, rfl, ha, hb, hc, hs, hw, hp⟩ := h
    change wZs Γ z_in_frame (retE P) [some (d3 a b c), some (dS s), none] S (errW W)
    dsimp only [z_in_frame]
    dsimp only [wZs, wZ, wE, wEs, wT, wTs, wI, lk, List.set, aTru, partS, List.take, List.drop]
    try simp only [h57, a57, h45, a45, h11, a11, q_add, q_sub, q_mul, q_div, q_mod, q_pow, q_lt, q_le, q_gt, q_ge, q_eq, q_ne, q_is, q_isnt, q_isntB, q_isB, q_tb, q_ti, q_tn, q_tt, q_ixQ0, q_ixQ1, q_ixS0, q_ixS1, q_eqQ, q_neQ, q_eqSp, q_neSp, q_eqB, q_neB, q_ixT, q_lenT, q_abs, q_intI, q_intB, q_min2, q_max2, at0, at1, at2, List.length_cons, List.length_nil, sizeLine_eq, Nat.reduceAdd, Nat.reduceLeDiff, true_and, Bool.not_true, Bool.not_false, Bool.false_eq_true, if_false, reduceIte, lk, List.set, whole_int, whole_bl, whole_tup, whole_non]
    have up' : ∀ {z : Spot}, SzS 490 z → SzS 1100 z := fun h => h.mono (by decide)
    have q : ∀ {x y z : Spot}, SzS 490 x → SzS 490 y → SzS 490 z → Sz 4000 (tw x y z) := fun h1 h2 h3 => (h1.tw h2 h3).mono (by decide)
    refine ⟨a, b, c, 490, rfl, by decide, ha, hb, hc, fun z => err_now (hw z), fun hne => ?_⟩
    try simp only [d3, q_add, q_sub, q_mul, q_div, q_mod, q_pow, q_lt, q_le, q_gt, q_ge, q_eq, q_ne, q_is, q_isnt, q_isntB, q_isB, q_tb, q_ti, q_tn, q_tt, q_ixQ0, q_ixQ1, q_ixS0, q_ixS1, q_eqQ, q_neQ, q_eqSp, q_neSp, q_eqB, q_neB, q_ixT, q_lenT, q_abs, q_intI, q_intB, q_min2, q_max2, at0, at1, at2, List.length_cons, List.length_nil, sizeLine_eq, Nat.reduceAdd, Nat.reduceLeDiff, true_and, Bool.not_true, Bool.not_false, Bool.false_eq_true, if_false, reduceIte, lk, List.set, whole_int, whole_bl, whole_tup, whole_non]
    refine ⟨a, b, c, rfl, rfl, rfl, up' ha, up' hb, up' hc, a, s, c, rfl, rfl, rfl, up' ha, up' hs, up' hc, ?_⟩
    refine quotient_q (q ha hs hc) (q ha hb hc) (fun z => (hne z).elim) fun _ => ?_
    refine ⟨a, b, s, rfl, rfl, rfl, up' ha, up' hb, up' hs, quotient_q (q ha hb hs) (q ha hb hc) (fun z => (hne z).elim) fun _ => ret_now (hp hne)⟩
  · exact h.elim
noncomputable def colF (p : Int) (a b c s : Spot) : Int := col p (tw a s c / tw a b c) (tw a b s / tw a b c)
def c_colour_by : Con := fun ds S P W => match ds with
  | [f, d, x] => ∃ a b c s, f = d3 a b c ∧ x = dS s ∧ SzS 490 a ∧ SzS 490 b ∧ SzS 490 c ∧ SzS 490 s ∧ Kd S d ∧ (tw a b c = 0 → W 6 none S) ∧ (tw a b c ≠ 0 → primeD d = false → W 2 none S) ∧ ∀ p, tw a b c ≠ 0 → d = .int p → p ∈ primesL → P (.int (colF p a b c s)) S
  | _ => False
theorem m_colour_by {Γ : Gam} (h58 : Γ.fn 58 = c_in_frame) (a58 : Γ.ar 58 = 2) (h54 : Γ.fn 54 = c_colour_of) (a54 : Γ.ar 54 = 3) : Meets Γ 5 z_colour_by c_colour_by := by
  intro ds S P W h
  unfold c_colour_by at h
  split at h
  · rename_i f d x
    obtain ⟨a, b, c, s, rfl, rfl, ha, hb, hc, hs, hk, hw, hw2, hp⟩ := h
    change wZs Γ z_colour_by (retE P) [some (d3 a b c), some d, some (dS s), none, none] S (errW W)
    dsimp only [z_colour_by]
    dsimp only [wZs, wZ, wE, wEs, wT, wTs, wI, lk, List.set, aTru, partS, List.take, List.drop]
    try simp only [h58, a58, h54, a54, q_add, q_sub, q_mul, q_div, q_mod, q_pow, q_lt, q_le, q_gt, q_ge, q_eq, q_ne, q_is, q_isnt, q_isntB, q_isB, q_tb, q_ti, q_tn, q_tt, q_ixQ0, q_ixQ1, q_ixS0, q_ixS1, q_eqQ, q_neQ, q_eqSp, q_neSp, q_eqB, q_neB, q_ixT, q_lenT, q_abs, q_intI, q_intB, q_min2, q_max2, at0, at1, at2, List.length_cons, List.length_nil, sizeLine_eq, Nat.reduceAdd, Nat.reduceLeDiff, true_and, Bool.not_true, Bool.not_false, Bool.false_eq_true, if_false, reduceIte, lk, List.set, whole_int, whole_bl, whole_tup, whole_non]
    refine ⟨a, b, c, s, rfl, rfl, ha, hb, hc, hs, fun z => err_now (hw z), fun hne => ?_⟩
    try simp only [true_and, q_add, q_sub, q_mul, q_div, q_mod, q_pow, q_lt, q_le, q_gt, q_ge, q_eq, q_ne, q_is, q_isnt, q_isntB, q_isB, q_tb, q_ti, q_tn, q_tt, q_ixQ0, q_ixQ1, q_ixS0, q_ixS1, q_eqQ, q_neQ, q_eqSp, q_neSp, q_eqB, q_neB, q_ixT, q_lenT, q_abs, q_intI, q_intB, q_min2, q_max2, at0, at1, at2, List.length_cons, List.length_nil, sizeLine_eq, Nat.reduceAdd, Nat.reduceLeDiff, true_and, Bool.not_true, Bool.not_false, Bool.false_eq_true, if_false, reduceIte, lk, List.set, whole_int, whole_bl, whole_tup, whole_non]
    exact ⟨_, _, rfl, rfl, hk, fun z => err_now (hw2 hne z), fun p ep hp' => ret_now (hp p hne ep hp')⟩
  · exact h.elim
/-- the law's own numbers in a frame -/
def c_law_in : Con := fun ds S P W => match ds with
  | [f, x] => ∃ a b c s, f = d3 a b c ∧ x = dS s ∧ SzS 490 a ∧ SzS 490 b ∧ SzS 490 c ∧ SzS 490 s ∧ tw a b c ≠ 0 ∧ P (.tup [dQ (tw a s c / tw a b c), dQ (tw a b s / tw a b c)]) S
  | _ => False
theorem twp_ne {a b c : Spot} {n : Nat} {t u : Int} (h : TwP a b c n t u) (hne : tw a b c ≠ 0) : t ≠ 0 := by
  intro z
  obtain ⟨h1, h2, _⟩ := h
  rw [z] at h2
  have : tw a b c * (u : Rat) = 0 := h2.symm
  rcases Rat.mul_eq_zero.mp this with e | e
  · exact hne e
  · exact cast_ne (by omega) e
theorem twp_quo {a b c a' b' c' : Spot} {n m : Nat} {t u t' u' : Int} (h : TwP a b c n t u) (h' : TwP a' b' c' m t' u') (hne : tw a' b' c' ≠ 0) : ((t * u' : Int) : Rat) / ((u * t' : Int) : Rat) = tw a b c / tw a' b' c' := by
  have n1 := cast_ne (b := u) (by have := h.1; omega)
  have n2 := cast_ne (b := u') (by have := h'.1; omega)
  rw [Rat.intCast_mul, Rat.intCast_mul, h.2.1, h'.2.1]
  generalize tw a b c = x
  generalize tw a' b' c' = y at *
  grind
theorem m_law_in {Γ : Gam} (h42 : Γ.fn 42 = c_law_twice) (a42 : Γ.ar 42 = 3) (h4 : Γ.fn 4 = c_law_lowest) (a4 : Γ.ar 4 = 2) : Meets Γ 8 z_law_in c_law_in := by
  intro ds S P W h
  unfold c_law_in at h
  split at h
  · obtain ⟨a, b, c, s, rfl, rfl, ha, hb, hc, hs, hne, hp⟩ := h
    change wZs Γ z_law_in (retE P) [some (d3 a b c), some (dS s), none, none, none, none, none, none] S (errW W)
    dsimp only [z_law_in]
    dsimp only [wZs, wZ, wE, wEs, wT, wTs, wI, lk, List.set, aTru, partS, List.take, List.drop]
    try simp only [d3, h42, a42, h4, a4, q_add, q_sub, q_mul, q_div, q_mod, q_pow, q_lt, q_le, q_gt, q_ge, q_eq, q_ne, q_is, q_isnt, q_isntB, q_isB, q_tb, q_ti, q_tn, q_tt, q_ixQ0, q_ixQ1, q_ixS0, q_ixS1, q_eqQ, q_neQ, q_eqSp, q_neSp, q_eqB, q_neB, q_ixT, q_lenT, q_abs, q_intI, q_intB, q_min2, q_max2, at0, at1, at2, List.length_cons, List.length_nil, sizeLine_eq, Nat.reduceAdd, Nat.reduceLeDiff, true_and, Bool.not_true, Bool.not_false, Bool.false_eq_true, if_false, reduceIte, lk, List.set, whole_int, whole_bl, whole_tup, whole_non]
    refine ⟨a, b, c, 490, rfl, rfl, rfl, by decide, ha, hb, hc, fun t u htu => ?_⟩
    try simp only [true_and, q_add, q_sub, q_mul, q_div, q_mod, q_pow, q_lt, q_le, q_gt, q_ge, q_eq, q_ne, q_is, q_isnt, q_isntB, q_isB, q_tb, q_ti, q_tn, q_tt, q_ixQ0, q_ixQ1, q_ixS0, q_ixS1, q_eqQ, q_neQ, q_eqSp, q_neSp, q_eqB, q_neB, q_ixT, q_lenT, q_abs, q_intI, q_intB, q_min2, q_max2, at0, at1, at2, List.length_cons, List.length_nil, sizeLine_eq, Nat.reduceAdd, Nat.reduceLeDiff, true_and, Bool.not_true, Bool.not_false, Bool.false_eq_true, if_false, reduceIte, lk, List.set, whole_int, whole_bl, whole_tup, whole_non]
    refine ⟨a, s, c, 490, rfl, rfl, rfl, by decide, ha, hs, hc, fun t1 u1 h1 => ?_⟩
    try simp only [true_and, q_add, q_sub, q_mul, q_div, q_mod, q_pow, q_lt, q_le, q_gt, q_ge, q_eq, q_ne, q_is, q_isnt, q_isntB, q_isB, q_tb, q_ti, q_tn, q_tt, q_ixQ0, q_ixQ1, q_ixS0, q_ixS1, q_eqQ, q_neQ, q_eqSp, q_neSp, q_eqB, q_neB, q_ixT, q_lenT, q_abs, q_intI, q_intB, q_min2, q_max2, at0, at1, at2, List.length_cons, List.length_nil, sizeLine_eq, Nat.reduceAdd, Nat.reduceLeDiff, true_and, Bool.not_true, Bool.not_false, Bool.false_eq_true, if_false, reduceIte, lk, List.set, whole_int, whole_bl, whole_tup, whole_non]
    refine ⟨a, b, s, 490, rfl, rfl, rfl, by decide, ha, hb, hs, fun t2 u2 h2 => ?_⟩
    try simp only [true_and, q_add, q_sub, q_mul, q_div, q_mod, q_pow, q_lt, q_le, q_gt, q_ge, q_eq, q_ne, q_is, q_isnt, q_isntB, q_isB, q_tb, q_ti, q_tn, q_tt, q_ixQ0, q_ixQ1, q_ixS0, q_ixS1, q_eqQ, q_neQ, q_eqSp, q_neSp, q_eqB, q_neB, q_ixT, q_lenT, q_abs, q_intI, q_intB, q_min2, q_max2, at0, at1, at2, List.length_cons, List.length_nil, sizeLine_eq, Nat.reduceAdd, Nat.reduceLeDiff, true_and, Bool.not_true, Bool.not_false, Bool.false_eq_true, if_false, reduceIte, lk, List.set, whole_int, whole_bl, whole_tup, whole_non]
    have tn := twp_ne htu hne
    have un1 := h1.1
    have un2 := h2.1
    refine ⟨h1.2.2.1.ok htu.2.2.2 (by decide), h1.2.2.2.ok htu.2.2.1 (by decide), lowest_q (Int.mul_ne_zero (by omega) tn) ((h1.2.2.2.mul htu.2.2.1).lt9 (by decide)) ?_⟩
    rw [twp_quo h1 htu hne]
    refine ⟨h2.2.2.1.ok htu.2.2.2 (by decide), h2.2.2.2.ok htu.2.2.1 (by decide), lowest_q (Int.mul_ne_zero (by omega) tn) ((h2.2.2.2.mul htu.2.2.1).lt9 (by decide)) ?_⟩
    rw [twp_quo h2 htu hne]
    exact ret_now hp
  · exact h.elim
/-- a frame drawn -/
def c_law_frame : Con := fun ds S P _ => match ds with
  | [.ref r] => ∃ n, Row S r n ∧ n < 2 ^ 45 ∧ ∀ a b c S', SzS 100 a → SzS 100 b → SzS 100 c → tw a b c ≠ 0 → Row S' r (n + 120) → Rowed S S' r → P (d3 a b c) S'
  | _ => False
theorem d3_dflt : D.tup [.tup [.tup [.int 0, .int 1], .tup [.int 0, .int 1]], .tup [.tup [.int 1, .int 1], .tup [.int 0, .int 1]], .tup [.tup [.int 0, .int 1], .tup [.int 1, .int 1]]] = d3 (0, 0) (1, 0) (0, 1) := rfl
theorem sz_small {n : Nat} {x : Rat} (h : x = 0 ∨ x = 1) (hn : 2 ≤ n) : Sz n x := by
  have h4 : 2 ^ 2 ≤ 2 ^ n := Nat.pow_le_pow_right (by decide) hn
  rcases h with rfl | rfl
  · exact ⟨by show 0 < _; omega, by show 1 < _; omega⟩
  · exact ⟨by show 1 < _; omega, by show 1 < _; omega⟩
theorem m_law_frame {Γ : Gam} (h38 : Γ.fn 38 = c_law_near) (a38 : Γ.ar 38 = 1) (h0 : Γ.fn 0 = c_law_take_2) (a0 : Γ.ar 0 = 2) (h32 : Γ.fn 32 = c_law_spot) (a32 : Γ.ar 32 = 1) (h50 : Γ.fn 50 = c_law_turn) (a50 : Γ.ar 50 = 3) : Meets Γ 3 z_law_frame c_law_frame := by
  intro ds S P W h
  unfold c_law_frame at h
  split at h
  · rename_i r
    obtain ⟨n, row, hn, h⟩ := h
    change wZs Γ z_law_frame (retE P) [some (.ref r), none, none] S (errW W)
    dsimp only [z_law_frame]
    dsimp only [wZs, wZ, wE, wEs, wT, wTs, wI, lk, List.set, aTru, partS, List.take, List.drop]
    try simp only [true_and, q_add, q_sub, q_mul, q_div, q_mod, q_pow, q_lt, q_le, q_gt, q_ge, q_eq, q_ne, q_is, q_isnt, q_isntB, q_isB, q_tb, q_ti, q_tn, q_tt, q_ixQ0, q_ixQ1, q_ixS0, q_ixS1, q_eqQ, q_neQ, q_eqSp, q_neSp, q_eqB, q_neB, q_ixT, q_lenT, q_abs, q_intI, q_intB, q_min2, q_max2, at0, at1, at2, List.length_cons, List.length_nil, sizeLine_eq, Nat.reduceAdd, Nat.reduceLeDiff, true_and, Bool.not_true, Bool.not_false, Bool.false_eq_true, if_false, reduceIte, lk, List.set, whole_int, whole_bl, whole_tup, whole_non]
    refine ⟨by decide, ?_⟩
    refine for_ind (src := .free) (fun rr ρ S' => ∃ x1 x2 m, ρ = [some (.ref r), x1, x2] ∧ Row S' r m ∧ m + 40 * rr.length ≤ n + 120 ∧ Rowed S S' r) (fun _ _ _ _ => trivial) ?_ ?_ ⟨none, none, n, rfl, row, by simp [rngItems], rowed_refl⟩
    · rintro ρ S' ⟨x1, x2, m, rfl, r1, hm, o1⟩
      rw [d3_dflt]
      refine ret_now (h _ _ _ S' ⟨sz_small (.inl rfl) (by decide), sz_small (.inl rfl) (by decide)⟩ ⟨sz_small (.inr rfl) (by decide), sz_small (.inl rfl) (by decide)⟩ ⟨sz_small (.inl rfl) (by decide), sz_small (.inr rfl) (by decide)⟩ ?_ (r1.mono (by simp at hm; omega)) o1)
      unfold tw
      grind
    · rintro F d rr ρ S' ⟨x1, x2, m, rfl, r1, hm, o1⟩ hF
      have hm' : m + 40 * ((rr.length + 1 : Nat) : Int) ≤ n + 120 := hm
      try simp only [h38, a38, h0, a0, h32, a32, q_add, q_sub, q_mul, q_div, q_mod, q_pow, q_lt, q_le, q_gt, q_ge, q_eq, q_ne, q_is, q_isnt, q_isntB, q_isB, q_tb, q_ti, q_tn, q_tt, q_ixQ0, q_ixQ1, q_ixS0, q_ixS1, q_eqQ, q_neQ, q_eqSp, q_neSp, q_eqB, q_neB, q_ixT, q_lenT, q_abs, q_intI, q_intB, q_min2, q_max2, at0, at1, at2, List.length_cons, List.length_nil, sizeLine_eq, Nat.reduceAdd, Nat.reduceLeDiff, true_and, Bool.not_true, Bool.not_false, Bool.false_eq_true, if_false, reduceIte, lk, List.set, whole_int, whole_bl, whole_tup, whole_non]
      refine ⟨m, r1, by omega, fun s S2 hs r2 o2 => ⟨m + 4, r2, by omega, fun t S3 ht r3 o3 => ⟨m + 4 + 4, r3, by omega, fun u S4 hu r4 o4 p np => ?_⟩⟩⟩
      have lp := up_ls (o := .lst true [dS s, dS t, dS u]) np
      have dp := r4.ne np
      refine take_row (r4.le lp) (by omega) (by decide) fun k S5 k0 k1 r5 o5 => ?_
      have ep : S5 p = some (.lst true [dS s, dS t, dS u]) := o5 _ _ dp up_same
      have o := o1.trans (o2.trans (o3.trans (o4.trans ((le_rowed lp).trans o5))))
      have fin : ∀ {q s t u S6}, S6 q = some (.lst true [dS s, dS t, dS u]) → SzS 100 s → SzS 100 t → SzS 100 u → Row S6 r (m + 40) → Rowed S S6 r → (if (!decide (sgn (tw s t u) = 0)) = true then biS .tuple [.ref q] S6 (retE P).rt else F [some (.ref r), some d, some (.ref q)] S6) := by
        intro q s t u S6 eq hs ht hu r6 o6
        refine if_nb (fun hz => ?_) fun hz => ?_
        · simp only [biS, q_seqL, eq]
          exact ret_now (h s t u S6 hs ht hu (fun z => hz (sgn_zero.mpr z)) (r6.mono (by omega)) o6)
        · exact hF _ _ ⟨_, _, m + 40, rfl, r6, by omega, o6⟩
      try simp only [true_and, q_add, q_sub, q_mul, q_div, q_mod, q_pow, q_lt, q_le, q_gt, q_ge, q_eq, q_ne, q_is, q_isnt, q_isntB, q_isB, q_tb, q_ti, q_tn, q_tt, q_ixQ0, q_ixQ1, q_ixS0, q_ixS1, q_eqQ, q_neQ, q_eqSp, q_neSp, q_eqB, q_neB, q_ixT, q_lenT, q_abs, q_intI, q_intB, q_min2, q_max2, at0, at1, at2, List.length_cons, List.length_nil, sizeLine_eq, Nat.reduceAdd, Nat.reduceLeDiff, true_and, Bool.not_true, Bool.not_false, Bool.false_eq_true, if_false, reduceIte, lk, List.set, whole_int, whole_bl, whole_tup, whole_non]
      refine if_b (fun hk => ?_) fun hk => ?_
      · refine ⟨m + 4 + 4 + 4 + 1, r5, by omega, fun s S6 hs r6 o6 => ⟨m + 21, r6.mono (by omega), by omega, fun t S7 ht r7 o7 => ⟨m + 29, r7.mono (by omega), by omega, fun u S8 hu r8 o8 q nq => ?_⟩⟩⟩
        have lq := up_ls (o := .lst true [dS s, dS t, dS u]) nq
        try simp only [q_ixL, up_same, h50, a50, q_add, q_sub, q_mul, q_div, q_mod, q_pow, q_lt, q_le, q_gt, q_ge, q_eq, q_ne, q_is, q_isnt, q_isntB, q_isB, q_tb, q_ti, q_tn, q_tt, q_ixQ0, q_ixQ1, q_ixS0, q_ixS1, q_eqQ, q_neQ, q_eqSp, q_neSp, q_eqB, q_neB, q_ixT, q_lenT, q_abs, q_intI, q_intB, q_min2, q_max2, at0, at1, at2, List.length_cons, List.length_nil, sizeLine_eq, Nat.reduceAdd, Nat.reduceLeDiff, true_and, Bool.not_true, Bool.not_false, Bool.false_eq_true, if_false, reduceIte, lk, List.set, whole_int, whole_bl, whole_tup, whole_non]
        refine ⟨s, t, u, 100, rfl, rfl, rfl, by decide, hs, ht, hu, ?_⟩
        try simp only [true_and, q_add, q_sub, q_mul, q_div, q_mod, q_pow, q_lt, q_le, q_gt, q_ge, q_eq, q_ne, q_is, q_isnt, q_isntB, q_isB, q_tb, q_ti, q_tn, q_tt, q_ixQ0, q_ixQ1, q_ixS0, q_ixS1, q_eqQ, q_neQ, q_eqSp, q_neSp, q_eqB, q_neB, q_ixT, q_lenT, q_abs, q_intI, q_intB, q_min2, q_max2, at0, at1, at2, List.length_cons, List.length_nil, sizeLine_eq, Nat.reduceAdd, Nat.reduceLeDiff, true_and, Bool.not_true, Bool.not_false, Bool.false_eq_true, if_false, reduceIte, lk, List.set, whole_int, whole_bl, whole_tup, whole_non]
        exact fin up_same hs ht hu ((r8.le lq).mono (by omega)) (o.trans (o6.trans (o7.trans (o8.new nq))))
      · try simp only [q_ixL, ep, h50, a50, q_add, q_sub, q_mul, q_div, q_mod, q_pow, q_lt, q_le, q_gt, q_ge, q_eq, q_ne, q_is, q_isnt, q_isntB, q_isB, q_tb, q_ti, q_tn, q_tt, q_ixQ0, q_ixQ1, q_ixS0, q_ixS1, q_eqQ, q_neQ, q_eqSp, q_neSp, q_eqB, q_neB, q_ixT, q_lenT, q_abs, q_intI, q_intB, q_min2, q_max2, at0, at1, at2, List.length_cons, List.length_nil, sizeLine_eq, Nat.reduceAdd, Nat.reduceLeDiff, true_and, Bool.not_true, Bool.not_false, Bool.false_eq_true, if_false, reduceIte, lk, List.set, whole_int, whole_bl, whole_tup, whole_non]
        have s6 : SzS 100 s := hs.mono (by decide)
        have t6 : SzS 100 t := ht.mono (by decide)
        have u6 : SzS 100 u := hu.mono (by decide)
        refine ⟨s, t, u, 100, rfl, rfl, rfl, by decide, s6, t6, u6, ?_⟩
        try simp only [true_and, q_add, q_sub, q_mul, q_div, q_mod, q_pow, q_lt, q_le, q_gt, q_ge, q_eq, q_ne, q_is, q_isnt, q_isntB, q_isB, q_tb, q_ti, q_tn, q_tt, q_ixQ0, q_ixQ1, q_ixS0, q_ixS1, q_eqQ, q_neQ, q_eqSp, q_neSp, q_eqB, q_neB, q_ixT, q_lenT, q_abs, q_intI, q_intB, q_min2, q_max2, at0, at1, at2, List.length_cons, List.length_nil, sizeLine_eq, Nat.reduceAdd, Nat.reduceLeDiff, true_and, Bool.not_true, Bool.not_false, Bool.false_eq_true, if_false, reduceIte, lk, List.set, whole_int, whole_bl, whole_tup, whole_non]
        exact fin ep s6 t6 u6 (r5.mono (by omega)) o
  · exact h.elim
end Sd
namespace Sd
open PySem
/-! ### the spot that weights tell -/
def wsm (f : Spot → Rat) (ps : List (Spot × Int)) : Rat := qsum (ps.map fun p => (p.2 : Rat) * f p.1)
def wm (f : Spot → Rat) (l : List Spot) (ws : List Int) : Rat := wsm f (l.zip ws) / (ws.sum : Int)
def mid (l : List Spot) (ws : List Int) : Spot := (wm (·.1) l ws, wm (·.2) l ws)
theorem zipD_map {l : List Spot} {ws : List Int} : zipD (l.map dS) (ws.map D.int) = (l.zip ws).map fun p => D.tup [dS p.1, .int p.2] := by
  unfold zipD
  rw [List.zip_map, List.map_map]
  rfl
def c_law_mid : Con := fun ds S P _ => match ds with
  | [.ref a, .ref b] => ∃ (w v : Bool) (l : List Spot) (ws : List Int) (n m : Nat), S a = some (.lst w (l.map dS)) ∧ S b = some (.lst v (ws.map D.int)) ∧ l.length ≤ 6 ∧ ws.length ≤ 6 ∧ n ≤ 1200 ∧ m ≤ 200 ∧ (∀ s ∈ l, SzS n s) ∧ (∀ i ∈ ws, Bd m i) ∧ ws.sum ≠ 0 ∧ P (dS (mid l ws)) S
  | _ => False
/-- a top over a bottom: the sum so far -/
structure Mi (f : Spot → Rat) (n m : Nat) (ps : List (Spot × Int)) (t b : Int) : Prop where
  eq : (t : Rat) = wsm f ps * (b : Rat)
  pos : 0 < b
  tb : Bd ((n + 1) * ps.length + m + 1) t
  bb : Bd (n * ps.length + 1) b
theorem mi_nil {f : Spot → Rat} {n m : Nat} : Mi f n m [] 0 1 := ⟨by show (0 : Rat) = 0 * _; rw [Rat.zero_mul], by decide, by unfold Bd; exact Nat.pow_pos (by decide), by unfold Bd; exact Nat.one_lt_two_pow (by simp)⟩
theorem mi_snoc {f : Spot → Rat} {n m : Nat} {ps : List (Spot × Int)} {t b : Int} {s : Spot} {w : Int} (h : Mi f n m ps t b) (hs : Sz n (f s)) (hw : Bd m w) : Mi f n m (ps ++ [(s, w)]) (t * (f s).den + w * (f s).num * b) (b * (f s).den) := by
  have s1 := hs.bd
  refine ⟨?_, ?_, ?_, ?_⟩
  · have h1 := rat_eq (f s); have h2 := den_ne (f s); have h3 := h.eq
    have e : wsm f (ps ++ [(s, w)]) = wsm f ps + (w : Rat) * f s := by
      unfold wsm
      rw [List.map_append, qsum_app]
      simp only [List.map, qsum, Rat.add_zero]
    rw [e, Rat.intCast_add, Rat.intCast_mul, Rat.intCast_mul, Rat.intCast_mul, Rat.intCast_mul, h3]
    grind
  · have := (f s).den_nz
    exact Int.mul_pos h.pos (by omega)
  · have x1 := h.tb.mul s1.2
    have x2 := (hw.mul s1.1).mul h.bb
    rw [List.length_append, List.length_singleton]
    have e1 : (n + 1) * (ps.length + 1) = (n + 1) * ps.length + (n + 1) := by rw [Nat.mul_succ]
    have e2 : (n + 1) * ps.length = n * ps.length + ps.length := by rw [Nat.succ_mul]
    have y1 : Bd ((n + 1) * ps.length + m + 1 + n) (t * (f s).den) := x1
    have y2 : Bd ((n + 1) * ps.length + m + 1 + n) (w * (f s).num * b) := x2.mono (by omega)
    exact (y1.add y2).mono (by omega)
  · rw [List.length_append, List.length_singleton]
    exact (h.bb.mul s1.2).mono (by rw [Nat.mul_succ]; omega)
theorem Mi.dv {f : Spot → Rat} {n m : Nat} {ps : List (Spot × Int)} {t b c : Int} (h : Mi f n m ps t b) (hc : c ≠ 0) : (t : Rat) / ((b * c : Int) : Rat) = wsm f ps / (c : Rat) := by
  have h1 := h.eq
  have h2 := cast_ne (b := b) (by have := h.pos; omega)
  have h3 := cast_ne hc
  rw [Rat.intCast_mul, h1]
  grind
theorem sum_bd {m : Nat} : ∀ {ws : List Int}, ws.length ≤ 6 → (∀ i ∈ ws, Bd m i) → Bd (m + 3) ws.sum := by
  have key : ∀ {ws : List Int}, (∀ i ∈ ws, Bd m i) → ws.sum.natAbs ≤ ws.length * 2 ^ m := by
    intro ws
    induction ws with
    | nil => intro _; simp
    | cons x ws ih =>
      intro h
      have h1 : x.natAbs < 2 ^ m := h x (by simp)
      have h2 := ih fun i hi => h i (by simp [hi])
      rw [List.sum_cons, List.length_cons, Nat.succ_mul]
      have := Int.natAbs_add_le x ws.sum
      omega
  intro ws hl h
  have h1 := key h
  unfold Bd
  have h2 : ws.length * 2 ^ m ≤ 6 * 2 ^ m := Nat.mul_le_mul_right _ hl
  have h3 : 2 ^ (m + 3) = 8 * 2 ^ m := by rw [Nat.pow_add]; omega
  have h4 : 0 < 2 ^ m := Nat.pow_pos (by decide)
  omega
theorem m_law_mid {Γ : Gam} (h4 : Γ.fn 4 = c_law_lowest) (a4 : Γ.ar 4 = 2) : Meets Γ 10 z_law_mid c_law_mid := by
  intro ds S P W h
  unfold c_law_mid at h
  split at h
  · rename_i a b
    obtain ⟨w, v, l, ws, n, m, ea, eb, hl, hw, hn, hm, zs, zw, hsum, hp⟩ := h
    have bs := sum_bd hw zw
    have zl : (l.zip ws).length ≤ 6 := by rw [List.length_zip]; omega
    change wZs Γ z_law_mid (retE P) [some (.ref a), some (.ref b), none, none, none, none, none, none, none, none] S (errW W)
    refine cut 1 (fun ρ S' => ∃ r, S r = none ∧ ρ = [some (.ref a), some (.ref b), some (.ref r), none, none, none, none, none, none, none] ∧ S' = S.up r (.lst true [])) (fun G hG => ?_) ?_
    · dsimp only [z_law_mid]
      dsimp only [wZs, wZ, wE, wEs, wT, wTs, wI, lk, List.set, aTru, partS, List.take, List.drop]
      try simp only [true_and, q_add, q_sub, q_mul, q_div, q_mod, q_pow, q_lt, q_le, q_gt, q_ge, q_eq, q_ne, q_is, q_isnt, q_isntB, q_isB, q_tb, q_ti, q_tn, q_tt, q_ixQ0, q_ixQ1, q_ixS0, q_ixS1, q_eqQ, q_neQ, q_eqSp, q_neSp, q_eqB, q_neB, q_ixT, q_lenT, q_abs, q_intI, q_intB, q_min2, q_max2, at0, at1, at2, List.length_cons, List.length_nil, sizeLine_eq, Nat.reduceAdd, Nat.reduceLeDiff, true_and, Bool.not_true, Bool.not_false, Bool.false_eq_true, if_false, reduceIte, lk, List.set, whole_int, whole_bl, whole_tup, whole_non]
      exact fun r nr => hG _ _ ⟨r, nr, rfl, rfl⟩
    rintro ρ S0 ⟨r, nr, rfl, rfl⟩
    have dra : r ≠ a := fun z => by rw [z, ea] at nr; cases nr
    have drb : r ≠ b := fun z => by rw [z, eb] at nr; cases nr
    dsimp only [z_law_mid, List.drop]
    refine cut 1 (fun ρ S' => ∃ x3 x4 x5 x6 x7 x8 x9, ρ = [some (.ref a), some (.ref b), some (.ref r), x3, x4, x5, x6, x7, x8, x9] ∧ S' = S.up r (.lst true [dQ (wm (·.1) l ws), dQ (wm (·.2) l ws)])) (fun G hG => ?_) ?_
    · dsimp only [List.take]
      rw [wZs_one, wZ_for, wI_r1]
      refine ⟨by decide, ?_⟩
      refine for_ind (src := .free) (fun rr ρ S' => ∃ (fnd : List D) (x3 x4 x5 x6 x7 x8 x9 : Option D), ρ = [some (.ref a), some (.ref b), some (.ref r), x3, x4, x5, x6, x7, x8, x9] ∧ S' = S.up r (.lst true fnd) ∧ ((rr = [.int 0, .int 1] ∧ fnd = []) ∨ (rr = [.int 1] ∧ fnd = [dQ (wm (·.1) l ws)]) ∨ (rr = [] ∧ fnd = [dQ (wm (·.1) l ws), dQ (wm (·.2) l ws)]))) (fun _ _ _ _ => trivial) ?_ ?_ ⟨[], _, _, _, _, _, _, _, rfl, rfl, .inl ⟨rfl, rfl⟩⟩
      · rintro ρ S' ⟨fnd, x3, x4, x5, x6, x7, x8, x9, rfl, rfl, h | h | h⟩
        · cases h.1
        · cases h.1
        · rw [h.2]
          exact hG _ _ ⟨_, _, _, _, _, _, _, rfl, rfl⟩
      · rintro F d rr ρ S' ⟨fnd, x3, x4, x5, x6, x7, x8, x9, rfl, rfl, hh⟩ hF
        have hj : ∃ (j : Int) (f : Spot → Rat), d = .int j ∧ (∀ (s : Spot) (T : Sto) (P : PD), ixS (dS s) (.int j) T P = P (dQ (f s)) T) ∧ (∀ s, SzS n s → Sz n (f s)) ∧ fnd.length ≤ 1 ∧ ((rr = [.int 1] ∧ fnd ++ [dQ (wm f l ws)] = [dQ (wm (·.1) l ws)]) ∨ (rr = [] ∧ fnd ++ [dQ (wm f l ws)] = [dQ (wm (·.1) l ws), dQ (wm (·.2) l ws)])) := by
          rcases hh with ⟨h1, h2⟩ | ⟨h1, h2⟩ | ⟨h1, h2⟩
          · cases h1
            exact ⟨0, (·.1), rfl, fun _ _ _ => q_ixS0, fun s hs => hs.1, by rw [h2]; decide, .inl ⟨rfl, by rw [h2]; rfl⟩⟩
          · cases h1
            exact ⟨1, (·.2), rfl, fun _ _ _ => q_ixS1, fun s hs => hs.2, by rw [h2]; simp, .inr ⟨rfl, by rw [h2]; rfl⟩⟩
          · cases h1
        obtain ⟨j, f, rfl, hix, hzf, hfl, hnext⟩ := hj
        have eaS : (S.up r (.lst true fnd)) a = some (.lst w (l.map dS)) := by rw [up_oth dra]; exact ea
        have ebS : (S.up r (.lst true fnd)) b = some (.lst v (ws.map D.int)) := by rw [up_oth drb]; exact eb
        dsimp only [wT, List.set]
        refine cut 2 (fun ρ S' => ∃ t u x6 x7 x8 x9, ρ = [some (.ref a), some (.ref b), some (.ref r), some (.int j), some (.int t), some (.int u), x6, x7, x8, x9] ∧ S' = S.up r (.lst true fnd) ∧ Mi f n m (l.zip ws) t u) (fun G' hG' => ?_) ?_
        · dsimp only [wZs, wZ, wE, wEs, wT, wTs, wI, lk, List.set, aTru, partS, List.take, List.drop]
          try simp only [eaS, ebS, zipD_map, q_add, q_sub, q_mul, q_div, q_mod, q_pow, q_lt, q_le, q_gt, q_ge, q_eq, q_ne, q_is, q_isnt, q_isntB, q_isB, q_tb, q_ti, q_tn, q_tt, q_ixQ0, q_ixQ1, q_ixS0, q_ixS1, q_eqQ, q_neQ, q_eqSp, q_neSp, q_eqB, q_neB, q_ixT, q_lenT, q_abs, q_intI, q_intB, q_min2, q_max2, at0, at1, at2, List.length_cons, List.length_nil, sizeLine_eq, Nat.reduceAdd, Nat.reduceLeDiff, true_and, Bool.not_true, Bool.not_false, Bool.false_eq_true, if_false, reduceIte, lk, List.set, whole_int, whole_bl, whole_tup, whole_non]
          refine for_ind (src := .two a w (l.map dS) b v (ws.map D.int)) (fun rr ρ S' => ∃ (done rest : List (Spot × Int)) (t u : Int) (x6 x7 x8 x9 : Option D), l.zip ws = done ++ rest ∧ rr = rest.map (fun p => D.tup [dS p.1, .int p.2]) ∧ ρ = [some (.ref a), some (.ref b), some (.ref r), some (.int j), some (.int t), some (.int u), x6, x7, x8, x9] ∧ S' = S.up r (.lst true fnd) ∧ Mi f n m done t u) ?_ ?_ ?_ ⟨[], l.zip ws, 0, 1, _, _, _, _, rfl, rfl, rfl, rfl, mi_nil⟩
          · rintro rr ρ S' ⟨done, rest, t, u, y6, y7, y8, y9, hd, hr, rfl, rfl, hM⟩
            exact ⟨eaS, ebS⟩
          · rintro ρ S' ⟨done, rest, t, u, y6, y7, y8, y9, hd, hr, rfl, rfl, hM⟩
            have : rest = [] := by
              cases rest with
              | nil => rfl
              | cons _ _ => cases hr
            subst this
            rw [List.append_nil] at hd
            rw [← hd] at hM
            exact hG' _ _ ⟨t, u, _, _, _, _, rfl, rfl, hM⟩
          · rintro F2 d2 rr2 ρ S' ⟨done, rest, t, u, y6, y7, y8, y9, hd, hr, rfl, rfl, hM⟩ hF2
            cases rest with
            | nil => cases hr
            | cons p rest =>
              simp only [List.map_cons, List.cons.injEq] at hr
              obtain ⟨rfl, rfl⟩ := hr
              have hmem : p ∈ l.zip ws := by rw [hd]; simp
              have hp1 := hzf p.1 (zs p.1 (List.of_mem_zip hmem).1)
              have hp2 := zw p.2 (List.of_mem_zip hmem).2
              have hlen : done.length ≤ 6 := by
                have := congrArg List.length hd
                rw [List.length_append] at this
                omega
              have nk : n * done.length ≤ 1200 * 6 := Nat.mul_le_mul hn hlen
              have nk2 : (n + 1) * done.length ≤ 1201 * 6 := Nat.mul_le_mul (by omega) hlen
              try simp only [hix, dQ, q_add, q_sub, q_mul, q_div, q_mod, q_pow, q_lt, q_le, q_gt, q_ge, q_eq, q_ne, q_is, q_isnt, q_isntB, q_isB, q_tb, q_ti, q_tn, q_tt, q_ixQ0, q_ixQ1, q_ixS0, q_ixS1, q_eqQ, q_neQ, q_eqSp, q_neSp, q_eqB, q_neB, q_ixT, q_lenT, q_abs, q_intI, q_intB, q_min2, q_max2, at0, at1, at2, List.length_cons, List.length_nil, sizeLine_eq, Nat.reduceAdd, Nat.reduceLeDiff, true_and, Bool.not_true, Bool.not_false, Bool.false_eq_true, if_false, reduceIte, lk, List.set, whole_int, whole_bl, whole_tup, whole_non]
              refine ⟨hM.tb.ok hp1.bd.2 (by omega), hp2.ok hp1.bd.1 (by omega), (hp2.mul hp1.bd.1).ok hM.bb (by omega), hM.bb.ok hp1.bd.2 (by omega), hF2 _ _ ⟨done ++ [p], rest, _, _, _, _, _, _, by rw [hd]; simp, rfl, rfl, rfl, mi_snoc hM hp1 hp2⟩⟩
        rintro ρ S' ⟨t, u, y6, y7, y8, y9, rfl, rfl, hM⟩
        have nk : n * (l.zip ws).length ≤ 1200 * 6 := Nat.mul_le_mul hn zl
        dsimp only [wZs, wZ, wE, wEs, wT, wTs, wI, lk, List.set, aTru, partS, List.take, List.drop]
        try simp only [h4, a4, q_isL, up_same, q_add, q_sub, q_mul, q_div, q_mod, q_pow, q_lt, q_le, q_gt, q_ge, q_eq, q_ne, q_is, q_isnt, q_isntB, q_isB, q_tb, q_ti, q_tn, q_tt, q_ixQ0, q_ixQ1, q_ixS0, q_ixS1, q_eqQ, q_neQ, q_eqSp, q_neSp, q_eqB, q_neB, q_ixT, q_lenT, q_abs, q_intI, q_intB, q_min2, q_max2, at0, at1, at2, List.length_cons, List.length_nil, sizeLine_eq, Nat.reduceAdd, Nat.reduceLeDiff, true_and, Bool.not_true, Bool.not_false, Bool.false_eq_true, if_false, reduceIte, lk, List.set, whole_int, whole_bl, whole_tup, whole_non]
        rw [q_sum1 ebS]
        try simp only [true_and, q_add, q_sub, q_mul, q_div, q_mod, q_pow, q_lt, q_le, q_gt, q_ge, q_eq, q_ne, q_is, q_isnt, q_isntB, q_isB, q_tb, q_ti, q_tn, q_tt, q_ixQ0, q_ixQ1, q_ixS0, q_ixS1, q_eqQ, q_neQ, q_eqSp, q_neSp, q_eqB, q_neB, q_ixT, q_lenT, q_abs, q_intI, q_intB, q_min2, q_max2, at0, at1, at2, List.length_cons, List.length_nil, sizeLine_eq, Nat.reduceAdd, Nat.reduceLeDiff, true_and, Bool.not_true, Bool.not_false, Bool.false_eq_true, if_false, reduceIte, lk, List.set, whole_int, whole_bl, whole_tup, whole_non]
        refine ⟨hM.bb.ok bs (by omega), lowest_q (Int.mul_ne_zero (by have := hM.pos; omega) hsum) ((hM.bb.mul bs).lt9 (by omega)) ?_⟩
        rw [hM.dv hsum]
        try simp only [q_append, up_same, upup, q_add, q_sub, q_mul, q_div, q_mod, q_pow, q_lt, q_le, q_gt, q_ge, q_eq, q_ne, q_is, q_isnt, q_isntB, q_isB, q_tb, q_ti, q_tn, q_tt, q_ixQ0, q_ixQ1, q_ixS0, q_ixS1, q_eqQ, q_neQ, q_eqSp, q_neSp, q_eqB, q_neB, q_ixT, q_lenT, q_abs, q_intI, q_intB, q_min2, q_max2, at0, at1, at2, List.length_cons, List.length_nil, sizeLine_eq, Nat.reduceAdd, Nat.reduceLeDiff, true_and, Bool.not_true, Bool.not_false, Bool.false_eq_true, if_false, reduceIte, lk, List.set, whole_int, whole_bl, whole_tup, whole_non]
        refine ⟨by omega, hF _ _ ⟨fnd ++ [dQ (wm f l ws)], _, _, _, _, _, _, _, rfl, rfl, ?_⟩⟩
        rcases hnext with h | h
        · exact .inr (.inl h)
        · exact .inr (.inr h)
    rintro ρ S1 ⟨x3, x4, x5, x6, x7, x8, x9, rfl, rfl⟩
    dsimp only [wZs, wZ, wE, wEs, wT, wTs, wI, lk, List.set, aTru, partS, List.take, List.drop]
    try simp only [q_ixL, up_same, q_add, q_sub, q_mul, q_div, q_mod, q_pow, q_lt, q_le, q_gt, q_ge, q_eq, q_ne, q_is, q_isnt, q_isntB, q_isB, q_tb, q_ti, q_tn, q_tt, q_ixQ0, q_ixQ1, q_ixS0, q_ixS1, q_eqQ, q_neQ, q_eqSp, q_neSp, q_eqB, q_neB, q_ixT, q_lenT, q_abs, q_intI, q_intB, q_min2, q_max2, at0, at1, at2, List.length_cons, List.length_nil, sizeLine_eq, Nat.reduceAdd, Nat.reduceLeDiff, true_and, Bool.not_true, Bool.not_false, Bool.false_eq_true, if_false, reduceIte, lk, List.set, whole_int, whole_bl, whole_tup, whole_non]
    exact ret_le (up_ls nr) hp
  · exact h.elim
end Sd
namespace Sd
open PySem
theorem wm_sz {f : Spot → Rat} {n m k : Nat} {l : List Spot} {ws : List Int} (hm : 0 < m) (hl : l.length ≤ k) (hw : ws.length ≤ 6) (zs : ∀ s ∈ l, Sz n (f s)) (zw : ∀ i ∈ ws, Bd m i) : Sz (k * (m + n + 1) + m + 4) (wm f l ws) := by
  unfold wm wsm
  have h1 : ∀ x ∈ (l.zip ws).map (fun p => (p.2 : Rat) * f p.1), Sz (m + n) x := fun x hx => by
    obtain ⟨p, hp, rfl⟩ := List.mem_map.mp hx
    exact (sz_int (zw p.2 (List.of_mem_zip hp).2) hm).mul (zs p.1 (List.of_mem_zip hp).1)
  have h2 := Sz.sum h1
  have h3 : Sz (m + 3) ((ws.sum : Int) : Rat) := sz_int (sum_bd hw zw) (by omega)
  refine (h2.div h3 (by omega)).mono ?_
  rw [List.length_map, List.length_zip]
  have : min l.length ws.length * (m + n + 1) ≤ k * (m + n + 1) := Nat.mul_le_mul_right _ (by omega)
  omega
theorem mid_sz {n m k : Nat} {l : List Spot} {ws : List Int} (hm : 0 < m) (hl : l.length ≤ k) (hw : ws.length ≤ 6) (zs : ∀ s ∈ l, SzS n s) (zw : ∀ i ∈ ws, Bd m i) : SzS (k * (m + n + 1) + m + 4) (mid l ws) :=
  ⟨wm_sz hm hl hw (fun s hs => (zs s hs).1) zw, wm_sz hm hl hw (fun s hs => (zs s hs).2) zw⟩
theorem rowed_none {S S' : Sto} {a p : Addr} {n : Int} (h : Rowed S S' a) (r : Row S' a n) (e : S' p = none) : S p = none := by
  cases q : S p with
  | none => rfl
  | some o =>
    by_cases hp : p = a
    · obtain ⟨c, m, e', _⟩ := r
      rw [hp, e'] at e
      cases e
    · rw [h p o hp q] at e
      cases e
theorem ixn2 {n : Nat} : L2.ixN (n + 1 + 1 + 1) 2 = some 2 := by
  unfold L2.ixN
  rw [if_pos (by omega), if_pos (by omega)]
  rfl
/-- a place of three by a draw -/
theorem ixn3 {k : Int} (h0 : 0 ≤ k) (h1 : k < 3) : ∃ j, L2.ixN 3 k = some j ∧ j < 3 := by
  unfold L2.ixN
  rw [if_pos h0, if_pos (by omega)]
  exact ⟨_, rfl, by omega⟩
def c_law_frame_2 : Con := fun ds S P _ => match ds with
  | [.ref a] => ∃ n, Row S a n ∧ n < 2 ^ 45 ∧ ∀ p s t u S', SzS 100 s → SzS 100 t → SzS 100 u → S p = none → S' p = some (.lst true [dS s, dS t, dS u]) → Row S' a (n + 30) → Rowed S S' a → P (.ref p) S'
  | _ => False
theorem m_law_frame_2 {Γ : Gam} (h0 : Γ.fn 0 = c_law_take_2) (a0 : Γ.ar 0 = 2) (h32 : Γ.fn 32 = c_law_spot) (a32 : Γ.ar 32 = 1) (h38 : Γ.fn 38 = c_law_near) (a38 : Γ.ar 38 = 1) (h69 : Γ.fn 69 = c_law_mid) (a69 : Γ.ar 69 = 2) : Meets Γ 3 z_law_frame_2 c_law_frame_2 := by
  intro ds S P W h
  unfold c_law_frame_2 at h
  split at h
  · rename_i a
    obtain ⟨n, r, hn, h⟩ := h
    change wZs Γ z_law_frame_2 (retE P) [some (.ref a), none, none] S (errW W)
    dsimp only [z_law_frame_2]
    dsimp only [wZs, wZ, wE, wEs, wT, wTs, wI, lk, List.set, aTru, partS, List.take, List.drop]
    try simp only [h0, a0, h32, a32, h38, a38, q_add, q_sub, q_mul, q_div, q_mod, q_pow, q_lt, q_le, q_gt, q_ge, q_eq, q_ne, q_is, q_isnt, q_isntB, q_isB, q_tb, q_ti, q_tn, q_tt, q_ixQ0, q_ixQ1, q_ixS0, q_ixS1, q_eqQ, q_neQ, q_eqSp, q_neSp, q_eqB, q_neB, q_ixT, q_lenT, q_abs, q_intI, q_intB, q_min2, q_max2, at0, at1, at2, List.length_cons, List.length_nil, sizeLine_eq, Nat.reduceAdd, Nat.reduceLeDiff, true_and, Bool.not_true, Bool.not_false, Bool.false_eq_true, if_false, reduceIte, lk, List.set, whole_int, whole_bl, whole_tup, whole_non]
    refine take_row r (by omega) (by decide) fun k S1 k0 k1 r1 o1 => ?_
    try simp only [true_and, q_add, q_sub, q_mul, q_div, q_mod, q_pow, q_lt, q_le, q_gt, q_ge, q_eq, q_ne, q_is, q_isnt, q_isntB, q_isB, q_tb, q_ti, q_tn, q_tt, q_ixQ0, q_ixQ1, q_ixS0, q_ixS1, q_eqQ, q_neQ, q_eqSp, q_neSp, q_eqB, q_neB, q_ixT, q_lenT, q_abs, q_intI, q_intB, q_min2, q_max2, at0, at1, at2, List.length_cons, List.length_nil, sizeLine_eq, Nat.reduceAdd, Nat.reduceLeDiff, true_and, Bool.not_true, Bool.not_false, Bool.false_eq_true, if_false, reduceIte, lk, List.set, whole_int, whole_bl, whole_tup, whole_non]
    refine if_b (fun hk => ?_) fun hk => ?_
    · refine ⟨n + 1, r1, by omega, fun s S2 hs r2 o2 => ⟨n + 1 + 8, r2, by omega, fun t S3 ht r3 o3 => ⟨n + 1 + 8 + 8, r3, by omega, fun u S4 hu r4 o4 p np => ?_⟩⟩⟩
      have o := o1.trans (o2.trans (o3.trans o4))
      exact ret_now (h p s t u _ hs ht hu (rowed_none o r4 np) up_same ((r4.mono (by omega)).ne' np) (o.new np))
    · refine ⟨n + 1, r1, by omega, fun s S2 hs r2 o2 => ⟨n + 1 + 4, r2, by omega, fun t S3 ht r3 o3 => ⟨n + 1 + 4 + 4, r3, by omega, fun u S4 hu r4 o4 p np => ?_⟩⟩⟩
      have o := o1.trans (o2.trans (o3.trans o4))
      have nS := rowed_none o r4 np
      have dp := r4.ne np
      have oe := o.new (o := .lst true [dS s, dS t, dS u]) np
      have re := (r4.ne' (o := .lst true [dS s, dS t, dS u]) np).mono (m := n + 20) (by omega)
      have ep : (S4.up p (.lst true [dS s, dS t, dS u])) p = some (.lst true [dS s, dS t, dS u]) := up_same
      generalize S4.up p (.lst true [dS s, dS t, dS u]) = S5 at oe re ep
      have s6 : SzS 100 s := hs.mono (by decide)
      have t6 : SzS 100 t := ht.mono (by decide)
      have u6 : SzS 100 u := hu.mono (by decide)
      refine if_b (fun hk1 => ?_) fun hk1 => ?_
      · subst hk1
        try simp only [q_sl, ep, q_add, q_sub, q_mul, q_div, q_mod, q_pow, q_lt, q_le, q_gt, q_ge, q_eq, q_ne, q_is, q_isnt, q_isntB, q_isB, q_tb, q_ti, q_tn, q_tt, q_ixQ0, q_ixQ1, q_ixS0, q_ixS1, q_eqQ, q_neQ, q_eqSp, q_neSp, q_eqB, q_neB, q_ixT, q_lenT, q_abs, q_intI, q_intB, q_min2, q_max2, at0, at1, at2, List.length_cons, List.length_nil, sizeLine_eq, Nat.reduceAdd, Nat.reduceLeDiff, true_and, Bool.not_true, Bool.not_false, Bool.false_eq_true, if_false, reduceIte, lk, List.set, whole_int, whole_bl, whole_tup, whole_non]
        intro q nq
        have lq := up_ls (o := .lst true (cutD [dS s, dS t, dS u] none (some 2))) nq
        have dq := re.ne nq
        refine take_row (re.le lq) (by omega) (by decide) fun k2 S6 k20 k21 r6 o6 => ?_
        try simp only [true_and, q_add, q_sub, q_mul, q_div, q_mod, q_pow, q_lt, q_le, q_gt, q_ge, q_eq, q_ne, q_is, q_isnt, q_isntB, q_isB, q_tb, q_ti, q_tn, q_tt, q_ixQ0, q_ixQ1, q_ixS0, q_ixS1, q_eqQ, q_neQ, q_eqSp, q_neSp, q_eqB, q_neB, q_ixT, q_lenT, q_abs, q_intI, q_intB, q_min2, q_max2, at0, at1, at2, List.length_cons, List.length_nil, sizeLine_eq, Nat.reduceAdd, Nat.reduceLeDiff, true_and, Bool.not_true, Bool.not_false, Bool.false_eq_true, if_false, reduceIte, lk, List.set, whole_int, whole_bl, whole_tup, whole_non]
        refine take_row r6 (by omega) (by decide) fun k3 S7 k30 k31 r7 o7 => ?_
        try simp only [h69, a69, q_add, q_sub, q_mul, q_div, q_mod, q_pow, q_lt, q_le, q_gt, q_ge, q_eq, q_ne, q_is, q_isnt, q_isntB, q_isB, q_tb, q_ti, q_tn, q_tt, q_ixQ0, q_ixQ1, q_ixS0, q_ixS1, q_eqQ, q_neQ, q_eqSp, q_neSp, q_eqB, q_neB, q_ixT, q_lenT, q_abs, q_intI, q_intB, q_min2, q_max2, at0, at1, at2, List.length_cons, List.length_nil, sizeLine_eq, Nat.reduceAdd, Nat.reduceLeDiff, true_and, Bool.not_true, Bool.not_false, Bool.false_eq_true, if_false, reduceIte, lk, List.set, whole_int, whole_bl, whole_tup, whole_non]
        intro q2 nq2
        have lq2 := up_ls (o := .lst true [.int (1 + k2), .int k3]) nq2
        have e7 : S7 q = some (.lst true ([s, t].map dS)) := (o6.trans o7) _ _ dq up_same
        have zs : ∀ x ∈ [s, t], SzS 6 x := by
          simp only [List.forall_mem_cons, List.not_mem_nil, false_implies, implies_true, and_true]
          exact ⟨hs, ht⟩
        have zw : ∀ i ∈ [1 + k2, k3], Bd 3 i := by
          simp only [List.forall_mem_cons, List.not_mem_nil, false_implies, implies_true, and_true]
          exact ⟨by unfold Bd; omega, by unfold Bd; omega⟩
        refine ⟨true, true, [s, t], [1 + k2, k3], 6, 3, lq2 _ _ e7, up_same, by (first | decide | (simp only [List.length_append, List.length_cons, List.length_nil]; decide)), by (first | decide | (simp only [List.length_append, List.length_cons, List.length_nil]; decide)), by decide, by decide, zs, zw, by simp only [List.sum_cons, List.sum_nil]; omega, ?_⟩
        have hmid : SzS 100 (mid [s, t] [1 + k2, k3]) := (mid_sz (k := 2) (by decide) (by (first | decide | (simp only [List.length_append, List.length_cons, List.length_nil]; decide))) (by (first | decide | (simp only [List.length_append, List.length_cons, List.length_nil]; decide))) zs zw).mono (by decide)
        have ep7 : (S7.up q2 (.lst true [.int (1 + k2), .int k3])) p = some (.lst true [dS s, dS t, dS u]) := lq2 _ _ ((o6.trans o7) _ _ dp (lq _ _ ep))
        have r8 := r7.le lq2
        have o8 := oe.trans ((le_rowed lq).trans ((o6.trans o7).le lq2))
        try simp only [ep7, ixn2, q_add, q_sub, q_mul, q_div, q_mod, q_pow, q_lt, q_le, q_gt, q_ge, q_eq, q_ne, q_is, q_isnt, q_isntB, q_isB, q_tb, q_ti, q_tn, q_tt, q_ixQ0, q_ixQ1, q_ixS0, q_ixS1, q_eqQ, q_neQ, q_eqSp, q_neSp, q_eqB, q_neB, q_ixT, q_lenT, q_abs, q_intI, q_intB, q_min2, q_max2, at0, at1, at2, List.length_cons, List.length_nil, sizeLine_eq, Nat.reduceAdd, Nat.reduceLeDiff, true_and, Bool.not_true, Bool.not_false, Bool.false_eq_true, if_false, reduceIte, lk, List.set, whole_int, whole_bl, whole_tup, whole_non]
        simp only [show decide ((1 : Int) = 2) = false from rfl, q_tb, Bool.false_eq_true, if_false]
        exact ret_now (h p s t _ _ s6 t6 hmid nS up_same (by
          obtain ⟨c, m, e, m0, m1⟩ := r8
          exact ⟨c, m, by rw [up_oth dp]; exact e, m0, by omega⟩) (by
          intro b o hb e
          rw [up_oth (fun x => by rw [x, e] at nS; cases nS)]
          exact o8 b o hb e))
      · by_cases hk2 : k = 2
        · rw [decide_eq_true hk2]
          try simp only [true_and, q_add, q_sub, q_mul, q_div, q_mod, q_pow, q_lt, q_le, q_gt, q_ge, q_eq, q_ne, q_is, q_isnt, q_isntB, q_isB, q_tb, q_ti, q_tn, q_tt, q_ixQ0, q_ixQ1, q_ixS0, q_ixS1, q_eqQ, q_neQ, q_eqSp, q_neSp, q_eqB, q_neB, q_ixT, q_lenT, q_abs, q_intI, q_intB, q_min2, q_max2, at0, at1, at2, List.length_cons, List.length_nil, sizeLine_eq, Nat.reduceAdd, Nat.reduceLeDiff, true_and, Bool.not_true, Bool.not_false, Bool.false_eq_true, if_false, reduceIte, lk, List.set, whole_int, whole_bl, whole_tup, whole_non]
          refine take_row re (by omega) (by decide) fun k2 S6 k20 k21 r6 o6 => ?_
          have e6 : S6 p = some (.lst true [dS s, dS t, dS u]) := o6 _ _ dp ep
          try simp only [true_and, q_add, q_sub, q_mul, q_div, q_mod, q_pow, q_lt, q_le, q_gt, q_ge, q_eq, q_ne, q_is, q_isnt, q_isntB, q_isB, q_tb, q_ti, q_tn, q_tt, q_ixQ0, q_ixQ1, q_ixS0, q_ixS1, q_eqQ, q_neQ, q_eqSp, q_neSp, q_eqB, q_neB, q_ixT, q_lenT, q_abs, q_intI, q_intB, q_min2, q_max2, at0, at1, at2, List.length_cons, List.length_nil, sizeLine_eq, Nat.reduceAdd, Nat.reduceLeDiff, true_and, Bool.not_true, Bool.not_false, Bool.false_eq_true, if_false, reduceIte, lk, List.set, whole_int, whole_bl, whole_tup, whole_non]
          refine if_b (fun hz => ?_) fun hz => ?_
          · refine take_row r6 (by omega) (by decide) fun k3 S7 k30 k31 r7 o7 => ?_
            have e7 : S7 p = some (.lst true [dS s, dS t, dS u]) := o7 _ _ dp e6
            have hx : ∃ x : Spot, L2.atI [dS s, dS t, dS u] k3 = some (dS x) ∧ SzS 100 x := by
              have : k3 = 0 ∨ k3 = 1 ∨ k3 = 2 := by omega
              rcases this with rfl | rfl | rfl
              · exact ⟨s, at0, s6⟩
              · exact ⟨t, at1, t6⟩
              · exact ⟨u, at2, u6⟩
            obtain ⟨x, ex, hx⟩ := hx
            try simp only [q_ixL, e7, ex, q_add, q_sub, q_mul, q_div, q_mod, q_pow, q_lt, q_le, q_gt, q_ge, q_eq, q_ne, q_is, q_isnt, q_isntB, q_isB, q_tb, q_ti, q_tn, q_tt, q_ixQ0, q_ixQ1, q_ixS0, q_ixS1, q_eqQ, q_neQ, q_eqSp, q_neSp, q_eqB, q_neB, q_ixT, q_lenT, q_abs, q_intI, q_intB, q_min2, q_max2, at0, at1, at2, List.length_cons, List.length_nil, sizeLine_eq, Nat.reduceAdd, Nat.reduceLeDiff, true_and, Bool.not_true, Bool.not_false, Bool.false_eq_true, if_false, reduceIte, lk, List.set, whole_int, whole_bl, whole_tup, whole_non]
            refine take_row r7 (by omega) (by decide) fun k4 S8 k40 k41 r8 o8 => ?_
            have e8 : S8 p = some (.lst true [dS s, dS t, dS u]) := o8 _ _ dp e7
            obtain ⟨j, ej, hj⟩ := ixn3 k40 k41
            try simp only [e8, ej, q_add, q_sub, q_mul, q_div, q_mod, q_pow, q_lt, q_le, q_gt, q_ge, q_eq, q_ne, q_is, q_isnt, q_isntB, q_isB, q_tb, q_ti, q_tn, q_tt, q_ixQ0, q_ixQ1, q_ixS0, q_ixS1, q_eqQ, q_neQ, q_eqSp, q_neSp, q_eqB, q_neB, q_ixT, q_lenT, q_abs, q_intI, q_intB, q_min2, q_max2, at0, at1, at2, List.length_cons, List.length_nil, sizeLine_eq, Nat.reduceAdd, Nat.reduceLeDiff, true_and, Bool.not_true, Bool.not_false, Bool.false_eq_true, if_false, reduceIte, lk, List.set, whole_int, whole_bl, whole_tup, whole_non]
            have hfin : ∀ s' t' u' : Spot, SzS 100 s' → SzS 100 t' → SzS 100 u' → (retE P).rt (.ref p) (S8.up p (.lst true [dS s', dS t', dS u'])) := fun s' t' u' hs' ht' hu' => ret_now (h p s' t' u' _ hs' ht' hu' nS up_same (by
              obtain ⟨c, m, e, m0, m1⟩ := r8
              exact ⟨c, m, by rw [up_oth dp]; exact e, m0, by omega⟩) (by
              intro b o hb e
              rw [up_oth (fun x => by rw [x, e] at nS; cases nS)]
              exact (oe.trans (o6.trans (o7.trans o8))) b o hb e))
            match j, hj with
            | 0, _ => exact hfin x t u hx t6 u6
            | 1, _ => exact hfin s x u s6 hx u6
            | 2, _ => exact hfin s t x s6 t6 hx
          · exact ret_now (h p s t u _ s6 t6 u6 nS e6 (r6.mono (by omega)) (oe.trans o6))
        · rw [decide_eq_false hk2]
          try simp only [true_and, q_add, q_sub, q_mul, q_div, q_mod, q_pow, q_lt, q_le, q_gt, q_ge, q_eq, q_ne, q_is, q_isnt, q_isntB, q_isB, q_tb, q_ti, q_tn, q_tt, q_ixQ0, q_ixQ1, q_ixS0, q_ixS1, q_eqQ, q_neQ, q_eqSp, q_neSp, q_eqB, q_neB, q_ixT, q_lenT, q_abs, q_intI, q_intB, q_min2, q_max2, at0, at1, at2, List.length_cons, List.length_nil, sizeLine_eq, Nat.reduceAdd, Nat.reduceLeDiff, true_and, Bool.not_true, Bool.not_false, Bool.false_eq_true, if_false, reduceIte, lk, List.set, whole_int, whole_bl, whole_tup, whole_non]
          exact ret_now (h p s t u _ s6 t6 u6 nS ep (re.mono (by omega)) oe)
  · exact h.elim
/-- what the two numbers lead to -/
theorem leads_q {a b c s : Spot} (h : tw a b c ≠ 0) : a.1 + tw a s c / tw a b c * (b.1 - a.1) + tw a b s / tw a b c * (c.1 - a.1) = s.1 ∧ a.2 + tw a s c / tw a b c * (b.2 - a.2) + tw a b s / tw a b c * (c.2 - a.2) = s.2 := by
  have e1 : tw a s c = tw a s c / tw a b c * tw a b c := (Rat.div_mul_cancel h).symm
  have e2 : tw a b s = tw a b s / tw a b c * tw a b c := (Rat.div_mul_cancel h).symm
  generalize tw a s c / tw a b c = u at *
  generalize tw a b s / tw a b c = v at *
  unfold tw at *
  constructor
  · have : ((b.1 - a.1) * (c.2 - a.2) - (c.1 - a.1) * (b.2 - a.2)) * (a.1 + u * (b.1 - a.1) + v * (c.1 - a.1) - s.1) = 0 := by grind
    have := q_z h this
    grind
  · have : ((b.1 - a.1) * (c.2 - a.2) - (c.1 - a.1) * (b.2 - a.2)) * (a.2 + u * (b.2 - a.2) + v * (c.2 - a.2) - s.2) = 0 := by grind
    have := q_z h this
    grind
theorem leads_i {A C E X U V : Rat} (h : A + U * (C - A) + V * (E - A) = X) :
    (A.num * C.den * E.den * U.den * V.den + U.num * V.den * (C.num * A.den * E.den - A.num * C.den * E.den) + V.num * U.den * (E.num * A.den * C.den - A.num * C.den * E.den)) * (X.den : Int) = X.num * A.den * C.den * E.den * U.den * V.den := by
  have r : ∀ x : Rat, (x.num : Rat) = x * ((x.den : Int) : Rat) := fun x => by
    have := Rat.div_mul_cancel (a := (x.num : Rat)) (den_ne x)
    rw [← rat_eq x] at this
    exact this.symm
  apply Rat.intCast_inj.mp
  simp only [Rat.intCast_mul, Rat.intCast_add, Rat.intCast_sub]
  rw [r A, r C, r E, r X, r U, r V]
  grind
def c_law_leads : Con := fun ds S P _ => match ds with
  | [f, x, y] => ∃ a b c s u v, f = d3 a b c ∧ x = dS s ∧ y = .tup [dQ u, dQ v] ∧ SzS 100 a ∧ SzS 100 b ∧ SzS 100 c ∧ SzS 100 s ∧ Sz 2000 u ∧ Sz 2000 v ∧ a.1 + u * (b.1 - a.1) + v * (c.1 - a.1) = s.1 ∧ a.2 + u * (b.2 - a.2) + v * (c.2 - a.2) = s.2 ∧ P (.bl true) S
  | _ => False
theorem m_law_leads {Γ : Gam} (h8 : Γ.fn 8 = c_law_is_fracT) (a8 : Γ.ar 8 = 1) : Meets Γ 20 z_law_leads c_law_leads := by
  intro ds S P W h
  unfold c_law_leads at h
  split at h
  · obtain ⟨a, b, c, s, u, v, rfl, rfl, rfl, ha, hb, hc, hs, hu, hv, g1, g2, hp⟩ := h
    change wZs Γ z_law_leads (retE P) [some (d3 a b c), some (dS s), some (.tup [.tup [.int u.num, .int u.den], .tup [.int v.num, .int v.den]]), none, none, none, none, none, none, none, none, none, none, none, none, none, none, none, none, none] S (errW W)
    have fu : fracB (.tup [.int u.num, .int u.den]) = true := fracB_q.mpr ⟨u, rfl⟩
    have fv : fracB (.tup [.int v.num, .int v.den]) = true := fracB_q.mpr ⟨v, rfl⟩
    refine cut 2 (fun ρ S' => ρ = [some (d3 a b c), some (dS s), some (.tup [dQ u, dQ v]), some (.int u.num), some (.int u.den), some (.int v.num), some (.int v.den), none, none, none, none, none, none, none, none, none, none, none, none, none] ∧ S' = S) (fun G hG => ?_) ?_
    · dsimp only [z_law_leads]
      dsimp only [wZs, wZ, wE, wEs, wT, wTs, wI, lk, List.set, aTru, partS, List.take, List.drop]
      have e2 : decide (((2 : Nat) : Int) = 2) = true := rfl
      try simp only [isi_tup, e2, h8, a8, c_law_is_fracT, fu, fv, q_add, q_sub, q_mul, q_div, q_mod, q_pow, q_lt, q_le, q_gt, q_ge, q_eq, q_ne, q_is, q_isnt, q_isntB, q_isB, q_tb, q_ti, q_tn, q_tt, q_ixQ0, q_ixQ1, q_ixS0, q_ixS1, q_eqQ, q_neQ, q_eqSp, q_neSp, q_eqB, q_neB, q_ixT, q_lenT, q_abs, q_intI, q_intB, q_min2, q_max2, at0, at1, at2, List.length_cons, List.length_nil, sizeLine_eq, Nat.reduceAdd, Nat.reduceLeDiff, true_and, Bool.not_true, Bool.not_false, Bool.false_eq_true, if_false, reduceIte, lk, List.set, whole_int, whole_bl, whole_tup, whole_non]
      exact ⟨wf_q (hu.mono (by decide)), wf_q (hv.mono (by decide)), hG _ _ ⟨rfl, rfl⟩⟩
    rintro ρ S1 ⟨rfl, rfl⟩
    dsimp only [z_law_leads, List.drop]
    refine cut 1 (fun ρ S' => S' = S1) (fun G hG => ?_) ?_
    · dsimp only [List.take]
      rw [wZs_one, wZ_for, wI_r1]
      refine ⟨by decide, ?_⟩
      refine for_inv (src := .free) (fun ρ S' => (∃ x7 x8 x9 x10 x11 x12 x13 x14 x15 x16 x17 x18 x19, ρ = [some (d3 a b c), some (dS s), some (.tup [dQ u, dQ v]), some (.int u.num), some (.int u.den), some (.int v.num), some (.int v.den), x7, x8, x9, x10, x11, x12, x13, x14, x15, x16, x17, x18, x19]) ∧ S' = S1) (fun _ _ _ => trivial) (fun ρ S' h => hG ρ S' h.2) (fun F d ρ S' hd h hF => ?_) ⟨⟨_, _, _, _, _, _, _, _, _, _, _, _, _, rfl⟩, rfl⟩
      obtain ⟨⟨x7, x8, x9, x10, x11, x12, x13, x14, x15, x16, x17, x18, x19, rfl⟩, rfl⟩ := h
      have hd' : d ∈ [D.int 0, D.int 1] := hd
      have hj : ∃ (j : Int) (f : Spot → Rat), d = .int j ∧ (∀ (s : Spot) (T : Sto) (P : PD), ixS (dS s) (.int j) T P = P (dQ (f s)) T) ∧ (∀ s, SzS 100 s → Sz 100 (f s)) ∧ f a + u * (f b - f a) + v * (f c - f a) = f s := by
        simp only [List.mem_cons, List.not_mem_nil, or_false] at hd'
        rcases hd' with rfl | rfl
        · exact ⟨0, (·.1), rfl, fun _ _ _ => q_ixS0, fun s hs => hs.1, g1⟩
        · exact ⟨1, (·.2), rfl, fun _ _ _ => q_ixS1, fun s hs => hs.2, g2⟩
      obtain ⟨j, f, rfl, hix, hzf, hg⟩ := hj
      have A := (hzf a ha).bd; have C := (hzf b hb).bd; have E := (hzf c hc).bd; have X := (hzf s hs).bd; have U := hu.bd; have V := hv.bd
      have hH : Bd 300 ((f a).num * (f b).den * (f c).den) := ((A.1.mul C.2).mul E.2).mono (by decide)
      have key := leads_i hg
      dsimp only [wZs, wZ, wE, wEs, wT, wTs, wI, lk, List.set, aTru, partS, List.take, List.drop]
      try simp only [d3, hix, dQ, q_add, q_sub, q_mul, q_div, q_mod, q_pow, q_lt, q_le, q_gt, q_ge, q_eq, q_ne, q_is, q_isnt, q_isntB, q_isB, q_tb, q_ti, q_tn, q_tt, q_ixQ0, q_ixQ1, q_ixS0, q_ixS1, q_eqQ, q_neQ, q_eqSp, q_neSp, q_eqB, q_neB, q_ixT, q_lenT, q_abs, q_intI, q_intB, q_min2, q_max2, at0, at1, at2, List.length_cons, List.length_nil, sizeLine_eq, Nat.reduceAdd, Nat.reduceLeDiff, true_and, Bool.not_true, Bool.not_false, Bool.false_eq_true, if_false, reduceIte, lk, List.set, whole_int, whole_bl, whole_tup, whole_non]
      have cb : Bd 200 ((f b).num * (f a).den) := C.1.mul A.2
      have ea' : Bd 200 ((f c).num * (f a).den) := E.1.mul A.2
      have uv : Bd 4000 (u.num * v.den) := U.1.mul V.2
      have vu : Bd 4000 (v.num * u.den) := V.1.mul U.2
      have along : Bd 4400 (u.num * v.den * ((f b).num * (f a).den * (f c).den - (f a).num * (f b).den * (f c).den)) := (uv.mul ((cb.mul E.2).sub hH)).mono (by decide)
      have up : Bd 4400 (v.num * u.den * ((f c).num * (f a).den * (f b).den - (f a).num * (f b).den * (f c).den)) := (vu.mul ((ea'.mul C.2).sub hH)).mono (by decide)
      have hr : Bd 2300 ((f a).num * (f b).den * (f c).den * u.den) := hH.mul U.2
      have hrs : Bd 4300 ((f a).num * (f b).den * (f c).den * u.den * v.den) := hr.mul V.2
      have w1 : Bd 4401 ((f a).num * (f b).den * (f c).den * u.den * v.den + u.num * v.den * ((f b).num * (f a).den * (f c).den - (f a).num * (f b).den * (f c).den)) := (hrs.mono (by decide)).add along
      have w2 : Bd 4402 ((f a).num * (f b).den * (f c).den * u.den * v.den + u.num * v.den * ((f b).num * (f a).den * (f c).den - (f a).num * (f b).den * (f c).den) + v.num * u.den * ((f c).num * (f a).den * (f b).den - (f a).num * (f b).den * (f c).den)) := w1.add (up.mono (by decide))
      have p1 : Bd 200 ((f s).num * (f a).den) := X.1.mul A.2
      have p2 : Bd 300 ((f s).num * (f a).den * (f b).den) := p1.mul C.2
      have p3 : Bd 400 ((f s).num * (f a).den * (f b).den * (f c).den) := p2.mul E.2
      have p4 : Bd 2400 ((f s).num * (f a).den * (f b).den * (f c).den * u.den) := p3.mul U.2
      refine ⟨A.1.ok C.2 (by decide), (A.1.mul C.2).ok E.2 (by decide), U.1.ok V.2 (by decide), C.1.ok A.2 (by decide), cb.ok E.2 (by decide), uv.ok ((cb.mul E.2).sub hH) (by decide), V.1.ok U.2 (by decide), E.1.ok A.2 (by decide), ea'.ok C.2 (by decide), vu.ok ((ea'.mul C.2).sub hH) (by decide), hH.ok U.2 (by decide), hr.ok V.2 (by decide), w2.ok X.2 (by decide), X.1.ok A.2 (by decide), p1.ok C.2 (by decide), p2.ok E.2 (by decide), p3.ok U.2 (by decide), p4.ok V.2 (by decide), ?_⟩
      rw [key, decide_eq_true rfl]
      try simp only [true_and, q_add, q_sub, q_mul, q_div, q_mod, q_pow, q_lt, q_le, q_gt, q_ge, q_eq, q_ne, q_is, q_isnt, q_isntB, q_isB, q_tb, q_ti, q_tn, q_tt, q_ixQ0, q_ixQ1, q_ixS0, q_ixS1, q_eqQ, q_neQ, q_eqSp, q_neSp, q_eqB, q_neB, q_ixT, q_lenT, q_abs, q_intI, q_intB, q_min2, q_max2, at0, at1, at2, List.length_cons, List.length_nil, sizeLine_eq, Nat.reduceAdd, Nat.reduceLeDiff, true_and, Bool.not_true, Bool.not_false, Bool.false_eq_true, if_false, reduceIte, lk, List.set, whole_int, whole_bl, whole_tup, whole_non]
      exact hF _ _ ⟨⟨_, _, _, _, _, _, _, _, _, _, _, _, _, rfl⟩, rfl⟩
    rintro ρ S2 rfl
    dsimp only [wZs, wZ, wE, wEs, wT, wTs, wI, lk, List.set, aTru, partS, List.take, List.drop]
    exact ret_now hp
  · exact h.elim
end Sd
namespace Sd
/-- products of ways -/
def cr (a b : Spot) : Rat := a.1 * b.2 - a.2 * b.1
theorem cr_id (e a b c : Spot) : cr e a * cr b c + cr e b * cr c a + cr e c * cr a b = 0 := by
  unfold cr
  grind
theorem cr_anti {a b : Spot} : cr a b = - cr b a := by unfold cr; grind
theorem par {e p q : Spot} (he : ¬ (e.1 = 0 ∧ e.2 = 0)) (h1 : cr e p = 0) (h2 : cr e q = 0) : cr p q = 0 := by
  unfold cr at *
  by_cases h : e.1 = 0
  · have h' : e.2 ≠ 0 := fun z => he ⟨h, z⟩
    exact q_z h' (by grind)
  · exact q_z h (by grind)
theorem np {a b : Rat} (h1 : a ≤ 0) (h2 : 0 ≤ b) : a * b ≤ 0 := by
  have := Rat.mul_nonneg (a := -a) (b := b) (by grind) h2
  grind
theorem nn {a b : Rat} (h1 : a ≤ 0) (h2 : b ≤ 0) : 0 ≤ a * b := by
  have := Rat.mul_nonneg (a := -a) (b := -b) (by grind) (by grind)
  grind
theorem z_of {a b : Rat} (h : a * b = 0) (hb : b ≠ 0) : a = 0 := (Rat.mul_eq_zero.mp h).resolve_right hb
/-- a line through a corner of each that parts two pieces: then a side does -/
theorem sat_core {e p q r w : Spot} (he : ¬ (e.1 = 0 ∧ e.2 = 0)) (hpq : 0 < cr p q) (hrw : 0 < cr r w) (yp : cr e p ≤ 0) (yq : cr e q ≤ 0) (yr : 0 ≤ cr e r) (yw : 0 ≤ cr e w)
    (f2 : cr q r < cr e q ∨ cr q w < cr e q) (f4 : cr e w < cr p w ∨ cr e w < cr q w) : False := by
  have iA := cr_id e q r w
  have iB := cr_id e p q w
  have iC := cr_id e q r p
  have a1 : cr w q = - cr q w := cr_anti
  have a2 : cr w p = - cr p w := cr_anti
  rw [a1] at iA
  rw [a2] at iB
  have key : cr e w < cr p w → cr q w ≤ 0 → cr e q = 0 ∧ cr e p * cr q w = 0 := by
    intro h1 h2
    have t1 := nn yp h2
    have t2 := np yq (show 0 ≤ cr p w by grind)
    have t3 := Rat.mul_nonneg yw (Rat.le_of_lt hpq)
    have e1 : cr e q * cr p w = 0 := by grind
    exact ⟨z_of e1 (by grind), by grind⟩
  rcases f2 with f2 | f2
  · have hqr : cr q r < 0 := by grind
    have t1 := np yq (Rat.le_of_lt hrw)
    have t2 : cr e w * cr q r ≤ 0 := by
      have := np (Rat.le_of_lt hqr) yw
      grind
    rcases Rat.le_iff_lt_or_eq.mp yr with h | h
    · have hw : cr q w ≤ 0 := by
        have : 0 ≤ - cr q w := q_nn h (by grind)
        grind
      rcases f4 with f4 | f4
      · obtain ⟨z, _⟩ := key f4 hw
        have s1 := Rat.mul_pos h hpq
        have s2 := nn yp (Rat.le_of_lt hqr)
        rw [z] at iC
        grind
      · grind
    · have z1 : cr e q * cr r w = 0 := by rw [← h] at iA; grind
      have z2 : cr e w * cr q r = 0 := by rw [← h] at iA; grind
      have zw := z_of z2 (by grind)
      have := par he h.symm zw
      grind
  · have hqw : cr q w < 0 := by grind
    rcases f4 with f4 | f4
    · obtain ⟨z, z2⟩ := key f4 (Rat.le_of_lt hqw)
      have zp := z_of z2 (by grind)
      have := par he zp z
      grind
    · grind
/-- the same, by spots -/
theorem sat_mixed {a p q b r s : Spot} (hab : a ≠ b) (h1 : 0 < tw a p q) (h2 : 0 < tw b r s) (yp : tw a b p ≤ 0) (yq : tw a b q ≤ 0) (yr : 0 ≤ tw a b r) (ys : 0 ≤ tw a b s) :
    (tw q a b ≤ 0 ∧ tw q a r ≤ 0 ∧ tw q a s ≤ 0) ∨ (tw s b a ≤ 0 ∧ tw s b p ≤ 0 ∧ tw s b q ≤ 0) := by
  by_cases g2 : tw q a b ≤ 0 ∧ tw q a r ≤ 0 ∧ tw q a s ≤ 0
  · exact .inl g2
  by_cases g4 : tw s b a ≤ 0 ∧ tw s b p ≤ 0 ∧ tw s b q ≤ 0
  · exact .inr g4
  exfalso
  have he : ¬ ((b.1 - a.1, b.2 - a.2) : Spot).1 = 0 ∨ ¬ ((b.1 - a.1, b.2 - a.2) : Spot).2 = 0 := by
    by_cases h : b.1 - a.1 = 0
    · right
      intro h'
      exact hab (Prod.ext (by grind) (by grind))
    · exact .inl h
  have q1 : tw q a b ≤ 0 := by unfold tw at *; grind
  have s1 : tw s b a ≤ 0 := by unfold tw at *; grind
  refine sat_core (e := (b.1 - a.1, b.2 - a.2)) (p := (p.1 - a.1, p.2 - a.2)) (q := (q.1 - a.1, q.2 - a.2)) (r := (r.1 - b.1, r.2 - b.2)) (w := (s.1 - b.1, s.2 - b.2)) (fun z => he.elim (fun h => h z.1) fun h => h z.2) ?_ ?_ ?_ ?_ ?_ ?_ ?_ ?_
  · unfold tw at h1; unfold cr; grind
  · unfold tw at h2; unfold cr; grind
  · unfold tw at yp; unfold cr; grind
  · unfold tw at yq; unfold cr; grind
  · unfold tw at yr; unfold cr; grind
  · unfold tw at ys; unfold cr; grind
  · by_cases hr : tw q a r ≤ 0
    · right
      have hs : ¬ tw q a s ≤ 0 := fun z => g2 ⟨q1, hr, z⟩
      unfold tw at hs; unfold cr; grind
    · left
      unfold tw at hr; unfold cr; grind
  · by_cases hp : tw s b p ≤ 0
    · right
      have hq : ¬ tw s b q ≤ 0 := fun z => g4 ⟨s1, hp, z⟩
      unfold tw at hq; unfold cr; grind
    · left
      unfold tw at hp; unfold cr; grind
/-- mirrored -/
theorem sat_mixed' {a p q b r s : Spot} (hab : a ≠ b) (h1 : 0 < tw a p q) (h2 : 0 < tw b r s) (yp : 0 ≤ tw a b p) (yq : 0 ≤ tw a b q) (yr : tw a b r ≤ 0) (ys : tw a b s ≤ 0) :
    (tw a p b ≤ 0 ∧ tw a p r ≤ 0 ∧ tw a p s ≤ 0) ∨ (tw b r a ≤ 0 ∧ tw b r p ≤ 0 ∧ tw b r q ≤ 0) := by
  have m : ∀ x y z : Spot, tw (x.2, x.1) (y.2, y.1) (z.2, z.1) = - tw x y z := fun x y z => by unfold tw; grind
  have sw : ∀ x y z : Spot, tw y x z = - tw x y z := fun x y z => by unfold tw; grind
  have hne : ((a.2, a.1) : Spot) ≠ (b.2, b.1) := fun e => hab (Prod.ext (congrArg Prod.snd e) (congrArg Prod.fst e))
  have := sat_mixed (a := (a.2, a.1)) (p := (q.2, q.1)) (q := (p.2, p.1)) (b := (b.2, b.1)) (r := (s.2, s.1)) (s := (r.2, r.1)) hne
    (by rw [m]; unfold tw at *; grind) (by rw [m]; unfold tw at *; grind) (by rw [m]; grind) (by rw [m]; grind) (by rw [m]; grind) (by rw [m]; grind)
  simp only [m] at this
  rcases this with ⟨x1, x2, x3⟩ | ⟨x1, x2, x3⟩
  · left
    rw [sw p a b, sw p a r, sw p a s]
    exact ⟨by rw [sw a p b] at x1; grind, by rw [sw a p s] at x2; rw [sw a p r] at x3; grind, by rw [sw a p s] at x2; grind⟩
  · right
    rw [sw r b a, sw r b p, sw r b q]
    exact ⟨by rw [sw b r a] at x1; grind, by rw [sw b r q] at x2; rw [sw b r p] at x3; grind, by rw [sw b r q] at x2; grind⟩
/-- corners and sides of three spots -/
def cns (t : Spot × Spot × Spot) : List Spot := [t.1, t.2.1, t.2.2]
def sds (t : Spot × Spot × Spot) : List (Spot × Spot) := [(t.2.2, t.1), (t.1, t.2.1), (t.2.1, t.2.2)]
/-- some side has all the others not at its left -/
def bh (t o : Spot × Spot × Spot) : Prop := ∃ e ∈ sds t, ∀ x ∈ cns o, tw e.1 e.2 x ≤ 0
/-- a line through two of the corners parts them -/
def lsep (t o : Spot × Spot × Spot) : Prop := ∃ u ∈ cns t ++ cns o, ∃ v ∈ cns t ++ cns o, u ≠ v ∧ (∀ x ∈ cns t, tw u v x ≤ 0) ∧ ∀ x ∈ cns o, 0 ≤ tw u v x
theorem sep_iff {t o : Spot × Spot × Spot} (ht : 0 < tw t.1 t.2.1 t.2.2) (ho : 0 < tw o.1 o.2.1 o.2.2) : lsep t o ↔ bh t o ∨ bh o t := by
  obtain ⟨a, b, c⟩ := t
  obtain ⟨d, e, f⟩ := o
  simp only at ht ho
  have sw : ∀ x y z : Spot, tw y x z = - tw x y z := fun x y z => by unfold tw; grind
  have r1 : ∀ x y z : Spot, tw y z x = tw x y z := fun x y z => by unfold tw; grind
  have s1 : ∀ x y : Spot, tw x y x = 0 := fun x y => by unfold tw; grind
  have s2 : ∀ x y : Spot, tw x y y = 0 := fun x y => by unfold tw; grind
  have s3 : ∀ x y : Spot, tw x x y = 0 := fun x y => by unfold tw; grind
  constructor
  · rintro ⟨u, hu, v, hv, hne, h1, h2⟩
    simp only [cns, List.cons_append, List.nil_append, List.mem_cons, List.not_mem_nil, or_false, forall_eq_or_imp, forall_eq] at hu hv h1 h2
    have mk : ∀ {t o : Spot × Spot × Spot} {x y : Spot}, (x, y) ∈ sds t → tw x y o.1 ≤ 0 → tw x y o.2.1 ≤ 0 → tw x y o.2.2 ≤ 0 → bh t o := fun hm z1 z2 z3 => ⟨_, hm, by
      simp only [cns, List.mem_cons, List.not_mem_nil, or_false, forall_eq_or_imp, forall_eq]
      exact ⟨z1, z2, z3⟩⟩
    have gt1 : tw c a d ≤ 0 → tw c a e ≤ 0 → tw c a f ≤ 0 → bh (a, b, c) (d, e, f) ∨ bh (d, e, f) (a, b, c) := fun z1 z2 z3 => .inl (mk (by simp [sds]) z1 z2 z3)
    have gt2 : tw a b d ≤ 0 → tw a b e ≤ 0 → tw a b f ≤ 0 → bh (a, b, c) (d, e, f) ∨ bh (d, e, f) (a, b, c) := fun z1 z2 z3 => .inl (mk (by simp [sds]) z1 z2 z3)
    have gt3 : tw b c d ≤ 0 → tw b c e ≤ 0 → tw b c f ≤ 0 → bh (a, b, c) (d, e, f) ∨ bh (d, e, f) (a, b, c) := fun z1 z2 z3 => .inl (mk (by simp [sds]) z1 z2 z3)
    have go1 : tw f d a ≤ 0 → tw f d b ≤ 0 → tw f d c ≤ 0 → bh (a, b, c) (d, e, f) ∨ bh (d, e, f) (a, b, c) := fun z1 z2 z3 => .inr (mk (by simp [sds]) z1 z2 z3)
    have go2 : tw d e a ≤ 0 → tw d e b ≤ 0 → tw d e c ≤ 0 → bh (a, b, c) (d, e, f) ∨ bh (d, e, f) (a, b, c) := fun z1 z2 z3 => .inr (mk (by simp [sds]) z1 z2 z3)
    have go3 : tw e f a ≤ 0 → tw e f b ≤ 0 → tw e f c ≤ 0 → bh (a, b, c) (d, e, f) ∨ bh (d, e, f) (a, b, c) := fun z1 z2 z3 => .inr (mk (by simp [sds]) z1 z2 z3)
    rcases hu with hu | hu | hu | hu | hu | hu <;> rcases hv with hv | hv | hv | hv | hv | hv <;> (replace hu := hu.symm; replace hv := hv.symm; subst hu; subst hv)
    · exact (hne rfl).elim
    · exfalso; have z := h1.2.2; have z2 := ht; unfold tw at z z2; grind
    · exact gt1 (by rw [sw a c d]; grind) (by rw [sw a c e]; grind) (by rw [sw a c f]; grind)
    · rcases sat_mixed hne ht ho h1.2.1 h1.2.2 h2.2.1 h2.2.2 with ⟨x1, x2, x3⟩ | ⟨x1, x2, x3⟩
      · exact gt1 x1 x2 x3
      · exact go1 x1 x2 x3
    · rcases sat_mixed hne ht (by rw [r1 d e f]; exact ho) h1.2.1 h1.2.2 h2.2.2 h2.1 with ⟨x1, x2, x3⟩ | ⟨x1, x2, x3⟩
      · exact gt1 x3 x1 x2
      · exact go2 x1 x2 x3
    · rcases sat_mixed hne ht (by rw [← r1 f d e]; exact ho) h1.2.1 h1.2.2 h2.1 h2.2.1 with ⟨x1, x2, x3⟩ | ⟨x1, x2, x3⟩
      · exact gt1 x2 x3 x1
      · exact go3 x1 x2 x3
    · exact gt2 (by rw [sw b a d]; grind) (by rw [sw b a e]; grind) (by rw [sw b a f]; grind)
    · exact (hne rfl).elim
    · exfalso; have z := h1.1; have z2 := ht; unfold tw at z z2; grind
    · rcases sat_mixed hne (by rw [r1 a b c]; exact ht) ho h1.2.2 h1.1 h2.2.1 h2.2.2 with ⟨x1, x2, x3⟩ | ⟨x1, x2, x3⟩
      · exact gt2 x1 x2 x3
      · exact go1 x3 x1 x2
    · rcases sat_mixed hne (by rw [r1 a b c]; exact ht) (by rw [r1 d e f]; exact ho) h1.2.2 h1.1 h2.2.2 h2.1 with ⟨x1, x2, x3⟩ | ⟨x1, x2, x3⟩
      · exact gt2 x3 x1 x2
      · exact go2 x3 x1 x2
    · rcases sat_mixed hne (by rw [r1 a b c]; exact ht) (by rw [← r1 f d e]; exact ho) h1.2.2 h1.1 h2.1 h2.2.1 with ⟨x1, x2, x3⟩ | ⟨x1, x2, x3⟩
      · exact gt2 x2 x3 x1
      · exact go3 x3 x1 x2
    · exfalso; have z := h1.2.1; have z2 := ht; unfold tw at z z2; grind
    · exact gt3 (by rw [sw c b d]; grind) (by rw [sw c b e]; grind) (by rw [sw c b f]; grind)
    · exact (hne rfl).elim
    · rcases sat_mixed hne (by rw [← r1 c a b]; exact ht) ho h1.1 h1.2.1 h2.2.1 h2.2.2 with ⟨x1, x2, x3⟩ | ⟨x1, x2, x3⟩
      · exact gt3 x1 x2 x3
      · exact go1 x2 x3 x1
    · rcases sat_mixed hne (by rw [← r1 c a b]; exact ht) (by rw [r1 d e f]; exact ho) h1.1 h1.2.1 h2.2.2 h2.1 with ⟨x1, x2, x3⟩ | ⟨x1, x2, x3⟩
      · exact gt3 x3 x1 x2
      · exact go2 x2 x3 x1
    · rcases sat_mixed hne (by rw [← r1 c a b]; exact ht) (by rw [← r1 f d e]; exact ho) h1.1 h1.2.1 h2.1 h2.2.1 with ⟨x1, x2, x3⟩ | ⟨x1, x2, x3⟩
      · exact gt3 x2 x3 x1
      · exact go3 x2 x3 x1
    · rcases sat_mixed' hne ho ht h2.2.1 h2.2.2 h1.2.1 h1.2.2 with ⟨x1, x2, x3⟩ | ⟨x1, x2, x3⟩
      · exact go2 x1 x2 x3
      · exact gt2 x1 x2 x3
    · rcases sat_mixed' hne ho (by rw [r1 a b c]; exact ht) h2.2.1 h2.2.2 h1.2.2 h1.1 with ⟨x1, x2, x3⟩ | ⟨x1, x2, x3⟩
      · exact go2 x3 x1 x2
      · exact gt3 x1 x2 x3
    · rcases sat_mixed' hne ho (by rw [← r1 c a b]; exact ht) h2.2.1 h2.2.2 h1.1 h1.2.1 with ⟨x1, x2, x3⟩ | ⟨x1, x2, x3⟩
      · exact go2 x2 x3 x1
      · exact gt1 x1 x2 x3
    · exact (hne rfl).elim
    · exact go2 h1.1 h1.2.1 h1.2.2
    · exfalso; have z := h2.2.1; have z2 := ho; unfold tw at z z2; grind
    · rcases sat_mixed' hne (by rw [r1 d e f]; exact ho) ht h2.2.2 h2.1 h1.2.1 h1.2.2 with ⟨x1, x2, x3⟩ | ⟨x1, x2, x3⟩
      · exact go3 x1 x2 x3
      · exact gt2 x3 x1 x2
    · rcases sat_mixed' hne (by rw [r1 d e f]; exact ho) (by rw [r1 a b c]; exact ht) h2.2.2 h2.1 h1.2.2 h1.1 with ⟨x1, x2, x3⟩ | ⟨x1, x2, x3⟩
      · exact go3 x3 x1 x2
      · exact gt3 x3 x1 x2
    · rcases sat_mixed' hne (by rw [r1 d e f]; exact ho) (by rw [← r1 c a b]; exact ht) h2.2.2 h2.1 h1.1 h1.2.1 with ⟨x1, x2, x3⟩ | ⟨x1, x2, x3⟩
      · exact go3 x2 x3 x1
      · exact gt1 x3 x1 x2
    · exfalso; have z := h2.2.2; have z2 := ho; unfold tw at z z2; grind
    · exact (hne rfl).elim
    · exact go3 h1.1 h1.2.1 h1.2.2
    · rcases sat_mixed' hne (by rw [← r1 f d e]; exact ho) ht h2.1 h2.2.1 h1.2.1 h1.2.2 with ⟨x1, x2, x3⟩ | ⟨x1, x2, x3⟩
      · exact go1 x1 x2 x3
      · exact gt2 x2 x3 x1
    · rcases sat_mixed' hne (by rw [← r1 f d e]; exact ho) (by rw [r1 a b c]; exact ht) h2.1 h2.2.1 h1.2.2 h1.1 with ⟨x1, x2, x3⟩ | ⟨x1, x2, x3⟩
      · exact go1 x3 x1 x2
      · exact gt3 x2 x3 x1
    · rcases sat_mixed' hne (by rw [← r1 f d e]; exact ho) (by rw [← r1 c a b]; exact ht) h2.1 h2.2.1 h1.1 h1.2.1 with ⟨x1, x2, x3⟩ | ⟨x1, x2, x3⟩
      · exact go1 x2 x3 x1
      · exact gt1 x2 x3 x1
    · exact go1 h1.1 h1.2.1 h1.2.2
    · exfalso; have z := h2.1; have z2 := ho; unfold tw at z z2; grind
    · exact (hne rfl).elim
  · have mk : ∀ {u v : Spot}, u ∈ cns (a, b, c) ++ cns (d, e, f) → v ∈ cns (a, b, c) ++ cns (d, e, f) → u ≠ v → (tw u v a ≤ 0 ∧ tw u v b ≤ 0 ∧ tw u v c ≤ 0) → (0 ≤ tw u v d ∧ 0 ≤ tw u v e ∧ 0 ≤ tw u v f) → lsep (a, b, c) (d, e, f) := fun hu hv hn z1 z2 => ⟨_, hu, _, hv, hn, by
      simp only [cns, List.mem_cons, List.not_mem_nil, or_false, forall_eq_or_imp, forall_eq]
      exact z1, by
      simp only [cns, List.mem_cons, List.not_mem_nil, or_false, forall_eq_or_imp, forall_eq]
      exact z2⟩
    have ne3 : ∀ {x y z : Spot}, 0 < tw x y z → x ≠ y ∧ y ≠ z ∧ z ≠ x := fun h => ⟨fun z => (by subst z; unfold tw at h; grind), fun z => (by subst z; unfold tw at h; grind), fun z => (by subst z; unfold tw at h; grind)⟩
    obtain ⟨n1, n2, n3⟩ := ne3 ht
    obtain ⟨m1, m2, m3⟩ := ne3 ho
    rintro (⟨s, hs, hx⟩ | ⟨s, hs, hx⟩)
    · simp only [sds, cns, List.mem_cons, List.not_mem_nil, or_false, forall_eq_or_imp, forall_eq] at hs hx
      rcases hs with rfl | rfl | rfl
      · exact mk (u := a) (v := c) (by simp [cns]) (by simp [cns]) n3.symm (by unfold tw at *; grind) (by unfold tw at *; grind)
      · exact mk (u := b) (v := a) (by simp [cns]) (by simp [cns]) n1.symm (by unfold tw at *; grind) (by unfold tw at *; grind)
      · exact mk (u := c) (v := b) (by simp [cns]) (by simp [cns]) n2.symm (by unfold tw at *; grind) (by unfold tw at *; grind)
    · simp only [sds, cns, List.mem_cons, List.not_mem_nil, or_false, forall_eq_or_imp, forall_eq] at hs hx
      rcases hs with rfl | rfl | rfl
      · exact mk (u := f) (v := d) (by simp [cns]) (by simp [cns]) m3 hx (by unfold tw at *; grind)
      · exact mk (u := d) (v := e) (by simp [cns]) (by simp [cns]) m1 hx (by unfold tw at *; grind)
      · exact mk (u := e) (v := f) (by simp [cns]) (by simp [cns]) m2 hx (by unfold tw at *; grind)
end Sd
namespace Sd
open PySem
abbrev c_law_take_3 : Con := c_law_take
theorem m_law_take_3 {Γ : Gam} : Meets Γ 4 z_law_take_3 c_law_take_3 := by
  intro ds S P W h
  unfold c_law_take_3 c_law_take at h
  split at h
  · rename_i a b
    split at h
    · rename_i c n e
      obtain ⟨⟨hb, hb2⟩, ⟨hn0, hn⟩, h⟩ := h
      change wZs Γ z_law_take_3 (retE P) [some (.ref a), some (.int b), none, none] S (errW W)
      dsimp only [z_law_take_3, wZs, wZ, wE, wEs, wT, wTs, lk, List.set, aTru]
      simp only [q_ixL, e, at0, at1, q_add, q_sub, q_mul, q_div, q_mod, q_pow, q_ge, q_gt, q_tb, q_intB, List.length_cons, List.length_nil, ixn0, ixn1, List.set, up_same, upup]
      have p18 : L2.CPow 10 18 := ⟨by decide, by decide, by decide⟩
      have e18 : (10 : Int) ^ Int.toNat 18 = 1000000000000000000 := by decide
      rw [e18]
      have db : DivOk b := div_ok (n := 200) (by omega) (by omega) (by decide) (by decide)
      have bn : b ≠ 0 := by omega
      refine ⟨p18, if_b (fun h1 => ⟨p18, div_ok (n := 64) (by decide) (by decide) (by decide) (by decide), db, p18, mul_okR (by decide), ?_, p18, by decide, bn, ret_now (h _ _ (fmod_rng hb).1 (fmod_rng hb).2)⟩) fun h1 => ?_⟩
      · refine mul_okR ?_
        split <;> decide
      · have r1 := fmod_rng (a := c) (b := 2147483629) (by decide)
        generalize c.fmod 2147483629 = u at r1
        have r2 := fmod_rng (a := u * 48271 + 104729 * (n + 1) * (n + 1) + 17) (b := 2147483647) (by decide)
        generalize (u * 48271 + 104729 * (n + 1) * (n + 1) + 17).fmod 2147483647 = v at r2
        have r3 := fmod_rng (a := v) (b := 65521) (by decide)
        have d7 : DivOk 7 := div_ok (n := 64) (by decide) (by decide) (by decide) (by decide)
        exact ⟨by decide, mul_okR (by decide), mul_okL (by decide), mul_okR (by omega), by decide, by decide, mul_okL (by omega), by decide, d7, bn, ret_now (h _ _ (fmod_rng hb).1 (fmod_rng hb).2)⟩
    · exact h.elim
  · exact h.elim
/-- a difference the other way about -/
def c_law_gap : Con := fun ds S P _ => match ds with
  | [x, y] => ∃ s t n, x = dQ s ∧ y = dQ t ∧ n ≤ 100000 ∧ Sz n s ∧ Sz n t ∧ P (.tup [.int (t.num * s.den - s.num * t.den), .int (s.den * t.den)]) S
  | _ => False
theorem m_law_gap {Γ : Gam} : Meets Γ 2 z_law_gap c_law_gap := by
  intro ds S P W h
  unfold c_law_gap at h
  split at h
  · obtain ⟨s, t, n, rfl, rfl, hn, hs, ht, hp⟩ := h
    change wZs Γ z_law_gap (retE P) [some (dQ s), some (dQ t)] S (errW W)
    dsimp only [z_law_gap]
    dsimp only [wZs, wZ, wE, wEs, wT, wTs, wI, lk, List.set, aTru, partS, List.take, List.drop]
    try simp only [true_and, q_add, q_sub, q_mul, q_div, q_mod, q_pow, q_lt, q_le, q_gt, q_ge, q_eq, q_ne, q_is, q_isnt, q_isntB, q_isB, q_tb, q_ti, q_tn, q_tt, q_ixQ0, q_ixQ1, q_ixS0, q_ixS1, q_eqQ, q_neQ, q_eqSp, q_neSp, q_eqB, q_neB, q_ixT, q_lenT, q_abs, q_intI, q_intB, q_min2, q_max2, at0, at1, at2, List.length_cons, List.length_nil, sizeLine_eq, Nat.reduceAdd, Nat.reduceLeDiff, true_and, Bool.not_true, Bool.not_false, Bool.false_eq_true, if_false, reduceIte, lk, List.set, whole_int, whole_bl, whole_tup, whole_non]
    have s1 := hs.bd; have t1 := ht.bd
    exact ⟨t1.1.ok s1.2 (by omega), s1.1.ok t1.2 (by omega), s1.2.ok t1.2 (by omega), ret_now hp⟩
  · exact h.elim
abbrev c_law_twice_2 : Con := c_twice_parts
theorem m_law_twice_2 {Γ : Gam} (h66 : Γ.fn 66 = c_law_gap) (a66 : Γ.ar 66 = 2) : Meets Γ 8 z_law_twice_2 c_law_twice_2 := by
  intro ds S P W h
  unfold c_law_twice_2 c_twice_parts at h
  split at h
  · obtain ⟨a, b, c, n, rfl, rfl, rfl, hn, ha, hb, hc, hp⟩ := h
    change wZs Γ z_law_twice_2 (retE P) [some (dS a), some (dS b), some (dS c), none, none, none, none, none] S (errW W)
    dsimp only [z_law_twice_2]
    dsimp only [wZs, wZ, wE, wEs, wT, wTs, wI, lk, List.set, aTru, partS, List.take, List.drop]
    try simp only [h66, a66, q_add, q_sub, q_mul, q_div, q_mod, q_pow, q_lt, q_le, q_gt, q_ge, q_eq, q_ne, q_is, q_isnt, q_isntB, q_isB, q_tb, q_ti, q_tn, q_tt, q_ixQ0, q_ixQ1, q_ixS0, q_ixS1, q_eqQ, q_neQ, q_eqSp, q_neSp, q_eqB, q_neB, q_ixT, q_lenT, q_abs, q_intI, q_intB, q_min2, q_max2, at0, at1, at2, List.length_cons, List.length_nil, sizeLine_eq, Nat.reduceAdd, Nat.reduceLeDiff, true_and, Bool.not_true, Bool.not_false, Bool.false_eq_true, if_false, reduceIte, lk, List.set, whole_int, whole_bl, whole_tup, whole_non]
    refine ⟨a.1, b.1, n, rfl, rfl, hn, ha.1, hb.1, a.2, b.2, n, rfl, rfl, hn, ha.2, hb.2, ?_⟩
    try simp only [true_and, q_add, q_sub, q_mul, q_div, q_mod, q_pow, q_lt, q_le, q_gt, q_ge, q_eq, q_ne, q_is, q_isnt, q_isntB, q_isB, q_tb, q_ti, q_tn, q_tt, q_ixQ0, q_ixQ1, q_ixS0, q_ixS1, q_eqQ, q_neQ, q_eqSp, q_neSp, q_eqB, q_neB, q_ixT, q_lenT, q_abs, q_intI, q_intB, q_min2, q_max2, at0, at1, at2, List.length_cons, List.length_nil, sizeLine_eq, Nat.reduceAdd, Nat.reduceLeDiff, true_and, Bool.not_true, Bool.not_false, Bool.false_eq_true, if_false, reduceIte, lk, List.set, whole_int, whole_bl, whole_tup, whole_non]
    refine ⟨a.1, c.1, n, rfl, rfl, hn, ha.1, hc.1, a.2, c.2, n, rfl, rfl, hn, ha.2, hc.2, ?_⟩
    try simp only [true_and, q_add, q_sub, q_mul, q_div, q_mod, q_pow, q_lt, q_le, q_gt, q_ge, q_eq, q_ne, q_is, q_isnt, q_isntB, q_isB, q_tb, q_ti, q_tn, q_tt, q_ixQ0, q_ixQ1, q_ixS0, q_ixS1, q_eqQ, q_neQ, q_eqSp, q_neSp, q_eqB, q_neB, q_ixT, q_lenT, q_abs, q_intI, q_intB, q_min2, q_max2, at0, at1, at2, List.length_cons, List.length_nil, sizeLine_eq, Nat.reduceAdd, Nat.reduceLeDiff, true_and, Bool.not_true, Bool.not_false, Bool.false_eq_true, if_false, reduceIte, lk, List.set, whole_int, whole_bl, whole_tup, whole_non]
    obtain ⟨g1, g2, g3, g4, g5, g6, g7, g8, g9⟩ := twp_mul hn ha hb hc
    have hp' := hp _ _ (twp_ok ha hb hc)
    have a1 := ha.1.bd; have a2 := ha.2.bd; have b1 := hb.1.bd; have b2 := hb.2.bd; have c1 := hc.1.bd; have c2 := hc.2.bd
    have r := (b1.1.mul a1.2).sub (a1.1.mul b1.2)
    have h := (c2.1.mul a2.2).sub (a2.1.mul c2.2)
    have q := (c1.1.mul a1.2).sub (a1.1.mul c1.2)
    have u := (b2.1.mul a2.2).sub (a2.1.mul b2.2)
    have d1 := a1.2.mul b1.2; have d2 := a2.2.mul c2.2; have d3 := a1.2.mul c1.2; have d4 := a2.2.mul b2.2
    refine ⟨r.ok h (by omega), (r.mul h).ok d4 (by omega), ((r.mul h).mul d4).ok d3 (by omega), q.ok u (by omega), (q.mul u).ok d1 (by omega), ((q.mul u).mul d1).ok d2 (by omega), d1.ok d2 (by omega), (d1.mul d2).ok d4 (by omega), ((d1.mul d2).mul d4).ok d3 (by omega), ret_now ?_⟩
    have e1 : (b.1.num * (a.1.den : Int) - a.1.num * b.1.den) * (c.2.num * a.2.den - a.2.num * c.2.den) * ((a.2.den : Int) * b.2.den) * ((a.1.den : Int) * c.1.den) - (c.1.num * (a.1.den : Int) - a.1.num * c.1.den) * (b.2.num * a.2.den - a.2.num * b.2.den) * ((a.1.den : Int) * b.1.den) * ((a.2.den : Int) * c.2.den)
        = (b.1.num * a.1.den - a.1.num * b.1.den) * (c.2.num * a.2.den - a.2.num * c.2.den) * (c.1.den * a.1.den) * (b.2.den * a.2.den) - (c.1.num * a.1.den - a.1.num * c.1.den) * (b.2.num * a.2.den - a.2.num * b.2.den) * (b.1.den * a.1.den) * (c.2.den * a.2.den) := by grind
    have e2 : ((a.1.den : Int) * b.1.den) * ((a.2.den : Int) * c.2.den) * ((a.2.den : Int) * b.2.den) * ((a.1.den : Int) * c.1.den) = (b.1.den * a.1.den) * (c.2.den * a.2.den) * (c.1.den * a.1.den) * (b.2.den * a.2.den) := by grind
    rw [e1, e2]
    exact hp'
  · exact h.elim
/-- three spots as one thing -/
abbrev Tri := Spot × Spot × Spot
def dTri (t : Tri) : D := .tup [dS t.1, dS t.2.1, dS t.2.2]
def pTri (t : Tri) : PyData := .tuple [pSp t.1, pSp t.2.1, pSp t.2.2]
theorem encTri : Enc dTri pTri 3 where
  pd g n a hn := by
    cases n with
    | zero => omega
    | succ n => unfold dTri; rw [pd_tup, pd_cons, pd_cons, pd_cons, encS.pd g n _ (by omega), encS.pd g n _ (by omega), encS.pd g n _ (by omega), pd_nil]; rfl
  ev a b := by
    unfold pTri
    rw [ev_tup, ev_cons, ev_cons, ev_cons, ev_nil, encS.ev, encS.ev, encS.ev, Bool.and_true]
    obtain ⟨a1, a2, a3⟩ := a
    obtain ⟨b1, b2, b3⟩ := b
    by_cases h1 : a1 = b1 <;> by_cases h2 : a2 = b2 <;> by_cases h3 : a3 = b3 <;> simp [h1, h2, h3]
def twT (t : Tri) : Rat := tw t.1 t.2.1 t.2.2
def SzT (n : Nat) (t : Tri) : Prop := SzS n t.1 ∧ SzS n t.2.1 ∧ SzS n t.2.2
theorem SzT.tw {n : Nat} {t : Tri} (h : SzT n t) : Sz (8 * n + 5) (twT t) := h.1.tw h.2.1 h.2.2
/-- half the sum of the twices -/
def c_signed_sum : Con := fun ds S P _ => match ds with
  | [.ref a] => ∃ (w : Bool) (l : List Tri), S a = some (.lst w (l.map dTri)) ∧ l.length ≤ sizeLine ∧ (∀ t ∈ l, SzT 540 t) ∧ (∀ k, Sz 4490 (qsum ((l.map twT).take k))) ∧ P (dQ (1 / 2 * qsum (l.map twT))) S
  | _ => False
theorem half_q : D.tup [.int 1, .int 2] = dQ (1 / 2) := by
  have : (1 / 2 : Rat).num = 1 ∧ (1 / 2 : Rat).den = 2 := by decide +kernel
  unfold dQ
  rw [this.1, this.2]
  rfl
theorem sz_half : Sz 2 (1 / 2) := by
  have : (1 / 2 : Rat).num = 1 ∧ (1 / 2 : Rat).den = 2 := by decide +kernel
  unfold Sz
  rw [this.1, this.2]
  decide
theorem m_signed_sum {Γ : Gam} (h16 : Γ.fn 16 = c_multiplied) (a16 : Γ.ar 16 = 2) (h18 : Γ.fn 18 = c_sum_ofT) (a18 : Γ.ar 18 = 1) (h45 : Γ.fn 45 = c_twice_of) (a45 : Γ.ar 45 = 3) : Meets Γ 4 z_signed_sum c_signed_sum := by
  intro ds S P W h
  unfold c_signed_sum at h
  split at h
  · rename_i a
    obtain ⟨w, l, e, hl, hz, hk, hp⟩ := h
    change wZs Γ z_signed_sum (retE P) [some (.ref a), none, none, none] S (errW W)
    dsimp only [z_signed_sum]
    dsimp only [wZs, wZ, wE, wEs, wT, wTs, wI, lk, List.set, aTru, partS, List.take, List.drop]
    try simp only [e, q_add, q_sub, q_mul, q_div, q_mod, q_pow, q_lt, q_le, q_gt, q_ge, q_eq, q_ne, q_is, q_isnt, q_isntB, q_isB, q_tb, q_ti, q_tn, q_tt, q_ixQ0, q_ixQ1, q_ixS0, q_ixS1, q_eqQ, q_neQ, q_eqSp, q_neSp, q_eqB, q_neB, q_ixT, q_lenT, q_abs, q_intI, q_intB, q_min2, q_max2, at0, at1, at2, List.length_cons, List.length_nil, sizeLine_eq, Nat.reduceAdd, Nat.reduceLeDiff, true_and, Bool.not_true, Bool.not_false, Bool.false_eq_true, if_false, reduceIte, lk, List.set, whole_int, whole_bl, whole_tup, whole_non]
    intro p np
    refine lc_enc dTri (fun t => dQ (twT t)) np e hl (fun t ht T K G hT hK => ?_) fun T hT eT => ?_
    · obtain ⟨h1, h2, h3⟩ := hz t ht
      try simp only [dTri, wipeD, h45, a45, q_add, q_sub, q_mul, q_div, q_mod, q_pow, q_lt, q_le, q_gt, q_ge, q_eq, q_ne, q_is, q_isnt, q_isntB, q_isB, q_tb, q_ti, q_tn, q_tt, q_ixQ0, q_ixQ1, q_ixS0, q_ixS1, q_eqQ, q_neQ, q_eqSp, q_neSp, q_eqB, q_neB, q_ixT, q_lenT, q_abs, q_intI, q_intB, q_min2, q_max2, at0, at1, at2, List.length_cons, List.length_nil, sizeLine_eq, Nat.reduceAdd, Nat.reduceLeDiff, true_and, Bool.not_true, Bool.not_false, Bool.false_eq_true, if_false, reduceIte, lk, List.set, whole_int, whole_bl, whole_tup, whole_non]
      exact ⟨_, _, _, rfl, rfl, rfl, h1.mono (by decide), h2.mono (by decide), h3.mono (by decide), hK T (Sto.le.refl _)⟩
    · have eT' : T p = some (.lst true ((l.map twT).map dQ)) := by
        rw [eT, List.map_map]
        rfl
      try simp only [h18, a18, h16, a16, q_add, q_sub, q_mul, q_div, q_mod, q_pow, q_lt, q_le, q_gt, q_ge, q_eq, q_ne, q_is, q_isnt, q_isntB, q_isB, q_tb, q_ti, q_tn, q_tt, q_ixQ0, q_ixQ1, q_ixS0, q_ixS1, q_eqQ, q_neQ, q_eqSp, q_neSp, q_eqB, q_neB, q_ixT, q_lenT, q_abs, q_intI, q_intB, q_min2, q_max2, at0, at1, at2, List.length_cons, List.length_nil, sizeLine_eq, Nat.reduceAdd, Nat.reduceLeDiff, true_and, Bool.not_true, Bool.not_false, Bool.false_eq_true, if_false, reduceIte, lk, List.set, whole_int, whole_bl, whole_tup, whole_non]
      refine ⟨true, l.map twT, eT', fun x hx => ?_, fun k => (hk k).mono (by decide), ?_⟩
      · obtain ⟨t, ht, rfl⟩ := List.mem_map.mp hx
        exact ((hz t ht).tw).mono (by decide)
      · rw [half_q]
        have h9 := hk (l.map twT).length
        rw [List.take_length] at h9
        exact multiplied_Q (sz_half.mono (by decide)) (h9.mono (by decide)) (ret_le hT hp)
  · exact h.elim
end Sd
namespace Sd
open PySem
/-! ### pieces -/
theorem wf_q_inv {S : Sto} {n : Nat} {x : Rat} (h : Wf S n (dQ x)) : Sz n x := ⟨h.1, h.2.1⟩
theorem wf_s_inv {S : Sto} {n : Nat} {s : Spot} (h : Wf S n (dS s)) : SzS n s := ⟨wf_q_inv h.1, wf_q_inv h.2.1⟩
def pieceP (d : D) : Prop := ∃ a b c, d = d3 a b c ∧ 0 < tw a b c
noncomputable instance pieceDec (d : D) : Decidable (pieceP d) := Classical.propDecidable _
noncomputable def pieceB (d : D) : Bool := decide (pieceP d)
theorem dQ_inj' {x y : Rat} (h : dQ x = dQ y) : x = y := by
  unfold dQ at h
  injection h with h
  injection h with h1 h
  injection h with h2 h
  injection h1 with h1
  injection h2 with h2
  exact dQ_inj.mp ⟨h1, h2⟩
theorem dS_inj {s t : Spot} (h : dS s = dS t) : s = t := by
  unfold dS at h
  injection h with h
  injection h with h1 h
  injection h with h2 h
  exact Prod.ext (dQ_inj' h1) (dQ_inj' h2)
theorem d3_inj {a b c a' b' c' : Spot} (h : d3 a b c = d3 a' b' c') : a = a' ∧ b = b' ∧ c = c' := by
  unfold d3 at h
  injection h with h
  injection h with h1 h
  injection h with h2 h
  injection h with h3 h
  exact ⟨dS_inj h1, dS_inj h2, dS_inj h3⟩
theorem pieceB_3 {a b c : Spot} : pieceB (d3 a b c) = decide (0 < tw a b c) := by
  unfold pieceB
  by_cases h : 0 < tw a b c
  · rw [decide_eq_true h]
    exact decide_eq_true ⟨a, b, c, rfl, h⟩
  · rw [decide_eq_false h]
    refine decide_eq_false fun ⟨a', b', c', e, h'⟩ => ?_
    obtain ⟨rfl, rfl, rfl⟩ := d3_inj e
    exact h h'
theorem pieceB_no {d : D} (h : ∀ a b c, d ≠ d3 a b c) : pieceB d = false := by
  unfold pieceB
  exact decide_eq_false fun ⟨a, b, c, e, _⟩ => h a b c e
/-- three things, all spots -/
theorem three_spots {x y z : D} (hx : spotB x = true) (hy : spotB y = true) (hz : spotB z = true) : ∃ a b c, D.tup [x, y, z] = d3 a b c := by
  obtain ⟨a, rfl⟩ := spotB_s.mp hx
  obtain ⟨b, rfl⟩ := spotB_s.mp hy
  obtain ⟨c, rfl⟩ := spotB_s.mp hz
  exact ⟨a, b, c, rfl⟩
theorem not_d3 {l : List D} (h : l.all spotB = false ∨ l.length ≠ 3) : ∀ a b c, D.tup l ≠ d3 a b c := by
  intro a b c e
  unfold d3 at e
  injection e with e
  subst e
  rcases h with h | h
  · simp only [List.all_cons, List.all_nil, spotB_s.mpr ⟨a, rfl⟩, spotB_s.mpr ⟨b, rfl⟩, spotB_s.mpr ⟨c, rfl⟩, Bool.and_self] at h
    cases h
  · exact h rfl
def c_is_piece : Con := fun ds S P _ => match ds with
  | [d] => (∃ n, n ≤ 100000 ∧ Wf S n d) ∧ P (.bl (pieceB d)) S
  | _ => False
theorem sgn_dec {x : Rat} : decide (sgn x = 1) = decide (0 < x) := decide_eq_decide.mpr sgn_pos
theorem m_is_piece {Γ : Gam} (h33 : Γ.fn 33 = c_is_spot) (a33 : Γ.ar 33 = 1) (h46 : Γ.fn 46 = c_turn_of) (a46 : Γ.ar 46 = 3) : Meets Γ 2 z_is_piece c_is_piece := by
  intro ds S P W h
  unfold c_is_piece at h
  split at h
  · rename_i d
    obtain ⟨⟨n, hn, hw⟩, hp⟩ := h
    change wZs Γ z_is_piece (retE P) [some d, none] S (errW W)
    dsimp only [z_is_piece]
    dsimp only [wZs, wZ, wE, wEs, wT, wTs, wI, lk, List.set, aTru, partS, List.take, List.drop]
    rcases hw.thing with ⟨l, rfl, hl⟩ | ⟨hd, hk⟩
    · try simp only [isi_tup, q_add, q_sub, q_mul, q_div, q_mod, q_pow, q_lt, q_le, q_gt, q_ge, q_eq, q_ne, q_is, q_isnt, q_isntB, q_isB, q_tb, q_ti, q_tn, q_tt, q_ixQ0, q_ixQ1, q_ixS0, q_ixS1, q_eqQ, q_neQ, q_eqSp, q_neSp, q_eqB, q_neB, q_ixT, q_lenT, q_abs, q_intI, q_intB, q_min2, q_max2, at0, at1, at2, List.length_cons, List.length_nil, sizeLine_eq, Nat.reduceAdd, Nat.reduceLeDiff, true_and, Bool.not_true, Bool.not_false, Bool.false_eq_true, if_false, reduceIte, lk, List.set, whole_int, whole_bl, whole_tup, whole_non]
      by_cases h3 : l.length = 3
      · have e3 : decide (((l.length : Nat) : Int) = 3) = true := decide_eq_true (by omega)
        try simp only [e3, q_add, q_sub, q_mul, q_div, q_mod, q_pow, q_lt, q_le, q_gt, q_ge, q_eq, q_ne, q_is, q_isnt, q_isntB, q_isB, q_tb, q_ti, q_tn, q_tt, q_ixQ0, q_ixQ1, q_ixS0, q_ixS1, q_eqQ, q_neQ, q_eqSp, q_neSp, q_eqB, q_neB, q_ixT, q_lenT, q_abs, q_intI, q_intB, q_min2, q_max2, at0, at1, at2, List.length_cons, List.length_nil, sizeLine_eq, Nat.reduceAdd, Nat.reduceLeDiff, true_and, Bool.not_true, Bool.not_false, Bool.false_eq_true, if_false, reduceIte, lk, List.set, whole_int, whole_bl, whole_tup, whole_non]
        intro p np
        refine lc_map (fun d => .bl (spotB d)) np trivial (by rw [h3, sizeLine_eq]; decide) (fun d hd T K G hT hK => ?_) fun T hT eT => ?_
        · try simp only [wipeD, h33, a33, q_add, q_sub, q_mul, q_div, q_mod, q_pow, q_lt, q_le, q_gt, q_ge, q_eq, q_ne, q_is, q_isnt, q_isntB, q_isB, q_tb, q_ti, q_tn, q_tt, q_ixQ0, q_ixQ1, q_ixS0, q_ixS1, q_eqQ, q_neQ, q_eqSp, q_neSp, q_eqB, q_neB, q_ixT, q_lenT, q_abs, q_intI, q_intB, q_min2, q_max2, at0, at1, at2, List.length_cons, List.length_nil, sizeLine_eq, Nat.reduceAdd, Nat.reduceLeDiff, true_and, Bool.not_true, Bool.not_false, Bool.false_eq_true, if_false, reduceIte, lk, List.set, whole_int, whole_bl, whole_tup, whole_non]
          exact ⟨⟨n, Wf.lw (lw_le hT) (Nat.le_refl _) d (wfs_mem.mp hl d hd)⟩, hK T (Sto.le.refl _)⟩
        · have eT' : T p = some (.lst true ((l.map spotB).map D.bl)) := by rw [eT, List.map_map]; rfl
          rw [q_all eT']
          have ea : (l.map spotB).all id = l.all spotB := by rw [List.all_map]; rfl
          rw [ea]
          try simp only [h46, a46, q_add, q_sub, q_mul, q_div, q_mod, q_pow, q_lt, q_le, q_gt, q_ge, q_eq, q_ne, q_is, q_isnt, q_isntB, q_isB, q_tb, q_ti, q_tn, q_tt, q_ixQ0, q_ixQ1, q_ixS0, q_ixS1, q_eqQ, q_neQ, q_eqSp, q_neSp, q_eqB, q_neB, q_ixT, q_lenT, q_abs, q_intI, q_intB, q_min2, q_max2, at0, at1, at2, List.length_cons, List.length_nil, sizeLine_eq, Nat.reduceAdd, Nat.reduceLeDiff, true_and, Bool.not_true, Bool.not_false, Bool.false_eq_true, if_false, reduceIte, lk, List.set, whole_int, whole_bl, whole_tup, whole_non]
          cases hs : l.all spotB with
          | false =>
            try simp only [true_and, q_add, q_sub, q_mul, q_div, q_mod, q_pow, q_lt, q_le, q_gt, q_ge, q_eq, q_ne, q_is, q_isnt, q_isntB, q_isB, q_tb, q_ti, q_tn, q_tt, q_ixQ0, q_ixQ1, q_ixS0, q_ixS1, q_eqQ, q_neQ, q_eqSp, q_neSp, q_eqB, q_neB, q_ixT, q_lenT, q_abs, q_intI, q_intB, q_min2, q_max2, at0, at1, at2, List.length_cons, List.length_nil, sizeLine_eq, Nat.reduceAdd, Nat.reduceLeDiff, true_and, Bool.not_true, Bool.not_false, Bool.false_eq_true, if_false, reduceIte, lk, List.set, whole_int, whole_bl, whole_tup, whole_non]
            rw [pieceB_no (not_d3 (.inl hs))] at hp
            exact ret_le hT hp
          | true =>
            try simp only [true_and, q_add, q_sub, q_mul, q_div, q_mod, q_pow, q_lt, q_le, q_gt, q_ge, q_eq, q_ne, q_is, q_isnt, q_isntB, q_isB, q_tb, q_ti, q_tn, q_tt, q_ixQ0, q_ixQ1, q_ixS0, q_ixS1, q_eqQ, q_neQ, q_eqSp, q_neSp, q_eqB, q_neB, q_ixT, q_lenT, q_abs, q_intI, q_intB, q_min2, q_max2, at0, at1, at2, List.length_cons, List.length_nil, sizeLine_eq, Nat.reduceAdd, Nat.reduceLeDiff, true_and, Bool.not_true, Bool.not_false, Bool.false_eq_true, if_false, reduceIte, lk, List.set, whole_int, whole_bl, whole_tup, whole_non]
            match l, h3 with
            | [x, y, z], _ =>
              simp only [List.all_cons, List.all_nil, Bool.and_true, Bool.and_eq_true] at hs
              obtain ⟨a, rfl⟩ := spotB_s.mp hs.1
              obtain ⟨b, rfl⟩ := spotB_s.mp hs.2.1
              obtain ⟨c, rfl⟩ := spotB_s.mp hs.2.2
              have hp' : P (.bl (decide (0 < tw a b c))) S := by
                have := hp
                rw [show D.tup [dS a, dS b, dS c] = d3 a b c from rfl, pieceB_3] at this
                exact this
              try simp only [true_and, q_add, q_sub, q_mul, q_div, q_mod, q_pow, q_lt, q_le, q_gt, q_ge, q_eq, q_ne, q_is, q_isnt, q_isntB, q_isB, q_tb, q_ti, q_tn, q_tt, q_ixQ0, q_ixQ1, q_ixS0, q_ixS1, q_eqQ, q_neQ, q_eqSp, q_neSp, q_eqB, q_neB, q_ixT, q_lenT, q_abs, q_intI, q_intB, q_min2, q_max2, at0, at1, at2, List.length_cons, List.length_nil, sizeLine_eq, Nat.reduceAdd, Nat.reduceLeDiff, true_and, Bool.not_true, Bool.not_false, Bool.false_eq_true, if_false, reduceIte, lk, List.set, whole_int, whole_bl, whole_tup, whole_non]
              refine ⟨a, b, c, n, rfl, rfl, rfl, hn, wf_s_inv hl.1, wf_s_inv hl.2.1, wf_s_inv hl.2.2.1, ?_⟩
              try simp only [true_and, q_add, q_sub, q_mul, q_div, q_mod, q_pow, q_lt, q_le, q_gt, q_ge, q_eq, q_ne, q_is, q_isnt, q_isntB, q_isB, q_tb, q_ti, q_tn, q_tt, q_ixQ0, q_ixQ1, q_ixS0, q_ixS1, q_eqQ, q_neQ, q_eqSp, q_neSp, q_eqB, q_neB, q_ixT, q_lenT, q_abs, q_intI, q_intB, q_min2, q_max2, at0, at1, at2, List.length_cons, List.length_nil, sizeLine_eq, Nat.reduceAdd, Nat.reduceLeDiff, true_and, Bool.not_true, Bool.not_false, Bool.false_eq_true, if_false, reduceIte, lk, List.set, whole_int, whole_bl, whole_tup, whole_non]
              rw [sgn_dec]
              exact ret_le hT hp'
      · have e3 : decide (((l.length : Nat) : Int) = 3) = false := decide_eq_false (by omega)
        rw [pieceB_no (not_d3 (.inr h3))] at hp
        try simp only [e3, q_add, q_sub, q_mul, q_div, q_mod, q_pow, q_lt, q_le, q_gt, q_ge, q_eq, q_ne, q_is, q_isnt, q_isntB, q_isB, q_tb, q_ti, q_tn, q_tt, q_ixQ0, q_ixQ1, q_ixS0, q_ixS1, q_eqQ, q_neQ, q_eqSp, q_neSp, q_eqB, q_neB, q_ixT, q_lenT, q_abs, q_intI, q_intB, q_min2, q_max2, at0, at1, at2, List.length_cons, List.length_nil, sizeLine_eq, Nat.reduceAdd, Nat.reduceLeDiff, true_and, Bool.not_true, Bool.not_false, Bool.false_eq_true, if_false, reduceIte, lk, List.set, whole_int, whole_bl, whole_tup, whole_non]
        exact ret_now hp
    · rw [pieceB_no (fun a b c e => hd _ e)] at hp
      try simp only [isi_not hk hd, q_add, q_sub, q_mul, q_div, q_mod, q_pow, q_lt, q_le, q_gt, q_ge, q_eq, q_ne, q_is, q_isnt, q_isntB, q_isB, q_tb, q_ti, q_tn, q_tt, q_ixQ0, q_ixQ1, q_ixS0, q_ixS1, q_eqQ, q_neQ, q_eqSp, q_neSp, q_eqB, q_neB, q_ixT, q_lenT, q_abs, q_intI, q_intB, q_min2, q_max2, at0, at1, at2, List.length_cons, List.length_nil, sizeLine_eq, Nat.reduceAdd, Nat.reduceLeDiff, true_and, Bool.not_true, Bool.not_false, Bool.false_eq_true, if_false, reduceIte, lk, List.set, whole_int, whole_bl, whole_tup, whole_non]
      exact ret_now hp
  · exact h.elim
def c_law_is_spot : Con := fun ds S P _ => match ds with
  | [d] => Wf S 8999 d ∧ P (.bl (spotB d)) S
  | _ => False
theorem m_law_is_spot {Γ : Gam} (h8 : Γ.fn 8 = c_law_is_fracT) (a8 : Γ.ar 8 = 1) : Meets Γ 1 z_law_is_spot c_law_is_spot := by
  intro ds S P W h
  unfold c_law_is_spot at h
  split at h
  · rename_i d
    obtain ⟨hw, hp⟩ := h
    change wZs Γ z_law_is_spot (retE P) [some d] S (errW W)
    dsimp only [z_law_is_spot]
    dsimp only [wZs, wZ, wE, wEs, wT, wTs, wI, lk, List.set, aTru, partS, List.take, List.drop]
    rcases hw.thing with ⟨l, rfl, hl⟩ | ⟨hd, hk⟩
    · try simp only [isi_tup, q_add, q_sub, q_mul, q_div, q_mod, q_pow, q_lt, q_le, q_gt, q_ge, q_eq, q_ne, q_is, q_isnt, q_isntB, q_isB, q_tb, q_ti, q_tn, q_tt, q_ixQ0, q_ixQ1, q_ixS0, q_ixS1, q_eqQ, q_neQ, q_eqSp, q_neSp, q_eqB, q_neB, q_ixT, q_lenT, q_abs, q_intI, q_intB, q_min2, q_max2, at0, at1, at2, List.length_cons, List.length_nil, sizeLine_eq, Nat.reduceAdd, Nat.reduceLeDiff, true_and, Bool.not_true, Bool.not_false, Bool.false_eq_true, if_false, reduceIte, lk, List.set, whole_int, whole_bl, whole_tup, whole_non]
      by_cases h2 : l.length = 2
      · match l, h2 with
        | [x, y], _ =>
          have e2 : decide (((2 : Nat) : Int) = 2) = true := rfl
          try simp only [e2, h8, a8, c_law_is_fracT, q_add, q_sub, q_mul, q_div, q_mod, q_pow, q_lt, q_le, q_gt, q_ge, q_eq, q_ne, q_is, q_isnt, q_isntB, q_isB, q_tb, q_ti, q_tn, q_tt, q_ixQ0, q_ixQ1, q_ixS0, q_ixS1, q_eqQ, q_neQ, q_eqSp, q_neSp, q_eqB, q_neB, q_ixT, q_lenT, q_abs, q_intI, q_intB, q_min2, q_max2, at0, at1, at2, List.length_cons, List.length_nil, sizeLine_eq, Nat.reduceAdd, Nat.reduceLeDiff, true_and, Bool.not_true, Bool.not_false, Bool.false_eq_true, if_false, reduceIte, lk, List.set, whole_int, whole_bl, whole_tup, whole_non]
          refine ⟨hl.1, ?_⟩
          cases hx : fracB x
          · have e1 : spotB (.tup [x, y]) = false := by simp only [spotB, hx, Bool.false_and]
            rw [e1] at hp
            exact ret_now hp
          · refine ⟨hl.2.1, ?_⟩
            have e1 : spotB (.tup [x, y]) = fracB y := by simp only [spotB, hx, Bool.true_and]
            rw [e1] at hp
            exact ret_now hp
      · rw [spotB_len h2] at hp
        rw [decide_eq_false (fun z : ((l.length : Nat) : Int) = 2 => h2 (by omega))]
        exact ret_now hp
    · have e1 : spotB d = false := by
        cases d <;> first | rfl | exact (hd _ rfl).elim
      rw [e1] at hp
      try simp only [isi_not hk hd, q_add, q_sub, q_mul, q_div, q_mod, q_pow, q_lt, q_le, q_gt, q_ge, q_eq, q_ne, q_is, q_isnt, q_isntB, q_isB, q_tb, q_ti, q_tn, q_tt, q_ixQ0, q_ixQ1, q_ixS0, q_ixS1, q_eqQ, q_neQ, q_eqSp, q_neSp, q_eqB, q_neB, q_ixT, q_lenT, q_abs, q_intI, q_intB, q_min2, q_max2, at0, at1, at2, List.length_cons, List.length_nil, sizeLine_eq, Nat.reduceAdd, Nat.reduceLeDiff, true_and, Bool.not_true, Bool.not_false, Bool.false_eq_true, if_false, reduceIte, lk, List.set, whole_int, whole_bl, whole_tup, whole_non]
      exact ret_now hp
  · exact h.elim
def c_law_is_2 : Con := fun ds S P _ => match ds with
  | [d] => Wf S 8999 d ∧ P (.bl (pieceB d)) S
  | _ => False
theorem m_law_is_2 {Γ : Gam} (h73 : Γ.fn 73 = c_law_is_spot) (a73 : Γ.ar 73 = 1) (h50 : Γ.fn 50 = c_law_turn) (a50 : Γ.ar 50 = 3) : Meets Γ 2 z_law_is_2 c_law_is_2 := by
  intro ds S P W h
  unfold c_law_is_2 at h
  split at h
  · rename_i d
    obtain ⟨hw, hp⟩ := h
    change wZs Γ z_law_is_2 (retE P) [some d, none] S (errW W)
    dsimp only [z_law_is_2]
    dsimp only [wZs, wZ, wE, wEs, wT, wTs, wI, lk, List.set, aTru, partS, List.take, List.drop]
    rcases hw.thing with ⟨l, rfl, hl⟩ | ⟨hd, hk⟩
    · try simp only [isi_tup, q_add, q_sub, q_mul, q_div, q_mod, q_pow, q_lt, q_le, q_gt, q_ge, q_eq, q_ne, q_is, q_isnt, q_isntB, q_isB, q_tb, q_ti, q_tn, q_tt, q_ixQ0, q_ixQ1, q_ixS0, q_ixS1, q_eqQ, q_neQ, q_eqSp, q_neSp, q_eqB, q_neB, q_ixT, q_lenT, q_abs, q_intI, q_intB, q_min2, q_max2, at0, at1, at2, List.length_cons, List.length_nil, sizeLine_eq, Nat.reduceAdd, Nat.reduceLeDiff, true_and, Bool.not_true, Bool.not_false, Bool.false_eq_true, if_false, reduceIte, lk, List.set, whole_int, whole_bl, whole_tup, whole_non]
      by_cases h3 : l.length = 3
      · have e3 : decide (((l.length : Nat) : Int) = 3) = true := decide_eq_true (by omega)
        try simp only [e3, q_add, q_sub, q_mul, q_div, q_mod, q_pow, q_lt, q_le, q_gt, q_ge, q_eq, q_ne, q_is, q_isnt, q_isntB, q_isB, q_tb, q_ti, q_tn, q_tt, q_ixQ0, q_ixQ1, q_ixS0, q_ixS1, q_eqQ, q_neQ, q_eqSp, q_neSp, q_eqB, q_neB, q_ixT, q_lenT, q_abs, q_intI, q_intB, q_min2, q_max2, at0, at1, at2, List.length_cons, List.length_nil, sizeLine_eq, Nat.reduceAdd, Nat.reduceLeDiff, true_and, Bool.not_true, Bool.not_false, Bool.false_eq_true, if_false, reduceIte, lk, List.set, whole_int, whole_bl, whole_tup, whole_non]
        intro p np
        refine lc_filt id (fun d => !spotB d) np trivial (by rw [h3, sizeLine_eq]; decide) (fun d hd T K G hT hK hG => ?_) fun T hT eT => ?_
        · try simp only [wipeD, h73, a73, q_add, q_sub, q_mul, q_div, q_mod, q_pow, q_lt, q_le, q_gt, q_ge, q_eq, q_ne, q_is, q_isnt, q_isntB, q_isB, q_tb, q_ti, q_tn, q_tt, q_ixQ0, q_ixQ1, q_ixS0, q_ixS1, q_eqQ, q_neQ, q_eqSp, q_neSp, q_eqB, q_neB, q_ixT, q_lenT, q_abs, q_intI, q_intB, q_min2, q_max2, at0, at1, at2, List.length_cons, List.length_nil, sizeLine_eq, Nat.reduceAdd, Nat.reduceLeDiff, true_and, Bool.not_true, Bool.not_false, Bool.false_eq_true, if_false, reduceIte, lk, List.set, whole_int, whole_bl, whole_tup, whole_non]
          refine ⟨Wf.lw (lw_le hT) (Nat.le_refl _) d (wfs_mem.mp hl d hd), ?_⟩
          cases hs : spotB d with
          | true =>
            try simp only [true_and, q_add, q_sub, q_mul, q_div, q_mod, q_pow, q_lt, q_le, q_gt, q_ge, q_eq, q_ne, q_is, q_isnt, q_isntB, q_isB, q_tb, q_ti, q_tn, q_tt, q_ixQ0, q_ixQ1, q_ixS0, q_ixS1, q_eqQ, q_neQ, q_eqSp, q_neSp, q_eqB, q_neB, q_ixT, q_lenT, q_abs, q_intI, q_intB, q_min2, q_max2, at0, at1, at2, List.length_cons, List.length_nil, sizeLine_eq, Nat.reduceAdd, Nat.reduceLeDiff, true_and, Bool.not_true, Bool.not_false, Bool.false_eq_true, if_false, reduceIte, lk, List.set, whole_int, whole_bl, whole_tup, whole_non]
            exact hG (by rw [hs]; rfl) T (Sto.le.refl _)
          | false =>
            try simp only [true_and, q_add, q_sub, q_mul, q_div, q_mod, q_pow, q_lt, q_le, q_gt, q_ge, q_eq, q_ne, q_is, q_isnt, q_isntB, q_isB, q_tb, q_ti, q_tn, q_tt, q_ixQ0, q_ixQ1, q_ixS0, q_ixS1, q_eqQ, q_neQ, q_eqSp, q_neSp, q_eqB, q_neB, q_ixT, q_lenT, q_abs, q_intI, q_intB, q_min2, q_max2, at0, at1, at2, List.length_cons, List.length_nil, sizeLine_eq, Nat.reduceAdd, Nat.reduceLeDiff, true_and, Bool.not_true, Bool.not_false, Bool.false_eq_true, if_false, reduceIte, lk, List.set, whole_int, whole_bl, whole_tup, whole_non]
            exact hK (by rw [hs]; rfl) T (Sto.le.refl _)
        · rw [List.map_id] at eT
          try simp only [true_and, q_add, q_sub, q_mul, q_div, q_mod, q_pow, q_lt, q_le, q_gt, q_ge, q_eq, q_ne, q_is, q_isnt, q_isntB, q_isB, q_tb, q_ti, q_tn, q_tt, q_ixQ0, q_ixQ1, q_ixS0, q_ixS1, q_eqQ, q_neQ, q_eqSp, q_neSp, q_eqB, q_neB, q_ixT, q_lenT, q_abs, q_intI, q_intB, q_min2, q_max2, at0, at1, at2, List.length_cons, List.length_nil, sizeLine_eq, Nat.reduceAdd, Nat.reduceLeDiff, true_and, Bool.not_true, Bool.not_false, Bool.false_eq_true, if_false, reduceIte, lk, List.set, whole_int, whole_bl, whole_tup, whole_non]
          intro p2 np2
          have l2 := up_ls (o := .lst true []) np2
          refine (q_neN (m := []) (l2 _ _ eT) up_same).mpr (.inl ?_)
          have ee : (!(l.filter fun d => !spotB d).isEmpty) = !l.all spotB := by
            match l, h3 with
            | [x, y, z], _ =>
              cases hx : spotB x <;> cases hy : spotB y <;> cases hz : spotB z <;> simp [hx, hy, hz]
          rw [ee]
          try simp only [h50, a50, q_add, q_sub, q_mul, q_div, q_mod, q_pow, q_lt, q_le, q_gt, q_ge, q_eq, q_ne, q_is, q_isnt, q_isntB, q_isB, q_tb, q_ti, q_tn, q_tt, q_ixQ0, q_ixQ1, q_ixS0, q_ixS1, q_eqQ, q_neQ, q_eqSp, q_neSp, q_eqB, q_neB, q_ixT, q_lenT, q_abs, q_intI, q_intB, q_min2, q_max2, at0, at1, at2, List.length_cons, List.length_nil, sizeLine_eq, Nat.reduceAdd, Nat.reduceLeDiff, true_and, Bool.not_true, Bool.not_false, Bool.false_eq_true, if_false, reduceIte, lk, List.set, whole_int, whole_bl, whole_tup, whole_non]
          cases hs : l.all spotB with
          | false =>
            try simp only [true_and, q_add, q_sub, q_mul, q_div, q_mod, q_pow, q_lt, q_le, q_gt, q_ge, q_eq, q_ne, q_is, q_isnt, q_isntB, q_isB, q_tb, q_ti, q_tn, q_tt, q_ixQ0, q_ixQ1, q_ixS0, q_ixS1, q_eqQ, q_neQ, q_eqSp, q_neSp, q_eqB, q_neB, q_ixT, q_lenT, q_abs, q_intI, q_intB, q_min2, q_max2, at0, at1, at2, List.length_cons, List.length_nil, sizeLine_eq, Nat.reduceAdd, Nat.reduceLeDiff, true_and, Bool.not_true, Bool.not_false, Bool.false_eq_true, if_false, reduceIte, lk, List.set, whole_int, whole_bl, whole_tup, whole_non]
            rw [pieceB_no (not_d3 (.inl hs))] at hp
            exact ret_le (hT.trans l2) hp
          | true =>
            try simp only [true_and, q_add, q_sub, q_mul, q_div, q_mod, q_pow, q_lt, q_le, q_gt, q_ge, q_eq, q_ne, q_is, q_isnt, q_isntB, q_isB, q_tb, q_ti, q_tn, q_tt, q_ixQ0, q_ixQ1, q_ixS0, q_ixS1, q_eqQ, q_neQ, q_eqSp, q_neSp, q_eqB, q_neB, q_ixT, q_lenT, q_abs, q_intI, q_intB, q_min2, q_max2, at0, at1, at2, List.length_cons, List.length_nil, sizeLine_eq, Nat.reduceAdd, Nat.reduceLeDiff, true_and, Bool.not_true, Bool.not_false, Bool.false_eq_true, if_false, reduceIte, lk, List.set, whole_int, whole_bl, whole_tup, whole_non]
            match l, h3 with
            | [x, y, z], _ =>
              simp only [List.all_cons, List.all_nil, Bool.and_true, Bool.and_eq_true] at hs
              obtain ⟨a, rfl⟩ := spotB_s.mp hs.1
              obtain ⟨b, rfl⟩ := spotB_s.mp hs.2.1
              obtain ⟨c, rfl⟩ := spotB_s.mp hs.2.2
              have hp' : P (.bl (decide (0 < tw a b c))) S := by
                have := hp
                rw [show D.tup [dS a, dS b, dS c] = d3 a b c from rfl, pieceB_3] at this
                exact this
              try simp only [true_and, q_add, q_sub, q_mul, q_div, q_mod, q_pow, q_lt, q_le, q_gt, q_ge, q_eq, q_ne, q_is, q_isnt, q_isntB, q_isB, q_tb, q_ti, q_tn, q_tt, q_ixQ0, q_ixQ1, q_ixS0, q_ixS1, q_eqQ, q_neQ, q_eqSp, q_neSp, q_eqB, q_neB, q_ixT, q_lenT, q_abs, q_intI, q_intB, q_min2, q_max2, at0, at1, at2, List.length_cons, List.length_nil, sizeLine_eq, Nat.reduceAdd, Nat.reduceLeDiff, true_and, Bool.not_true, Bool.not_false, Bool.false_eq_true, if_false, reduceIte, lk, List.set, whole_int, whole_bl, whole_tup, whole_non]
              refine ⟨a, b, c, 8999, rfl, rfl, rfl, by decide, wf_s_inv hl.1, wf_s_inv hl.2.1, wf_s_inv hl.2.2.1, ?_⟩
              try simp only [true_and, q_add, q_sub, q_mul, q_div, q_mod, q_pow, q_lt, q_le, q_gt, q_ge, q_eq, q_ne, q_is, q_isnt, q_isntB, q_isB, q_tb, q_ti, q_tn, q_tt, q_ixQ0, q_ixQ1, q_ixS0, q_ixS1, q_eqQ, q_neQ, q_eqSp, q_neSp, q_eqB, q_neB, q_ixT, q_lenT, q_abs, q_intI, q_intB, q_min2, q_max2, at0, at1, at2, List.length_cons, List.length_nil, sizeLine_eq, Nat.reduceAdd, Nat.reduceLeDiff, true_and, Bool.not_true, Bool.not_false, Bool.false_eq_true, if_false, reduceIte, lk, List.set, whole_int, whole_bl, whole_tup, whole_non]
              rw [sgn_dec]
              exact ret_le (hT.trans l2) hp'
      · have e3 : decide (((l.length : Nat) : Int) = 3) = false := decide_eq_false (by omega)
        rw [pieceB_no (not_d3 (.inr h3))] at hp
        try simp only [e3, q_add, q_sub, q_mul, q_div, q_mod, q_pow, q_lt, q_le, q_gt, q_ge, q_eq, q_ne, q_is, q_isnt, q_isntB, q_isB, q_tb, q_ti, q_tn, q_tt, q_ixQ0, q_ixQ1, q_ixS0, q_ixS1, q_eqQ, q_neQ, q_eqSp, q_neSp, q_eqB, q_neB, q_ixT, q_lenT, q_abs, q_intI, q_intB, q_min2, q_max2, at0, at1, at2, List.length_cons, List.length_nil, sizeLine_eq, Nat.reduceAdd, Nat.reduceLeDiff, true_and, Bool.not_true, Bool.not_false, Bool.false_eq_true, if_false, reduceIte, lk, List.set, whole_int, whole_bl, whole_tup, whole_non]
        exact ret_now hp
    · rw [pieceB_no (fun a b c e => hd _ e)] at hp
      try simp only [isi_not hk hd, q_add, q_sub, q_mul, q_div, q_mod, q_pow, q_lt, q_le, q_gt, q_ge, q_eq, q_ne, q_is, q_isnt, q_isntB, q_isB, q_tb, q_ti, q_tn, q_tt, q_ixQ0, q_ixQ1, q_ixS0, q_ixS1, q_eqQ, q_neQ, q_eqSp, q_neSp, q_eqB, q_neB, q_ixT, q_lenT, q_abs, q_intI, q_intB, q_min2, q_max2, at0, at1, at2, List.length_cons, List.length_nil, sizeLine_eq, Nat.reduceAdd, Nat.reduceLeDiff, true_and, Bool.not_true, Bool.not_false, Bool.false_eq_true, if_false, reduceIte, lk, List.set, whole_int, whole_bl, whole_tup, whole_non]
      exact ret_now hp
  · exact h.elim
end Sd
namespace Sd
open PySem
/-- a list of things joined with another one -/
theorem cat_wf {S : Sto} {p q : Addr} {l m : List D} {w v : Bool} {n : Nat} {K : PD} (e1 : S p = some (.lst w l)) (e2 : S q = some (.lst v m)) (hl : Wfs S n l) (hm : Wfs S n m) (hz : l.length + m.length ≤ 1000)
    (hK : ∀ r S', S r = none → Sto.le S S' → S' r = some (.lst true (l ++ m)) → Wfs S' n (l ++ m) → K (.ref r) S') : opS .Add (.ref p) (.ref q) S K := by
  rw [q_cat, e1, e2]
  refine ⟨by rw [sizeLine_eq]; omega, fun r nr => ?_⟩
  have lr := up_ls (o := .lst true (l ++ m)) nr
  exact hK r _ nr lr up_same ((Wfs.lw (lw_le lr) (Nat.le_refl _) _ hl).app (Wfs.lw (lw_le lr) (Nat.le_refl _) _ hm))
def c_law_bad_spot : Con := fun ds S P _ => match ds with
  | [.ref a, d] => ∃ s n, d = dS s ∧ SzS 100 s ∧ Row S a n ∧ n < 2 ^ 45 ∧ ∀ t S', Wf S' 300 t → Row S' a (n + 2) → Rowed S S' a → P t S'
  | _ => False
theorem m_law_bad_spot {Γ : Gam} (h0 : Γ.fn 0 = c_law_take_2) (a0 : Γ.ar 0 = 2) : Meets Γ 6 z_law_bad_spot c_law_bad_spot := by
  intro ds S P W h
  unfold c_law_bad_spot at h
  split at h
  · rename_i a d
    obtain ⟨⟨x, y⟩, n, rfl, ⟨hx, hy⟩, r, hn, h⟩ := h
    change wZs Γ z_law_bad_spot (retE P) [some (.ref a), some (.tup [dQ x, dQ y]), none, none, none, none] S (errW W)
    dsimp only [z_law_bad_spot]
    dsimp only [wZs, wZ, wE, wEs, wT, wTs, wI, lk, List.set, aTru, partS, List.take, List.drop]
    try simp only [h0, a0, q_add, q_sub, q_mul, q_div, q_mod, q_pow, q_lt, q_le, q_gt, q_ge, q_eq, q_ne, q_is, q_isnt, q_isntB, q_isB, q_tb, q_ti, q_tn, q_tt, q_ixQ0, q_ixQ1, q_ixS0, q_ixS1, q_eqQ, q_neQ, q_eqSp, q_neSp, q_eqB, q_neB, q_ixT, q_lenT, q_abs, q_intI, q_intB, q_min2, q_max2, at0, at1, at2, List.length_cons, List.length_nil, sizeLine_eq, Nat.reduceAdd, Nat.reduceLeDiff, true_and, Bool.not_true, Bool.not_false, Bool.false_eq_true, if_false, reduceIte, lk, List.set, whole_int, whole_bl, whole_tup, whole_non]
    refine take_row r (by omega) (by decide) fun k S1 k0 k5 r1 o1 => ?_
    have b3 : Bd 3 (2 + k) := by unfold Bd; omega
    have X1 := hx.bd; have Y1 := hy.bd
    have O1 : Bd 300 1 := by unfold Bd; decide
    have O0 : Bd 300 0 := by unfold Bd; decide
    have WX : ∀ {T}, Wf T 300 (dQ x) := wf_q (hx.mono (by decide))
    have WY : ∀ {T}, Wf T 300 (dQ y) := wf_q (hy.mono (by decide))
    have U : ∀ {i : Int}, Bd 100 i → Bd 300 i := fun h => h.mono (by decide)
    have M1 : Bd 300 (x.num * (2 + k)) := (X1.1.mul b3).mono (by decide)
    have M2 : Bd 300 ((x.den : Int) * (2 + k)) := (X1.2.mul b3).mono (by decide)
    try simp only [true_and, q_add, q_sub, q_mul, q_div, q_mod, q_pow, q_lt, q_le, q_gt, q_ge, q_eq, q_ne, q_is, q_isnt, q_isntB, q_isB, q_tb, q_ti, q_tn, q_tt, q_ixQ0, q_ixQ1, q_ixS0, q_ixS1, q_eqQ, q_neQ, q_eqSp, q_neSp, q_eqB, q_neB, q_ixT, q_lenT, q_abs, q_intI, q_intB, q_min2, q_max2, at0, at1, at2, List.length_cons, List.length_nil, sizeLine_eq, Nat.reduceAdd, Nat.reduceLeDiff, true_and, Bool.not_true, Bool.not_false, Bool.false_eq_true, if_false, reduceIte, lk, List.set, whole_int, whole_bl, whole_tup, whole_non]
    intro p1 n1
    have l1 := up_ls (o := .lst true [dQ x, dQ y]) n1
    refine ⟨X1.1.ok b3 (by decide), X1.2.ok b3 (by decide), fun p2 n2 => ?_⟩
    generalize hA : [D.non, dQ x, .ref p1, .tup [dQ x], .tup [dQ x, dQ y, dQ x], .tup [.int x.num, .int y.num], .tup [.tup [.int (x.num * (2 + k)), .int ((x.den : Int) * (2 + k))], dQ y], .tup [dQ x, .tup [.int y.num, .int (0 - y.den)]], .str "0,0"] = LA at *
    have l2 := up_ls (o := .lst true LA) n2
    intro p3 n3
    generalize hB : [D.tup [.tup [.bl true, .int 1], dQ y], .tup [dQ x, .tup [.int y.num, .bl true]], .tup [dQ x, .non], .int 0] = LB at *
    have l3 := up_ls (o := .lst true LB) n3
    have wA : ∀ T : Sto, T p1 = some (.lst true [dQ x, dQ y]) → Wfs T 300 LA := by
      intro T eT
      rw [← hA]
      simp only [Wfs, Wf, and_true, true_and]
      exact ⟨WX, ⟨true, _, eT⟩, WX, ⟨WX, WY, WX⟩, ⟨U X1.1, U Y1.1⟩, ⟨⟨M1, M2⟩, WY⟩, WX, U Y1.1, (U Y1.2).neg⟩
    have wB : ∀ T : Sto, Wfs T 300 LB := by
      intro T
      rw [← hB]
      simp only [Wfs, Wf, and_true, true_and]
      exact ⟨⟨O1, WY⟩, ⟨WX, U Y1.1⟩, WX, O0⟩
    have lenA : LA.length = 9 := by rw [← hA]; rfl
    have lenB : LB.length = 4 := by rw [← hB]; rfl
    refine cat_wf (l3 _ _ up_same) up_same (wA _ (l3 _ _ (l2 _ _ up_same))) (wB _) (by omega) fun q S2 nq lq eq wq => ?_
    have L := l1.trans (l2.trans (l3.trans lq))
    have dq : q ≠ a := (((r1.le l1).le l2).le l3).ne nq
    exact pick_wf (m := 300) (n := n + 1) (r1.le L) (by omega) eq dq (by rw [List.length_append]; omega) (by rw [List.length_append]; omega) wq fun d S3 hd r3 o3 => ret_now (h d S3 hd (r3.mono (by omega)) (o1.trans ((le_rowed L).trans o3)))
  · exact h.elim
theorem wfs_one {S : Sto} {n : Nat} {d : D} (h : Wf S n d) : Wfs S n [d] := ⟨h, trivial⟩
theorem wfs_cut {S : Sto} {n : Nat} {l : List D} (h : Wfs S n l) (lo hi : Option Int) : Wfs S n (cutD l lo hi) := by
  rw [wfs_mem] at *
  intro d hd
  unfold cutD at hd
  exact h d (List.mem_of_mem_drop (List.mem_of_mem_take hd))
theorem cut_len {l : List D} (lo hi : Option Int) : (cutD l lo hi).length ≤ l.length := by
  unfold cutD
  rw [List.length_take, List.length_drop]
  omega
theorem pick3 {x y z : D} : pickT [x, y, z] none (-1) = [z, y, x] := by
  unfold pickT
  have e1 : Builtin.Slice.sliceAdjust none none (-1) (([x, y, z].length : Nat) : Int) = (2, -1) := by
    show Builtin.Slice.sliceAdjust none none (-1) ((3 : Nat) : Int) = _
    decide
  rw [e1]
  have e2 : Builtin.Slice.slicePlaces 2 (-1) (-1) = 3 := by decide
  show (List.range (Builtin.Slice.slicePlaces 2 (-1) (-1))).filterMap _ = _
  rw [e2]
  rfl
theorem at_any3 {s t u : Spot} {k : Int} (h0 : -3 ≤ k) (h1 : k < 3) (hs : SzS 100 s) (ht : SzS 100 t) (hu : SzS 100 u) : ∃ x : Spot, L2.atI [dS s, dS t, dS u] k = some (dS x) ∧ SzS 100 x := by
  have : k = -3 ∨ k = -2 ∨ k = -1 ∨ k = 0 ∨ k = 1 ∨ k = 2 := by omega
  rcases this with rfl | rfl | rfl | rfl | rfl | rfl
  · exact ⟨s, rfl, hs⟩
  · exact ⟨t, rfl, ht⟩
  · exact ⟨u, rfl, hu⟩
  · exact ⟨s, at0, hs⟩
  · exact ⟨t, at1, ht⟩
  · exact ⟨u, at2, hu⟩
def c_law_thing_3 : Con := fun ds S P _ => match ds with
  | [.ref a, f] => ∃ s t u n, f = d3 s t u ∧ SzS 100 s ∧ SzS 100 t ∧ SzS 100 u ∧ Row S a n ∧ n < 2 ^ 40 ∧ ∀ d S', Wf S' 300 d → Row S' a (n + 8) → Rowed S S' a → P d S'
  | _ => False
theorem m_law_thing_3 {Γ : Gam} (h0 : Γ.fn 0 = c_law_take_2) (a0 : Γ.ar 0 = 2) (h69 : Γ.fn 69 = c_law_mid) (a69 : Γ.ar 69 = 2) (h93 : Γ.fn 93 = c_law_bad_spot) (a93 : Γ.ar 93 = 2) : Meets Γ 8 z_law_thing_3 c_law_thing_3 := by
  intro ds S P W h
  unfold c_law_thing_3 at h
  split at h
  · rename_i a f
    obtain ⟨s, t, u, n, rfl, hs, ht, hu, r, hn, h⟩ := h
    change wZs Γ z_law_thing_3 (retE P) [some (.ref a), some (d3 s t u), none, none, none, none, none, none] S (errW W)
    refine cut 3 (fun ρ S' => ∃ k x y z m, ρ = [some (.ref a), some (d3 s t u), some (.int k), some (dS x), some (dS y), some (dS z), some (dS m), none] ∧ Row S' a (n + 3) ∧ Rowed S S' a ∧ 0 ≤ k ∧ k < 3 ∧ SzS 100 x ∧ SzS 100 y ∧ SzS 100 z ∧ SzS 300 m) (fun G hG => ?_) ?_
    · dsimp only [z_law_thing_3]
      dsimp only [wZs, wZ, wE, wEs, wT, wTs, wI, lk, List.set, aTru, partS, List.take, List.drop]
      try simp only [h0, a0, q_add, q_sub, q_mul, q_div, q_mod, q_pow, q_lt, q_le, q_gt, q_ge, q_eq, q_ne, q_is, q_isnt, q_isntB, q_isB, q_tb, q_ti, q_tn, q_tt, q_ixQ0, q_ixQ1, q_ixS0, q_ixS1, q_eqQ, q_neQ, q_eqSp, q_neSp, q_eqB, q_neB, q_ixT, q_lenT, q_abs, q_intI, q_intB, q_min2, q_max2, at0, at1, at2, List.length_cons, List.length_nil, sizeLine_eq, Nat.reduceAdd, Nat.reduceLeDiff, true_and, Bool.not_true, Bool.not_false, Bool.false_eq_true, if_false, reduceIte, lk, List.set, whole_int, whole_bl, whole_tup, whole_non]
      refine take_row r (by omega) (by decide) fun k S1 k0 k1 r1 o1 => ?_
      obtain ⟨x, ex, hx⟩ := at_any3 (k := k - 2) (by omega) (by omega) hs ht hu
      obtain ⟨y, ey, hy⟩ := at_any3 (k := k - 1) (by omega) (by omega) hs ht hu
      obtain ⟨z, ez, hz⟩ := at_any3 (k := k) (by omega) (by omega) hs ht hu
      try simp only [d3, ex, ey, ez, q_add, q_sub, q_mul, q_div, q_mod, q_pow, q_lt, q_le, q_gt, q_ge, q_eq, q_ne, q_is, q_isnt, q_isntB, q_isB, q_tb, q_ti, q_tn, q_tt, q_ixQ0, q_ixQ1, q_ixS0, q_ixS1, q_eqQ, q_neQ, q_eqSp, q_neSp, q_eqB, q_neB, q_ixT, q_lenT, q_abs, q_intI, q_intB, q_min2, q_max2, at0, at1, at2, List.length_cons, List.length_nil, sizeLine_eq, Nat.reduceAdd, Nat.reduceLeDiff, true_and, Bool.not_true, Bool.not_false, Bool.false_eq_true, if_false, reduceIte, lk, List.set, whole_int, whole_bl, whole_tup, whole_non]
      intro p np
      have lp := up_ls (o := .lst true [dS x, dS y]) np
      have dp := r1.ne np
      refine take_row (r1.le lp) (by omega) (by decide) fun k2 S2 k20 k21 r2 o2 => ?_
      try simp only [true_and, q_add, q_sub, q_mul, q_div, q_mod, q_pow, q_lt, q_le, q_gt, q_ge, q_eq, q_ne, q_is, q_isnt, q_isntB, q_isB, q_tb, q_ti, q_tn, q_tt, q_ixQ0, q_ixQ1, q_ixS0, q_ixS1, q_eqQ, q_neQ, q_eqSp, q_neSp, q_eqB, q_neB, q_ixT, q_lenT, q_abs, q_intI, q_intB, q_min2, q_max2, at0, at1, at2, List.length_cons, List.length_nil, sizeLine_eq, Nat.reduceAdd, Nat.reduceLeDiff, true_and, Bool.not_true, Bool.not_false, Bool.false_eq_true, if_false, reduceIte, lk, List.set, whole_int, whole_bl, whole_tup, whole_non]
      refine take_row r2 (by omega) (by decide) fun k3 S3 k30 k31 r3 o3 => ?_
      try simp only [h69, a69, q_add, q_sub, q_mul, q_div, q_mod, q_pow, q_lt, q_le, q_gt, q_ge, q_eq, q_ne, q_is, q_isnt, q_isntB, q_isB, q_tb, q_ti, q_tn, q_tt, q_ixQ0, q_ixQ1, q_ixS0, q_ixS1, q_eqQ, q_neQ, q_eqSp, q_neSp, q_eqB, q_neB, q_ixT, q_lenT, q_abs, q_intI, q_intB, q_min2, q_max2, at0, at1, at2, List.length_cons, List.length_nil, sizeLine_eq, Nat.reduceAdd, Nat.reduceLeDiff, true_and, Bool.not_true, Bool.not_false, Bool.false_eq_true, if_false, reduceIte, lk, List.set, whole_int, whole_bl, whole_tup, whole_non]
      intro q nq
      have lq := up_ls (o := .lst true [.int (1 + k2), .int (1 + k3)]) nq
      have zs : ∀ v ∈ [x, y], SzS 100 v := by
        simp only [List.forall_mem_cons, List.not_mem_nil, false_implies, implies_true, and_true]
        exact ⟨hx, hy⟩
      have zw : ∀ i ∈ [1 + k2, 1 + k3], Bd 2 i := by
        simp only [List.forall_mem_cons, List.not_mem_nil, false_implies, implies_true, and_true]
        exact ⟨by unfold Bd; omega, by unfold Bd; omega⟩
      have ep : S3 p = some (.lst true ([x, y].map dS)) := (o2.trans o3) _ _ dp up_same
      refine ⟨true, true, [x, y], [1 + k2, 1 + k3], 100, 2, lq _ _ ep, up_same, by (first | decide | (simp only [List.length_append, List.length_cons, List.length_nil]; decide)), by (first | decide | (simp only [List.length_append, List.length_cons, List.length_nil]; decide)), by decide, by decide, zs, zw, by simp only [List.sum_cons, List.sum_nil]; omega, ?_⟩
      exact hG _ _ ⟨k, x, y, z, _, rfl, (r3.le lq).mono (by omega), o1.trans ((le_rowed lp).trans ((o2.trans o3).le lq)), k0, k1, hx, hy, hz, (mid_sz (k := 2) (by decide) (by (first | decide | (simp only [List.length_append, List.length_cons, List.length_nil]; decide))) (by (first | decide | (simp only [List.length_append, List.length_cons, List.length_nil]; decide))) zs zw).mono (by decide)⟩
    rintro ρ S1 ⟨k, x, y, z, m, rfl, r1, o1, k0, k1, hx, hy, hz, hm⟩
    have W1 : ∀ {v : Spot} {T : Sto}, SzS 100 v → Wf T 300 (dS v) := fun h => wf_s (h.mono (by decide))
    have WM : ∀ {T : Sto}, Wf T 300 (dS m) := wf_s hm
    have W3 : ∀ {T : Sto}, Wfs T 300 [dS s, dS t, dS u] := ⟨W1 hs, W1 ht, W1 hu, trivial⟩
    have O3 : Bd 300 3 := by unfold Bd; decide
    dsimp only [z_law_thing_3]
    dsimp only [wZs, wZ, wE, wEs, wT, wTs, wI, lk, List.set, aTru, partS, List.take, List.drop]
    try simp only [d3, h93, a93, h0, a0, q_stT, pick3, q_slT, q_catT, List.length_append, q_add, q_sub, q_mul, q_div, q_mod, q_pow, q_lt, q_le, q_gt, q_ge, q_eq, q_ne, q_is, q_isnt, q_isntB, q_isB, q_tb, q_ti, q_tn, q_tt, q_ixQ0, q_ixQ1, q_ixS0, q_ixS1, q_eqQ, q_neQ, q_eqSp, q_neSp, q_eqB, q_neB, q_ixT, q_lenT, q_abs, q_intI, q_intB, q_min2, q_max2, at0, at1, at2, List.length_cons, List.length_nil, sizeLine_eq, Nat.reduceAdd, Nat.reduceLeDiff, true_and, Bool.not_true, Bool.not_false, Bool.false_eq_true, if_false, reduceIte, lk, List.set, whole_int, whole_bl, whole_tup, whole_non]
    have c1 := cut_len (l := [dS s, dS t, dS u]) none (some k)
    have c2 := cut_len (l := [dS s, dS t, dS u]) (some (k + 1)) none
    have w1 : ∀ {T : Sto}, Wfs T 300 (cutD [dS s, dS t, dS u] none (some k)) := wfs_cut W3 _ _
    have w2 : ∀ {T : Sto}, Wfs T 300 (cutD [dS s, dS t, dS u] (some (k + 1)) none) := wfs_cut W3 _ _
    have w0 : ∀ {T : Sto}, Wfs T 300 (cutD [dS s, dS t, dS u] none (some 2)) := wfs_cut W3 _ _
    generalize cutD [dS s, dS t, dS u] none (some k) = C1 at *
    generalize cutD [dS s, dS t, dS u] (some (k + 1)) none = C2 at *
    generalize cutD [dS s, dS t, dS u] none (some 2) = C0 at *
    have c1' : C1.length ≤ 3 := c1
    have c2' : C2.length ≤ 3 := c2
    refine ⟨by decide, by decide, fun p np => ?_⟩
    generalize hA : [D.tup [dS u, dS t, dS s], .tup [dS x, dS y, dS x], .tup [dS x, dS y, dS m], .tup [dS x, dS m, dS y], .tup C0, .tup ([dS s, dS t, dS u] ++ [dS m])] = LA at *
    have lenA : LA.length = 6 := by rw [← hA]; rfl
    have wA : ∀ {T : Sto}, Wfs T 300 LA := by
      intro T
      rw [← hA]
      exact ⟨⟨W1 hu, W1 ht, W1 hs, trivial⟩, ⟨W1 hx, W1 hy, W1 hx, trivial⟩, ⟨W1 hx, W1 hy, WM, trivial⟩, ⟨W1 hx, WM, W1 hy, trivial⟩, w0, W3.app ⟨WM, trivial⟩, trivial⟩
    have lp := up_ls (o := .lst true LA) np
    have dp := r1.ne np
    refine ⟨z, n + 3, rfl, hz, r1.le lp, by omega, fun b1 S2 hb1 r2 o2 => ⟨by omega, by omega, ?_⟩⟩
    have eA : S2 p = some (.lst true LA) := o2 _ _ dp up_same
    simp only [biS, q_seqT]
    intro p2 np2 p3 np3
    have l2 := up_ls (o := .lst true [dS s, dS t, dS u]) np2
    have e2 : (S2.up p2 (.lst true [dS s, dS t, dS u])) p2 = some (.lst true [dS s, dS t, dS u]) := up_same
    generalize S2.up p2 (.lst true [dS s, dS t, dS u]) = S3 at l2 e2 np3
    generalize hB : [D.tup (C1 ++ [b1] ++ C2), .ref p2, .tup [.tup [dS s, dS t, dS u]], .non, .bl true, dS z] = LB at *
    have lenB : LB.length = 6 := by rw [← hB]; rfl
    have l3 := up_ls (o := .lst true LB) np3
    have wB : Wfs (S3.up p3 (.lst true LB)) 300 LB := by
      have hb' : Wf (S3.up p3 (.lst true LB)) 300 b1 := Wf.lw (lw_le (l2.trans l3)) (Nat.le_refl _) b1 hb1
      have e3 := l3 _ _ e2
      generalize S3.up p3 (.lst true LB) = T at hb' e3
      rw [← hB]
      exact ⟨(w1.app (wfs_one hb')).app w2, ⟨true, _, e3⟩, ⟨W3, trivial⟩, trivial, trivial, W1 hz, trivial⟩
    have r3 := (r2.le l2).le l3
    refine cat_wf (l3 _ _ (l2 _ _ eA)) up_same wA wB (by omega) fun q S4 nq lq eq wq => ?_
    have r4 := r3.le lq
    have L4 : Rowed S1 S4 a := (le_rowed lp).trans (((o2.le l2).le l3).le lq)
    intro p4 np4
    generalize hC : [D.tup [.tup [dS s, dS t, dS u], .tup [dS s, dS t, dS u], .tup [dS s, dS t, dS u]], .tup [dS z, dS x, dS y], .tup [dS y, dS x, dS z], .tup [dS x, dS m, dS z], .int 3, .str "piece", .tup []] = LC at *
    have lenC : LC.length = 7 := by rw [← hC]; rfl
    have wC : ∀ {T : Sto}, Wfs T 300 LC := by
      intro T
      rw [← hC]
      exact ⟨⟨W3, W3, W3, trivial⟩, ⟨W1 hz, W1 hx, W1 hy, trivial⟩, ⟨W1 hy, W1 hx, W1 hz, trivial⟩, ⟨W1 hx, WM, W1 hz, trivial⟩, O3, trivial, trivial, trivial⟩
    have l4 := up_ls (o := .lst true LC) np4
    have r5 := r4.le l4
    refine cat_wf (l4 _ _ eq) up_same (Wfs.lw (lw_le l4) (Nat.le_refl _) _ wq) wC (by rw [List.length_append]; omega) fun q2 S5 nq2 lq2 eq2 wq2 => ?_
    have dq2 : q2 ≠ a := r5.ne nq2
    refine ⟨z, n + 3 + 2, rfl, hz, r5.le lq2, by omega, fun b2 S6 hb2 r6 o6 => ⟨by omega, by omega, fun p5 np5 => ?_⟩⟩
    have l5 := up_ls (o := .lst true [.tup (C1 ++ [b2] ++ C2)]) np5
    have wD : Wfs (S6.up p5 (.lst true [.tup (C1 ++ [b2] ++ C2)])) 300 [.tup (C1 ++ [b2] ++ C2)] := ⟨(w1.app (wfs_one (Wf.lw (lw_le l5) (Nat.le_refl _) b2 hb2))).app w2, trivial⟩
    have r7 := r6.le l5
    refine cat_wf (l5 _ _ (o6 _ _ dq2 eq2)) up_same (Wfs.lw (lw_le l5) (Nat.le_refl _) _ (Wfs.lw (lw_row o6 r6) (Nat.le_refl _) _ wq2)) wD (by simp only [List.length_append, List.length_cons, List.length_nil]; omega) fun q3 S7 nq3 lq3 eq3 wq3 => ?_
    have dq3 : q3 ≠ a := r7.ne nq3
    refine take_row (r7.le lq3) (by omega) (by decide) fun k7 S8 k70 k71 r8 o8 => ?_
    rw [q_ixL, o8 _ _ dq3 eq3]
    obtain ⟨d, ed, hd⟩ := at_draw wq3 k70 (by simp only [List.length_append, List.length_cons, List.length_nil]; omega)
    simp only [ed]
    refine ret_now (h d S8 (Wf.lw (lw_row o8 r8) (Nat.le_refl _) d hd) (r8.mono (by omega)) ?_)
    exact o1.trans (L4.trans ((((le_rowed l4).le lq2).trans ((o6.le l5).le lq3)).trans o8))
  · exact h.elim
end Sd
namespace Sd
/-! ### a line between two pieces -/
theorem sq_nn (x : Rat) : 0 ≤ x * x := by
  by_cases g : 0 ≤ x
  · exact Rat.mul_nonneg g g
  · have := Rat.mul_nonneg (a := -x) (b := -x) (by grind) (by grind)
    grind
theorem sq_pos {x : Rat} (h : x ≠ 0) : 0 < x * x := by
  have h1 := sq_nn x
  have h2 : x * x ≠ 0 := fun z => h ((Rat.mul_eq_zero.mp z).elim id id)
  grind
theorem sq2_pos {e : Spot} (he : ¬ (e.1 = 0 ∧ e.2 = 0)) : 0 < e.1 * e.1 + e.2 * e.2 := by
  have h1 := sq_nn e.1
  have h2 := sq_nn e.2
  by_cases z1 : e.1 = 0
  · have := sq_pos (x := e.2) (fun z => he ⟨z1, z⟩)
    grind
  · have := sq_pos z1
    grind
/-- of vectors at the left of a way one is first by turning -/
theorem first_way (e : Spot) (he : ¬ (e.1 = 0 ∧ e.2 = 0)) : ∀ (l : List Spot), l ≠ [] → (∀ w ∈ l, 0 < cr e w) → ∃ w ∈ l, ∀ x ∈ l, 0 ≤ cr w x
  | [], h, _ => (h rfl).elim
  | [w], _, _ => ⟨w, by simp, fun x hx => by
      have : x = w := by simpa using hx
      subst this
      unfold cr; grind⟩
  | w :: v :: l, _, h => by
    obtain ⟨m, hm, hx⟩ := first_way e he (v :: l) (by simp) (fun x hx => h x (by simp [hx]))
    have pm := h m (by simp [hm])
    have pw := h w (by simp)
    by_cases c : 0 ≤ cr m w
    · refine ⟨m, by simp [hm], fun x hx' => ?_⟩
      rcases List.mem_cons.mp hx' with rfl | z
      · exact c
      · exact hx x z
    · refine ⟨w, by simp, fun x hx' => ?_⟩
      rcases List.mem_cons.mp hx' with rfl | z
      · unfold cr; grind
      · have px := h x (by simp [z])
        have i1 := cr_id e w m x
        have a1 : cr w m = - cr m w := cr_anti
        have a2 : cr x w = - cr w x := cr_anti
        have h1 : 0 ≤ cr e w * cr m x := Rat.mul_nonneg (Rat.le_of_lt pw) (hx x z)
        have h2 : 0 ≤ cr e x * cr w m := Rat.mul_nonneg (Rat.le_of_lt px) (by grind)
        have i2 : cr e m * cr w x = cr e w * cr m x + cr e x * cr w m := by
          rw [a2] at i1
          clear hx h
          grind
        exact q_nn pm (by rw [i2]; exact Rat.add_nonneg h1 h2)
/-- a line parts two -/
def gsep (t o : Spot × Spot × Spot) : Prop := ∃ u v : Spot, u ≠ v ∧ (∀ x ∈ cns t, tw u v x ≤ 0) ∧ ∀ x ∈ cns o, 0 ≤ tw u v x
/-- vectors at the left of a way, on its line too, one of them beside it: one is first by turning -/
theorem first_way' (e : Spot) (he : ¬ (e.1 = 0 ∧ e.2 = 0)) (l : List Spot) (h : ∀ w ∈ l, 0 ≤ cr e w) (hn : ∃ w ∈ l, 0 < cr e w) : ∃ w ∈ l, ¬ (w.1 = 0 ∧ w.2 = 0) ∧ ∀ x ∈ l, 0 ≤ cr w x := by
  by_cases c : ∃ w ∈ l, cr e w = 0 ∧ 0 < w.1 * e.1 + w.2 * e.2
  · obtain ⟨w, hw, h0, hp⟩ := c
    refine ⟨w, hw, fun z => by rw [z.1, z.2] at hp; grind, fun x hx => ?_⟩
    have px := h x hx
    -- w is e times a number above 0
    have hee := sq2_pos he
    have id1 : (e.1 * e.1 + e.2 * e.2) * cr w x = (w.1 * e.1 + w.2 * e.2) * cr e x - cr e w * (e.1 * x.1 + e.2 * x.2) := by unfold cr; grind
    rw [h0] at id1
    have := Rat.mul_nonneg (Rat.le_of_lt hp) px
    exact q_nn hee (by grind)
  · obtain ⟨w0, hw0, hp0⟩ := hn
    obtain ⟨w, hw, hx⟩ := first_way e he (l.filter fun w => decide (0 < cr e w)) (fun z => by
      have : w0 ∈ l.filter fun w => decide (0 < cr e w) := List.mem_filter.mpr ⟨hw0, decide_eq_true hp0⟩
      rw [z] at this
      cases this) (fun w hw => of_decide_eq_true (List.mem_filter.mp hw).2)
    have hw' := List.mem_filter.mp hw
    have pw := of_decide_eq_true hw'.2
    refine ⟨w, hw'.1, fun z => by unfold cr at pw; rw [z.1, z.2] at pw; grind, fun x hx' => ?_⟩
    by_cases px : 0 < cr e x
    · exact hx x (List.mem_filter.mpr ⟨hx', decide_eq_true px⟩)
    · have p0 : cr e x = 0 := by have := h x hx'; grind
      have pn : x.1 * e.1 + x.2 * e.2 ≤ 0 := by
        by_cases g : 0 < x.1 * e.1 + x.2 * e.2
        · exact (c ⟨x, hx', p0, g⟩).elim
        · grind
      have hee := sq2_pos he
      have id1 : (e.1 * e.1 + e.2 * e.2) * cr w x = - ((x.1 * e.1 + x.2 * e.2) * cr e w) + cr e x * (e.1 * w.1 + e.2 * w.2) := by unfold cr; grind
      rw [p0] at id1
      have := np pn (Rat.le_of_lt pw)
      exact q_nn hee (by grind)
theorem tw_cr {u v x : Spot} : tw u v x = cr (v.1 - u.1, v.2 - u.2) (x.1 - u.1, x.2 - u.2) := by unfold tw cr; grind
/-- the farthest of three -/
theorem far3 (f : Spot → Rat) (a b c : Spot) : ∃ m ∈ [a, b, c], ∀ x ∈ [a, b, c], f x ≤ f m := by
  simp only [List.mem_cons, List.not_mem_nil, or_false, forall_eq_or_imp, forall_eq]
  by_cases h1 : f a ≤ f b
  · by_cases h2 : f b ≤ f c
    · exact ⟨c, by simp, by grind, by grind, by grind⟩
    · exact ⟨b, by simp, by grind, by grind, by grind⟩
  · by_cases h2 : f a ≤ f c
    · exact ⟨c, by simp, by grind, by grind, by grind⟩
    · exact ⟨a, by simp, by grind, by grind, by grind⟩
theorem gsep_lsep {t o : Spot × Spot × Spot} (ht : 0 < tw t.1 t.2.1 t.2.2) (h : gsep t o) : lsep t o := by
  obtain ⟨u, v, huv, hr, hl⟩ := h
  have he : ¬ ((v.1 - u.1, v.2 - u.2) : Spot).1 = 0 ∨ ¬ ((v.1 - u.1, v.2 - u.2) : Spot).2 = 0 := by
    by_cases z1 : v.1 - u.1 = 0
    · by_cases z2 : v.2 - u.2 = 0
      · exact (huv (Prod.ext (by grind) (by grind))).elim
      · exact .inr z2
    · exact .inl z1
  have he' : ¬ (((v.1 - u.1, v.2 - u.2) : Spot).1 = 0 ∧ ((v.1 - u.1, v.2 - u.2) : Spot).2 = 0) := fun z => he.elim (fun y => y z.1) (fun y => y z.2)
  obtain ⟨m, hm, hmx⟩ := far3 (tw u v) t.1 t.2.1 t.2.2
  have hm0 : tw u v m ≤ 0 := hr m hm
  -- vectors from m
  have key := first_way' (v.1 - u.1, v.2 - u.2) he' ((cns o).map (fun p => (p.1 - m.1, p.2 - m.2)) ++ (cns t).map fun q => (m.1 - q.1, m.2 - q.2)) ?_ ?_
  · obtain ⟨w, hw, hw0, hx⟩ := key
    have L : ∀ x ∈ cns o, 0 ≤ cr w (x.1 - m.1, x.2 - m.2) := fun x hx' => hx _ (List.mem_append.mpr (.inl (List.mem_map.mpr ⟨x, hx', rfl⟩)))
    have R : ∀ x ∈ cns t, 0 ≤ cr w (m.1 - x.1, m.2 - x.2) := fun x hx' => hx _ (List.mem_append.mpr (.inr (List.mem_map.mpr ⟨x, hx', rfl⟩)))
    rcases List.mem_append.mp hw with z | z
    · obtain ⟨p, hp, rfl⟩ := List.mem_map.mp z
      refine ⟨m, List.mem_append.mpr (.inl hm), p, List.mem_append.mpr (.inr hp), fun z => hw0 (by subst z; exact ⟨by grind, by grind⟩), fun x hx' => ?_, fun x hx' => ?_⟩
      · have := R x hx'; rw [tw_cr]; unfold cr at *; grind
      · have := L x hx'; rw [tw_cr]; exact this
    · obtain ⟨q, hq, rfl⟩ := List.mem_map.mp z
      refine ⟨q, List.mem_append.mpr (.inl hq), m, List.mem_append.mpr (.inl hm), fun z => hw0 (by subst z; exact ⟨by grind, by grind⟩), fun x hx' => ?_, fun x hx' => ?_⟩
      · have := R x hx'; rw [tw_cr]; unfold cr at *; grind
      · have := L x hx'; rw [tw_cr]; unfold cr at *; grind
  · intro w hw
    rcases List.mem_append.mp hw with z | z
    · obtain ⟨p, hp, rfl⟩ := List.mem_map.mp z
      have := hl p hp
      unfold tw at *; unfold cr; grind
    · obtain ⟨q, hq, rfl⟩ := List.mem_map.mp z
      have := hmx q hq
      unfold tw at *; unfold cr; grind
  · -- one corner lies beside
    apply Classical.byContradiction
    intro hno
    have al : ∀ q ∈ cns t, tw u v q = tw u v m := fun q hq => by
      have h1 := hmx q hq
      have h2 : ¬ 0 < cr (v.1 - u.1, v.2 - u.2) (m.1 - q.1, m.2 - q.2) := fun z => hno ⟨_, List.mem_append.mpr (.inr (List.mem_map.mpr ⟨q, hq, rfl⟩)), z⟩
      unfold tw at *; unfold cr at h2; grind
    have a1 := al t.1 (by simp [cns]); have a2 := al t.2.1 (by simp [cns]); have a3 := al t.2.2 (by simp [cns])
    have e1 : (v.1 - u.1) * tw t.1 t.2.1 t.2.2 = 0 := by unfold tw at *; grind
    have e2 : (v.2 - u.2) * tw t.1 t.2.1 t.2.2 = 0 := by unfold tw at *; grind
    exact huv (Prod.ext (by have := z_of e1 (by grind); grind) (by have := z_of e2 (by grind); grind))
theorem gsep_bh {t o : Spot × Spot × Spot} (ht : 0 < tw t.1 t.2.1 t.2.2) (ho : 0 < tw o.1 o.2.1 o.2.2) (h : gsep t o) : bh t o ∨ bh o t := (sep_iff ht ho).mp (gsep_lsep ht h)
theorem gsep_symm {t o : Spot × Spot × Spot} (h : gsep t o) : gsep o t := by
  obtain ⟨u, v, hn, h1, h2⟩ := h
  exact ⟨v, u, fun e => hn e.symm, fun x hx => by rw [tw_swap]; have := h2 x hx; grind, fun x hx => by rw [tw_swap]; have := h1 x hx; grind⟩
end Sd
namespace Sd
/-! ### what goes round to the left -/
def Cvx : List Spot → Prop
  | [] => True
  | a :: l => l.Pairwise (fun b c => 0 < tw a b c) ∧ Cvx l
theorem Cvx.rot1 {a : Spot} : ∀ {l : List Spot}, Cvx (l ++ [a]) ↔ Cvx (a :: l)
  | [] => by simp [Cvx]
  | b :: l => by
    have ih := Cvx.rot1 (a := a) (l := l)
    show ((l ++ [a]).Pairwise (fun x y => 0 < tw b x y) ∧ Cvx (l ++ [a])) ↔ ((b :: l).Pairwise (fun x y => 0 < tw a x y) ∧ (l.Pairwise (fun x y => 0 < tw b x y) ∧ Cvx l))
    rw [ih]
    show ((l ++ [a]).Pairwise (fun x y => 0 < tw b x y) ∧ (l.Pairwise (fun x y => 0 < tw a x y) ∧ Cvx l)) ↔ _
    constructor
    · rintro ⟨h0, h3, h4⟩
      obtain ⟨h1, _, h2⟩ := List.pairwise_append.mp h0
      exact ⟨List.pairwise_cons.mpr ⟨fun x hx => by rw [← tw_rot]; exact h2 x hx a (by simp), h3⟩, h1, h4⟩
    · rintro ⟨h0, h3, h4⟩
      obtain ⟨h1, h2⟩ := List.pairwise_cons.mp h0
      exact ⟨List.pairwise_append.mpr ⟨h3, List.pairwise_singleton _ _, fun x hx y hy => by
        have : y = a := by simpa using hy
        subst this
        rw [tw_rot]; exact h1 x hx⟩, h2, h4⟩
theorem Cvx.rot : ∀ {l m : List Spot}, Cvx (l ++ m) ↔ Cvx (m ++ l)
  | [], m => by simp
  | a :: l, m => by
    have h1 : Cvx (a :: l ++ m) ↔ Cvx (l ++ m ++ [a]) := Cvx.rot1.symm
    rw [h1, List.append_assoc, Cvx.rot (l := l), List.append_assoc]
    rfl
theorem Cvx.sub {m l : List Spot} (h : m.Sublist l) (hl : Cvx l) : Cvx m := by
  induction h with
  | slnil => trivial
  | cons a _ ih => exact ih hl.2
  | cons_cons a h ih => exact ⟨hl.1.sublist h, ih hl.2⟩
/-- the k-th corner -/
def g (l : List Spot) (i : Nat) : Spot := l.getD i (0, 0)
theorem g_cons0 {a : Spot} {l : List Spot} : g (a :: l) 0 = a := rfl
theorem g_cons {a : Spot} {l : List Spot} {i : Nat} : g (a :: l) (i + 1) = g l i := rfl
theorem g_get {l : List Spot} {i : Nat} (h : i < l.length) : l[i]? = some (g l i) := by
  unfold g
  rw [List.getD_eq_getElem?_getD]
  rw [List.getElem?_eq_getElem h]
  rfl
theorem g_mem {l : List Spot} {i : Nat} (h : i < l.length) : g l i ∈ l := List.mem_of_getElem? (g_get h)
theorem mem_g {l : List Spot} {x : Spot} (h : x ∈ l) : ∃ i, i < l.length ∧ g l i = x := by
  obtain ⟨i, hi, e⟩ := List.mem_iff_getElem.mp h
  refine ⟨i, hi, ?_⟩
  have := g_get hi
  rw [List.getElem?_eq_getElem hi, e] at this
  exact (Option.some.inj this).symm
theorem pw_g {R : Spot → Spot → Prop} : ∀ {l : List Spot} {j k : Nat}, l.Pairwise R → j < k → k < l.length → R (g l j) (g l k)
  | [], _, _, _, _, h => by simp at h
  | a :: l, 0, k + 1, p, _, h => by
    rw [List.pairwise_cons] at p
    exact p.1 _ (g_mem (by simpa using h))
  | a :: l, j + 1, k + 1, p, jk, h => by
    rw [List.pairwise_cons] at p
    exact pw_g (l := l) (j := j) (k := k) p.2 (by omega) (by simpa using h)
theorem g_pw {R : Spot → Spot → Prop} : ∀ {l : List Spot}, (∀ j k, j < k → k < l.length → R (g l j) (g l k)) → l.Pairwise R
  | [], _ => List.Pairwise.nil
  | a :: l, h => List.pairwise_cons.mpr ⟨fun x hx => by
      obtain ⟨i, hi, rfl⟩ := mem_g hx
      exact h 0 (i + 1) (by omega) (by simpa using hi), g_pw fun j k jk hk => h (j + 1) (k + 1) (by omega) (by simpa using hk)⟩
theorem Cvx.tri : ∀ {l : List Spot} {i j k : Nat}, Cvx l → i < j → j < k → k < l.length → 0 < tw (g l i) (g l j) (g l k)
  | [], _, _, _, _, _, _, h => by simp at h
  | a :: l, 0, j + 1, k + 1, h, _, jk, hk => pw_g (l := l) (j := j) (k := k) (R := fun b c => 0 < tw a b c) h.1 (by omega) (by simpa using hk)
  | a :: l, i + 1, j + 1, k + 1, h, ij, jk, hk => Cvx.tri (l := l) (i := i) (j := j) (k := k) h.2 (by omega) (by omega) (by simpa using hk)
theorem cvx_of : ∀ {l : List Spot}, (∀ i j k, i < j → j < k → k < l.length → 0 < tw (g l i) (g l j) (g l k)) → Cvx l
  | [], _ => trivial
  | a :: l, h => ⟨g_pw fun j k jk hk => h 0 (j + 1) (k + 1) (by omega) (by omega) (by simpa using hk), cvx_of fun i j k ij jk hk => h (i + 1) (j + 1) (k + 1) (by omega) (by omega) (by simpa using hk)⟩
/-- the corner behind -/
def nx (l : List Spot) (k : Nat) : Spot := g l ((k + 1) % l.length)
/-- all others to the left of each side -/
def Rnd (l : List Spot) : Prop := ∀ k j, k < l.length → j < l.length → j ≠ k → j ≠ (k + 1) % l.length → 0 < tw (g l k) (nx l k) (g l j)
theorem nx_in {l : List Spot} {k : Nat} (h : k + 1 < l.length) : nx l k = g l (k + 1) := by
  unfold nx
  rw [Nat.mod_eq_of_lt h]
theorem nx_last {l : List Spot} {k : Nat} (h : k + 1 = l.length) : nx l k = g l 0 := by
  unfold nx
  rw [h, Nat.mod_self]
theorem Cvx.rnd {l : List Spot} (h : Cvx l) : Rnd l := by
  intro k j hk hj n1 n2
  by_cases c : k + 1 < l.length
  · rw [nx_in c]
    rw [Nat.mod_eq_of_lt c] at n2
    by_cases g1 : j < k
    · have := h.tri g1 (Nat.lt_succ_self k) c
      rw [tw_rot]; exact this
    · exact h.tri (Nat.lt_succ_self k) (by omega) hj
  · have c' : k + 1 = l.length := by omega
    rw [nx_last c']
    rw [c', Nat.mod_self] at n2
    have := h.tri (i := 0) (j := j) (k := k) (by omega) (by omega) hk
    rw [← tw_rot]; exact this
theorem plk {o u v w x : Spot} : tw o u w * tw o v x = tw o u v * tw o w x + tw o u x * tw o v w := by unfold tw; grind
theorem Rnd.cvx {l : List Spot} (h : Rnd l) : Cvx l := by
  refine cvx_of fun i j k ij jk hk => ?_
  -- sides
  have sd : ∀ a b, a + 1 < l.length → b < l.length → b ≠ a → b ≠ a + 1 → 0 < tw (g l a) (g l (a + 1)) (g l b) := fun a b h1 h2 n1 n2 => by
    have := h a b (by omega) h2 n1 (by rw [Nat.mod_eq_of_lt h1]; exact n2)
    rwa [nx_in h1] at this
  have base : ∀ b, i < b → b + 1 < l.length → 0 < tw (g l i) (g l b) (g l (b + 1)) := fun b h1 h2 => by
    have := sd b i h2 (by omega) (by omega) (by omega)
    rw [← tw_rot]; exact this
  have main : ∀ d, j + 1 + d < l.length → 0 < tw (g l i) (g l j) (g l (j + 1 + d)) := by
    intro d
    induction d with
    | zero => exact fun hd => base j ij hd
    | succ d ih =>
      intro hd
      have h1 := ih (by omega)
      have h2 := base (j + 1 + d) (by omega) (by omega)
      by_cases c : j = i + 1
      · subst c
        exact sd i (i + 1 + 1 + (d + 1)) (by omega) hd (by omega) (by omega)
      · have r1 := sd i j (by omega) (by omega) (by omega) (by omega)
        have r2 := sd i (j + 1 + d) (by omega) (by omega) (by omega) (by omega)
        have r3 := sd i (j + 1 + (d + 1)) (by omega) (by omega) (by omega) (by omega)
        have id := plk (o := g l i) (u := g l (i + 1)) (v := g l j) (w := g l (j + 1 + d)) (x := g l (j + 1 + (d + 1)))
        have p1 := Rat.mul_pos r1 (show 0 < tw (g l i) (g l (j + 1 + d)) (g l (j + 1 + (d + 1))) from h2)
        have p2 := Rat.mul_pos r3 h1
        have p3 : 0 < tw (g l i) (g l (i + 1)) (g l (j + 1 + d)) * tw (g l i) (g l j) (g l (j + 1 + (d + 1))) := by rw [id]; grind
        by_cases z : 0 < tw (g l i) (g l j) (g l (j + 1 + (d + 1)))
        · exact z
        · have := np (a := tw (g l i) (g l j) (g l (j + 1 + (d + 1)))) (b := tw (g l i) (g l (i + 1)) (g l (j + 1 + d))) (by grind) (Rat.le_of_lt r2)
          grind
  have := main (k - (j + 1)) (by omega)
  rwa [show j + 1 + (k - (j + 1)) = k by omega] at this
theorem cvx_rnd {l : List Spot} : Cvx l ↔ Rnd l := ⟨Cvx.rnd, Rnd.cvx⟩
/-! ### spots in it -/
def InC (l : List Spot) (x : Spot) : Prop := ∀ k, k < l.length → 0 ≤ tw (g l k) (nx l k) x
theorem tw_self1 {a b : Spot} : tw a b a = 0 := by unfold tw; grind
theorem tw_self2 {a b : Spot} : tw a b b = 0 := by unfold tw; grind
theorem tw_self0 {a b : Spot} : tw a a b = 0 := by unfold tw; grind
theorem Cvx.corner {l : List Spot} (h : Cvx l) {x : Spot} (hx : x ∈ l) : InC l x := by
  intro k hk
  obtain ⟨j, hj, rfl⟩ := mem_g hx
  by_cases c1 : j = k
  · subst c1; rw [tw_self1]; exact Rat.le_refl
  · by_cases c2 : j = (k + 1) % l.length
    · subst c2
      unfold nx
      rw [tw_self2]; exact Rat.le_refl
    · exact Rat.le_of_lt (h.rnd k j hk hj c1 c2)
abbrev T3 := Spot × Spot × Spot
def tw3 (t : T3) : Rat := tw t.1 t.2.1 t.2.2
/-- in a piece, on its sides too -/
def InT0 (t : T3) (z : Spot) : Prop := 0 ≤ tw t.1 t.2.1 z ∧ 0 ≤ tw t.2.1 t.2.2 z ∧ 0 ≤ tw t.2.2 t.1 z
theorem in0_pos {t : T3} {z u v : Spot} (ht : 0 < tw3 t) (h : InT0 t z) (hc : ∀ x ∈ cns t, 0 ≤ tw u v x) : 0 ≤ tw u v z := by
  obtain ⟨a, b, c⟩ := t
  obtain ⟨h1, h2, h3⟩ := h
  simp only at h1 h2 h3
  simp only [cns, List.mem_cons, List.not_mem_nil, or_false, forall_eq_or_imp, forall_eq] at hc
  obtain ⟨ca, cb, cc⟩ := hc
  have id1 : tw a b c * tw u v z = tw b c z * tw u v a + tw c a z * tw u v b + tw a b z * tw u v c := by unfold tw; grind
  have n1 := Rat.mul_nonneg h2 ca
  have n2 := Rat.mul_nonneg h3 cb
  have n3 := Rat.mul_nonneg h1 cc
  exact q_nn (show 0 < tw a b c from ht) (by rw [id1]; exact Rat.add_nonneg (Rat.add_nonneg n1 n2) n3)
theorem in0_neg {t : T3} {z u v : Spot} (ht : 0 < tw3 t) (h : InT0 t z) (hc : ∀ x ∈ cns t, tw u v x ≤ 0) : tw u v z ≤ 0 := by
  have := in0_pos (u := v) (v := u) ht h fun x hx => by rw [tw_swap]; have := hc x hx; grind
  rw [tw_swap] at this
  grind
/-! ### cuttings -/
/-- twice the area by the fan -/
def fan (a : Spot) : List Spot → Rat
  | b :: c :: r => tw a b c + fan a (c :: r)
  | _ => 0
def ar2 : List Spot → Rat
  | [] => 0
  | a :: l => fan a l
def fanP (a : Spot) : List Spot → List T3
  | b :: c :: r => (a, b, c) :: fanP a (c :: r)
  | _ => []
structure Parts (t : T3) (ps : List T3) : Prop where
  pos : ∀ p ∈ ps, 0 < tw3 p
  ins : ∀ p ∈ ps, ∀ x ∈ cns p, InT0 t x
  sep : ps.Pairwise gsep
  sum : qsum (ps.map tw3) = tw3 t
structure Cutting (f : List Spot) (ps : List T3) : Prop where
  pos : ∀ p ∈ ps, 0 < tw3 p
  ins : ∀ p ∈ ps, ∀ x ∈ cns p, InC f x
  sep : ps.Pairwise gsep
  sum : qsum (ps.map tw3) = ar2 f
theorem qsum_perm {l m : List Rat} (h : l.Perm m) : qsum l = qsum m := by
  induction h with
  | nil => rfl
  | cons x _ ih => simp only [qsum, ih]
  | swap x y l => simp only [qsum]; grind
  | trans _ _ h1 h2 => exact h1.trans h2
theorem Cutting.perm {f : List Spot} {ps qs : List T3} (h : Cutting f ps) (p : ps.Perm qs) : Cutting f qs :=
  ⟨fun x hx => h.pos x (p.mem_iff.mpr hx), fun x hx => h.ins x (p.mem_iff.mpr hx), p.pairwise h.sep fun h => gsep_symm h, by rw [← h.sum]; exact qsum_perm (p.symm.map _)⟩
theorem gsep_in {t o p : T3} (ht : 0 < tw3 t) (h : gsep t o) (hp : ∀ x ∈ cns p, InT0 t x) : gsep p o := by
  obtain ⟨u, v, hn, h1, h2⟩ := h
  exact ⟨u, v, hn, fun x hx => in0_neg ht (hp x hx) h1, h2⟩
theorem Cutting.cut {f : List Spot} {A B qs : List T3} {t : T3} (h : Cutting f (A ++ t :: B)) (hq : Parts t qs) : Cutting f (A ++ B ++ qs) := by
  have ht : 0 < tw3 t := h.pos t (by simp)
  have h' : Cutting f (t :: (A ++ B)) := h.perm List.perm_middle
  have hs := List.pairwise_cons.mp h'.sep
  refine ⟨fun p hp => ?_, fun p hp x hx => ?_, List.pairwise_append.mpr ⟨hs.2, hq.sep, fun a ha b hb => ?_⟩, ?_⟩
  · rcases List.mem_append.mp hp with z | z
    · exact h'.pos p (List.mem_cons_of_mem _ z)
    · exact hq.pos p z
  · rcases List.mem_append.mp hp with z | z
    · exact h'.ins p (List.mem_cons_of_mem _ z) x hx
    · intro k hk
      exact in0_pos ht (hq.ins p z x hx) fun y hy => h'.ins t List.mem_cons_self y hy k hk
  · exact gsep_symm (gsep_in ht (hs.1 a ha) (hq.ins b hb))
  · rw [List.map_append, qsum_app, hq.sum, ← h'.sum]
    simp only [List.map_cons, qsum]
    grind
theorem fanP_mem {a : Spot} : ∀ {l : List Spot} {p : T3}, p ∈ fanP a l → ∀ x ∈ cns p, x = a ∨ x ∈ l
  | [], _, h => by simp [fanP] at h
  | [_], _, h => by simp [fanP] at h
  | b :: c :: r, p, h => by
    intro x hx
    rcases List.mem_cons.mp (show p ∈ (a, b, c) :: fanP a (c :: r) from h) with rfl | z
    · simp only [cns, List.mem_cons, List.not_mem_nil, or_false] at hx
      rcases hx with rfl | rfl | rfl
      · exact .inl rfl
      · exact .inr (by simp)
      · exact .inr (by simp)
    · rcases fanP_mem (l := c :: r) z x hx with h1 | h1
      · exact .inl h1
      · exact .inr (List.mem_cons_of_mem _ h1)
theorem fanP_cut {a : Spot} : ∀ {l : List Spot}, l.Pairwise (fun b c => 0 < tw a b c) → (∀ p ∈ fanP a l, 0 < tw3 p) ∧ (fanP a l).Pairwise gsep ∧ qsum ((fanP a l).map tw3) = fan a l
  | [], _ => ⟨by simp [fanP], by simp [fanP], rfl⟩
  | [_], _ => ⟨by simp [fanP], by simp [fanP], rfl⟩
  | b :: c :: r, h => by
    have h1 := List.pairwise_cons.mp h
    have h2 := List.pairwise_cons.mp h1.2
    obtain ⟨p1, p2, p3⟩ := fanP_cut (l := c :: r) h1.2
    have bc : 0 < tw a b c := h1.1 c (by simp)
    refine ⟨fun p hp => ?_, List.pairwise_cons.mpr ⟨fun p hp => ?_, p2⟩, ?_⟩
    · rcases List.mem_cons.mp (show p ∈ (a, b, c) :: fanP a (c :: r) from hp) with rfl | z
      · exact bc
      · exact p1 p z
    · refine ⟨a, c, fun e => ?_, fun x hx => ?_, fun x hx => ?_⟩
      · rw [e, tw_self1] at bc; exact Rat.lt_irrefl bc
      · simp only [cns, List.mem_cons, List.not_mem_nil, or_false] at hx
        rcases hx with rfl | rfl | rfl
        · rw [tw_self1]; exact Rat.le_refl
        · unfold tw at *; grind
        · rw [tw_self2]; exact Rat.le_refl
      · rcases fanP_mem hp x hx with rfl | z
        · rw [tw_self1]; exact Rat.le_refl
        · rcases List.mem_cons.mp z with rfl | z
          · rw [tw_self2]; exact Rat.le_refl
          · exact Rat.le_of_lt (h2.1 x z)
    · show tw3 (a, b, c) + qsum ((fanP a (c :: r)).map tw3) = tw a b c + fan a (c :: r)
      rw [p3]
      rfl
/-- the fan is a cutting -/
theorem Cvx.fan {a : Spot} {l : List Spot} (h : Cvx (a :: l)) : Cutting (a :: l) (fanP a l) := by
  obtain ⟨p1, p2, p3⟩ := fanP_cut h.1
  exact ⟨p1, fun p hp x hx => h.corner (by rcases fanP_mem hp x hx with rfl | z <;> simp [*]), p2, p3⟩
/-- pieces begun at other corners -/
def SameT (t o : T3) : Prop := (∀ x, x ∈ cns t ↔ x ∈ cns o) ∧ tw3 t = tw3 o
theorem gsep_same {t o t' o' : T3} (h : gsep t o) (ht : SameT t t') (ho : SameT o o') : gsep t' o' := by
  obtain ⟨u, v, hn, h1, h2⟩ := h
  exact ⟨u, v, hn, fun x hx => h1 x ((ht.1 x).mpr hx), fun x hx => h2 x ((ho.1 x).mpr hx)⟩
theorem Cutting.same {f : List Spot} {ps : List T3} (h : Cutting f ps) (r : T3 → T3) (hr : ∀ p ∈ ps, SameT p (r p)) : Cutting f (ps.map r) := by
  refine ⟨fun p hp => ?_, fun p hp x hx => ?_, ?_, ?_⟩
  · obtain ⟨q, hq, rfl⟩ := List.mem_map.mp hp
    rw [← (hr q hq).2]; exact h.pos q hq
  · obtain ⟨q, hq, rfl⟩ := List.mem_map.mp hp
    exact h.ins q hq x (((hr q hq).1 x).mpr hx)
  · rw [List.pairwise_map]
    exact List.Pairwise.imp_of_mem (fun {a b} ha hb hab => gsep_same hab (hr a ha) (hr b hb)) h.sep
  · rw [← h.sum, List.map_map]
    congr 1
    exact List.map_congr_left fun p hp => (hr p hp).2.symm
/-! ### the three ways to cut a piece -/
theorem parts_in {a b c s : Spot} (h1 : 0 < tw a b s) (h2 : 0 < tw b c s) (h3 : 0 < tw c a s) : Parts (a, b, c) [(s, a, b), (s, b, c), (s, c, a)] := by
  have ht : 0 < tw a b c := by unfold tw at *; grind
  refine ⟨?_, ?_, ?_, ?_⟩
  · simp only [List.mem_cons, List.not_mem_nil, or_false, forall_eq_or_imp, forall_eq, tw3]
    exact ⟨by rw [← tw_rot]; exact h1, by rw [← tw_rot]; exact h2, by rw [← tw_rot]; exact h3⟩
  · simp only [List.mem_cons, List.not_mem_nil, or_false, forall_eq_or_imp, forall_eq, cns, InT0]
    have z : (0 : Rat) ≤ 0 := Rat.le_refl
    have e1 := Rat.le_of_lt h1; have e2 := Rat.le_of_lt h2; have e3 := Rat.le_of_lt h3; have e4 := Rat.le_of_lt ht
    have r1 : 0 ≤ tw b c a := by rw [tw_rot]; exact e4
    have r2 : 0 ≤ tw c a b := by rw [tw_rot, tw_rot]; exact e4
    simp only [tw_self1, tw_self2]
    exact ⟨⟨⟨e1, e2, e3⟩, ⟨z, r1, z⟩, ⟨z, z, r2⟩⟩, ⟨⟨e1, e2, e3⟩, ⟨z, z, r2⟩, ⟨e4, z, z⟩⟩, ⟨e1, e2, e3⟩, ⟨e4, z, z⟩, ⟨z, r1, z⟩⟩
  · have ne : ∀ {x y : Spot}, (∃ w, 0 < tw x y w) → x ≠ y := fun ⟨w, h⟩ e => by rw [e, tw_self0] at h; exact Rat.lt_irrefl h
    simp only [List.pairwise_cons, List.mem_cons, List.not_mem_nil, or_false, forall_eq_or_imp, forall_eq, false_implies, implies_true, and_true, List.Pairwise.nil]
    have g1 : gsep (s, a, b) (s, b, c) := ⟨s, b, ne ⟨c, by rw [← tw_rot]; exact h2⟩, by
      simp only [List.mem_cons, List.not_mem_nil, or_false, forall_eq_or_imp, forall_eq, cns, tw_self1, tw_self2]
      exact ⟨Rat.le_refl, by unfold tw at *; grind, Rat.le_refl⟩, by
      simp only [List.mem_cons, List.not_mem_nil, or_false, forall_eq_or_imp, forall_eq, cns, tw_self1, tw_self2]
      exact ⟨Rat.le_refl, Rat.le_refl, by unfold tw at *; grind⟩⟩
    have g2 : gsep (s, c, a) (s, a, b) := ⟨s, a, ne ⟨b, by rw [← tw_rot]; exact h1⟩, by
      simp only [List.mem_cons, List.not_mem_nil, or_false, forall_eq_or_imp, forall_eq, cns, tw_self1, tw_self2]
      exact ⟨Rat.le_refl, by unfold tw at *; grind, Rat.le_refl⟩, by
      simp only [List.mem_cons, List.not_mem_nil, or_false, forall_eq_or_imp, forall_eq, cns, tw_self1, tw_self2]
      exact ⟨Rat.le_refl, Rat.le_refl, by unfold tw at *; grind⟩⟩
    have g3 : gsep (s, b, c) (s, c, a) := ⟨s, c, ne ⟨a, by rw [← tw_rot]; exact h3⟩, by
      simp only [List.mem_cons, List.not_mem_nil, or_false, forall_eq_or_imp, forall_eq, cns, tw_self1, tw_self2]
      exact ⟨Rat.le_refl, by unfold tw at *; grind, Rat.le_refl⟩, by
      simp only [List.mem_cons, List.not_mem_nil, or_false, forall_eq_or_imp, forall_eq, cns, tw_self1, tw_self2]
      exact ⟨Rat.le_refl, Rat.le_refl, by unfold tw at *; grind⟩⟩
    exact ⟨⟨g1, gsep_symm g2⟩, g3⟩
  · simp only [List.map_cons, List.map_nil, qsum, tw3]
    unfold tw
    grind
theorem parts_side {a b c : Spot} {τ : Rat} (ht : 0 < tw a b c) (h0 : 0 < τ) (h1 : τ < 1) : Parts (a, b, c) [(a, onw a b τ, c), (onw a b τ, b, c)] := by
  have i1 : tw a (onw a b τ) c = τ * tw a b c := by unfold tw onw; grind
  have i2 : tw (onw a b τ) b c = (1 - τ) * tw a b c := by unfold tw onw; grind
  have p1 : 0 < tw a (onw a b τ) c := by rw [i1]; exact Rat.mul_pos h0 ht
  have p2 : 0 < tw (onw a b τ) b c := by rw [i2]; exact Rat.mul_pos (by grind) ht
  have i3 : tw b c (onw a b τ) = (1 - τ) * tw a b c := by unfold tw onw; grind
  have i4 : tw c a (onw a b τ) = τ * tw a b c := by unfold tw onw; grind
  have i5 : tw a b (onw a b τ) = 0 := by unfold tw onw; grind
  refine ⟨?_, ?_, ?_, ?_⟩
  · simp only [List.mem_cons, List.not_mem_nil, or_false, forall_eq_or_imp, forall_eq, tw3]
    exact ⟨p1, p2⟩
  · simp only [List.mem_cons, List.not_mem_nil, or_false, forall_eq_or_imp, forall_eq, cns, InT0]
    have z : (0 : Rat) ≤ 0 := Rat.le_refl
    have e4 := Rat.le_of_lt ht
    have r1 : 0 ≤ tw b c a := by rw [tw_rot]; exact e4
    have r2 : 0 ≤ tw c a b := by rw [tw_rot, tw_rot]; exact e4
    have q1 : 0 ≤ tw b c (onw a b τ) := by rw [i3]; exact Rat.mul_nonneg (by grind) e4
    have q2 : 0 ≤ tw c a (onw a b τ) := by rw [i4]; exact Rat.mul_nonneg (by grind) e4
    simp only [tw_self1, tw_self2, i5]
    exact ⟨⟨⟨z, r1, z⟩, ⟨z, q1, q2⟩, ⟨e4, z, z⟩⟩, ⟨z, q1, q2⟩, ⟨z, z, r2⟩, ⟨e4, z, z⟩⟩
  · simp only [List.pairwise_cons, List.mem_cons, List.not_mem_nil, or_false, forall_eq, false_implies, implies_true, and_true, List.Pairwise.nil]
    refine gsep_symm ⟨onw a b τ, c, fun e => ?_, ?_, ?_⟩
    · rw [← e, tw_self1] at p2; exact Rat.lt_irrefl p2
    · simp only [List.mem_cons, List.not_mem_nil, or_false, forall_eq_or_imp, forall_eq, cns, tw_self1, tw_self2]
      exact ⟨Rat.le_refl, by have := tw_swap (a := onw a b τ) (b := b) (c := c); unfold tw at *; grind, Rat.le_refl⟩
    · simp only [List.mem_cons, List.not_mem_nil, or_false, forall_eq_or_imp, forall_eq, cns, tw_self1, tw_self2]
      refine ⟨?_, Rat.le_refl, Rat.le_refl⟩
      rw [← tw_rot] at p1
      rw [← tw_rot]
      rw [tw_rot]
      have : tw (onw a b τ) c a = tw a (onw a b τ) c := by unfold tw; grind
      rw [tw_rot] at p1
      grind
  · simp only [List.map_cons, List.map_nil, qsum, tw3, i1, i2]
    grind
end Sd
namespace Sd
/-- the middle piece's corners -/
def m3 (p q r : Rat) (a b c : Spot) : Spot := (p * a.1 + q * b.1 + r * c.1, p * a.2 + q * b.2 + r * c.2)
theorem tw_m3 {p q r : Rat} {a b c u v : Spot} (h : p + q + r = 1) : tw u v (m3 p q r a b c) = p * tw u v a + q * tw u v b + r * tw u v c := by
  have : p = 1 - q - r := by grind
  subst this
  unfold tw m3; grind
theorem tw_m3' {p q r : Rat} {a b c u v : Spot} (h : p + q + r = 1) : tw u (m3 p q r a b c) v = p * tw u a v + q * tw u b v + r * tw u c v := by
  have : p = 1 - q - r := by grind
  subst this
  unfold tw m3; grind
theorem tw_m30 {p q r : Rat} {a b c u v : Spot} (h : p + q + r = 1) : tw (m3 p q r a b c) u v = p * tw a u v + q * tw b u v + r * tw c u v := by
  have : p = 1 - q - r := by grind
  subst this
  unfold tw m3; grind
theorem in_m3 {p q r : Rat} {a b c : Spot} (h : p + q + r = 1) (ht : 0 < tw a b c) (hp : 0 ≤ p) (hq : 0 ≤ q) (hr : 0 ≤ r) : InT0 (a, b, c) (m3 p q r a b c) := by
  have r1 : tw b c a = tw a b c := tw_rot
  have r2 : tw c a b = tw a b c := by rw [tw_rot, tw_rot]
  refine ⟨?_, ?_, ?_⟩
  · show 0 ≤ tw a b (m3 p q r a b c)
    rw [tw_m3 h, tw_self1, tw_self2]
    have := Rat.mul_nonneg hr (Rat.le_of_lt ht); grind
  · show 0 ≤ tw b c (m3 p q r a b c)
    rw [tw_m3 h, tw_self1, tw_self2, r1]
    have := Rat.mul_nonneg hp (Rat.le_of_lt ht); grind
  · show 0 ≤ tw c a (m3 p q r a b c)
    rw [tw_m3 h, tw_self1, tw_self2, r2]
    have := Rat.mul_nonneg hq (Rat.le_of_lt ht); grind
theorem parts_mid {a b c : Spot} (ht : 0 < tw a b c) : Parts (a, b, c) [(a, b, m3 (1/7) (4/7) (2/7) a b c), (b, c, m3 (2/7) (1/7) (4/7) a b c), (c, a, m3 (4/7) (2/7) (1/7) a b c), (m3 (4/7) (2/7) (1/7) a b c, m3 (1/7) (4/7) (2/7) a b c, m3 (2/7) (1/7) (4/7) a b c)] := by
  have hx : (4/7 : Rat) + 2/7 + 1/7 = 1 := by grind
  have hy : (1/7 : Rat) + 4/7 + 2/7 = 1 := by grind
  have hz : (2/7 : Rat) + 1/7 + 4/7 = 1 := by grind
  have r1 : tw b c a = tw a b c := tw_rot
  have r2 : tw c a b = tw a b c := by rw [tw_rot, tw_rot]
  have r3 : tw b a c = - tw a b c := tw_swap
  have r4 : tw a c b = - tw a b c := by unfold tw; grind
  have r5 : tw c b a = - tw a b c := by unfold tw; grind
  have ix := in_m3 (a := a) (b := b) (c := c) hx ht (by grind) (by grind) (by grind)
  have iy := in_m3 (a := a) (b := b) (c := c) hy ht (by grind) (by grind) (by grind)
  have iz := in_m3 (a := a) (b := b) (c := c) hz ht (by grind) (by grind) (by grind)
  have z : (0 : Rat) ≤ 0 := Rat.le_refl
  have e4 := Rat.le_of_lt ht
  have q1 : 0 ≤ tw b c a := by rw [r1]; exact e4
  have q2 : 0 ≤ tw c a b := by rw [r2]; exact e4
  have ia : InT0 (a, b, c) a := ⟨by simp only [tw_self1]; exact z, q1, by simp only [tw_self2]; exact z⟩
  have ib : InT0 (a, b, c) b := ⟨by simp only [tw_self2]; exact z, by simp only [tw_self1]; exact z, q2⟩
  have ic : InT0 (a, b, c) c := ⟨e4, by simp only [tw_self2]; exact z, by simp only [tw_self1]; exact z⟩
  have ne : ∀ {x y : Spot}, (∃ w, 0 < tw x y w ∨ tw x y w < 0) → x ≠ y := fun ⟨w, h⟩ e => by rw [e, tw_self0] at h; exact h.elim Rat.lt_irrefl Rat.lt_irrefl
  refine ⟨?_, ?_, ?_, ?_⟩
  · simp only [List.mem_cons, List.not_mem_nil, or_false, forall_eq_or_imp, forall_eq, tw3]
    refine ⟨?_, ?_, ?_, ?_⟩
    · rw [tw_m3 hy, tw_self1, tw_self2]; grind
    · rw [tw_m3 hz, tw_self1, tw_self2, r1]; grind
    · rw [tw_m3 hx, tw_self1, tw_self2, r2]; grind
    · unfold m3 tw at *; grind
  · simp only [List.mem_cons, List.not_mem_nil, or_false, forall_eq_or_imp, forall_eq, cns]
    exact ⟨⟨ia, ib, iy⟩, ⟨ib, ic, iz⟩, ⟨ic, ia, ix⟩, ix, iy, iz⟩
  · have yb : tw a (m3 (1/7) (4/7) (2/7) a b c) b = - (2/7) * tw a b c := by rw [tw_m3' hy, tw_self0, tw_self2, r4]; grind
    have yc : tw a (m3 (1/7) (4/7) (2/7) a b c) c = (4/7) * tw a b c := by rw [tw_m3' hy, tw_self0, tw_self2]; grind
    have yx : tw a (m3 (1/7) (4/7) (2/7) a b c) (m3 (4/7) (2/7) (1/7) a b c) = 0 := by unfold m3 tw; grind
    have yz : tw a (m3 (1/7) (4/7) (2/7) a b c) (m3 (2/7) (1/7) (4/7) a b c) = (2/7) * tw a b c := by unfold m3 tw; grind
    have zc : tw b (m3 (2/7) (1/7) (4/7) a b c) c = - (2/7) * tw a b c := by rw [tw_m3' hz, tw_self0, tw_self2, r3]; grind
    have za : tw b (m3 (2/7) (1/7) (4/7) a b c) a = (4/7) * tw a b c := by rw [tw_m3' hz, tw_self0, tw_self2, r1]; grind
    have zy : tw b (m3 (2/7) (1/7) (4/7) a b c) (m3 (1/7) (4/7) (2/7) a b c) = 0 := by unfold m3 tw; grind
    have zx : tw b (m3 (2/7) (1/7) (4/7) a b c) (m3 (4/7) (2/7) (1/7) a b c) = (2/7) * tw a b c := by unfold m3 tw; grind
    have xa : tw c (m3 (4/7) (2/7) (1/7) a b c) a = - (2/7) * tw a b c := by rw [tw_m3' hx, tw_self0, tw_self2, r5]; grind
    have xb : tw c (m3 (4/7) (2/7) (1/7) a b c) b = (4/7) * tw a b c := by rw [tw_m3' hx, tw_self0, tw_self2, r2]; grind
    have xz : tw c (m3 (4/7) (2/7) (1/7) a b c) (m3 (2/7) (1/7) (4/7) a b c) = 0 := by unfold m3 tw; grind
    have xy : tw c (m3 (4/7) (2/7) (1/7) a b c) (m3 (1/7) (4/7) (2/7) a b c) = (2/7) * tw a b c := by unfold m3 tw; grind
    have ny : a ≠ m3 (1/7) (4/7) (2/7) a b c := ne ⟨c, .inl (by rw [yc]; grind)⟩
    have nz : b ≠ m3 (2/7) (1/7) (4/7) a b c := ne ⟨a, .inl (by rw [za]; grind)⟩
    have nxx : c ≠ m3 (4/7) (2/7) (1/7) a b c := ne ⟨b, .inl (by rw [xb]; grind)⟩
    generalize m3 (4/7) (2/7) (1/7) a b c = x at *
    generalize m3 (1/7) (4/7) (2/7) a b c = y at *
    generalize m3 (2/7) (1/7) (4/7) a b c = z' at *
    have G : ∀ {u v p1 p2 p3 q1 q2 q3 : Spot}, u ≠ v → tw u v p1 ≤ 0 → tw u v p2 ≤ 0 → tw u v p3 ≤ 0 → 0 ≤ tw u v q1 → 0 ≤ tw u v q2 → 0 ≤ tw u v q3 → gsep (p1, p2, p3) (q1, q2, q3) := by
      intro u v p1 p2 p3 q1 q2 q3 h h1 h2 h3 h4 h5 h6
      refine ⟨u, v, h, ?_, ?_⟩ <;> simp only [List.mem_cons, List.not_mem_nil, or_false, forall_eq_or_imp, forall_eq, cns]
      · exact ⟨h1, h2, h3⟩
      · exact ⟨h4, h5, h6⟩
    have t1 : tw a y a ≤ 0 ∧ 0 ≤ tw a y a := by rw [tw_self1]; exact ⟨z, z⟩
    have t2 : tw a y y ≤ 0 ∧ 0 ≤ tw a y y := by rw [tw_self2]; exact ⟨z, z⟩
    have t3 : tw b z' b ≤ 0 ∧ 0 ≤ tw b z' b := by rw [tw_self1]; exact ⟨z, z⟩
    have t4 : tw b z' z' ≤ 0 ∧ 0 ≤ tw b z' z' := by rw [tw_self2]; exact ⟨z, z⟩
    have t5 : tw c x c ≤ 0 ∧ 0 ≤ tw c x c := by rw [tw_self1]; exact ⟨z, z⟩
    have t6 : tw c x x ≤ 0 ∧ 0 ≤ tw c x x := by rw [tw_self2]; exact ⟨z, z⟩
    simp only [List.pairwise_cons, List.mem_cons, List.not_mem_nil, or_false, forall_eq_or_imp, forall_eq, false_implies, implies_true, and_true, List.Pairwise.nil]
    refine ⟨⟨?_, ?_, ?_⟩, ⟨?_, ?_⟩, ?_⟩
    · exact gsep_symm (G nz t3.1 (by rw [zc]; grind) t4.1 (by rw [za]; grind) t3.2 (by rw [zy]; exact z))
    · exact G ny t1.1 (by rw [yb]; grind) t2.1 (by rw [yc]; grind) t1.2 (by rw [yx]; exact z)
    · exact G ny t1.1 (by rw [yb]; grind) t2.1 (by rw [yx]; exact z) t2.2 (by rw [yz]; grind)
    · exact gsep_symm (G nxx t5.1 (by rw [xa]; grind) t6.1 (by rw [xb]; grind) t5.2 (by rw [xz]; exact z))
    · exact G nz t3.1 (by rw [zc]; grind) t4.1 (by rw [zx]; grind) (by rw [zy]; exact z) t4.2
    · exact G nxx t5.1 (by rw [xa]; grind) t6.1 t6.2 (by rw [xy]; grind) (by rw [xz]; exact z)
  · simp only [List.map_cons, List.map_nil, qsum, tw3]
    unfold m3 tw
    grind
/-! ### places -/
theorem on_line {a b x : Spot} (hab : a ≠ b) (h : tw a b x = 0) : ∃ t, x = onw a b t := by
  by_cases c : b.1 = a.1
  · have c2 : b.2 - a.2 ≠ 0 := fun z => hab (Prod.ext (by grind) (by grind))
    have h1 : (x.1 - a.1) * (b.2 - a.2) = 0 := by unfold tw at h; rw [c] at h; grind
    have h2 := z_of h1 c2
    refine ⟨(x.2 - a.2) / (b.2 - a.2), Prod.ext ?_ ?_⟩
    · show x.1 = a.1 + _ * (b.1 - a.1)
      rw [c]; grind
    · show x.2 = a.2 + (x.2 - a.2) / (b.2 - a.2) * (b.2 - a.2)
      rw [Rat.div_mul_cancel c2]; grind
  · have c1 : b.1 - a.1 ≠ 0 := fun z => c (by grind)
    refine ⟨(x.1 - a.1) / (b.1 - a.1), Prod.ext ?_ ?_⟩
    · show x.1 = a.1 + (x.1 - a.1) / (b.1 - a.1) * (b.1 - a.1)
      rw [Rat.div_mul_cancel c1]; grind
    · show x.2 = a.2 + (x.1 - a.1) / (b.1 - a.1) * (b.2 - a.2)
      have e : (x.1 - a.1) / (b.1 - a.1) * (b.1 - a.1) = x.1 - a.1 := Rat.div_mul_cancel c1
      have : (b.1 - a.1) * (x.2 - (a.2 + (x.1 - a.1) / (b.1 - a.1) * (b.2 - a.2))) = 0 := by unfold tw at h; grind
      have := q_z c1 this
      grind
theorem tw_on {a b u v : Spot} {t : Rat} : tw u v (onw a b t) = (1 - t) * tw u v a + t * tw u v b := by unfold tw onw; grind
theorem btw_on {p q t : Rat} (h0 : 0 ≤ t) (h1 : t ≤ 1) : btw p (p + t * (q - p)) q := by
  unfold btw
  by_cases c : p ≤ q
  · have n1 := Rat.mul_nonneg h0 (show 0 ≤ q - p by grind)
    have n2 := Rat.mul_nonneg (show 0 ≤ 1 - t by grind) (show 0 ≤ q - p by grind)
    left; constructor <;> grind
  · have n1 := Rat.mul_nonneg h0 (show 0 ≤ p - q by grind)
    have n2 := Rat.mul_nonneg (show 0 ≤ 1 - t by grind) (show 0 ≤ p - q by grind)
    right; constructor <;> grind
theorem on_cases {a b : Spot} {t : Rat} (h0 : 0 ≤ t) (h1 : t ≤ 1) : onw a b t = a ∨ onw a b t = b ∨ amid (onw a b t) a b := by
  have hz : tw a b (onw a b t) = 0 := by rw [tw_on, tw_self1, tw_self2]; grind
  by_cases c1 : onw a b t = a
  · exact .inl c1
  · by_cases c2 : onw a b t = b
    · exact .inr (.inl c2)
    · exact .inr (.inr ⟨hz, (amid_iff hz).mpr ⟨c1, c2, btw_on h0 h1, btw_on h0 h1⟩⟩)
/-- between two: a part of the way -/
theorem amid_on {x a b : Spot} (h : amid x a b) : ∃ t, 0 < t ∧ t < 1 ∧ x = onw a b t := by
  obtain ⟨hz, hx⟩ := h
  have hy := (amid_iff hz).mp hx
  obtain ⟨n1, n2, b1, b2⟩ := hy
  have hab : a ≠ b := fun e => by
    subst e
    apply n1
    refine Prod.ext ?_ ?_ <;> (unfold btw at b1 b2; grind)
  obtain ⟨t, rfl⟩ := on_line hab hz
  have e1 : (onw a b t).1 = a.1 + t * (b.1 - a.1) := rfl
  have e2 : (onw a b t).2 = a.2 + t * (b.2 - a.2) := rfl
  have t0 : t ≠ 0 := fun z => n1 (Prod.ext (by rw [e1, z]; grind) (by rw [e2, z]; grind))
  have t1 : t ≠ 1 := fun z => n2 (Prod.ext (by rw [e1, z]; grind) (by rw [e2, z]; grind))
  have key : ∀ {p q : Rat}, p ≠ q → btw p (p + t * (q - p)) q → 0 ≤ t ∧ t ≤ 1 := by
    intro p q hpq hb
    rcases hb with ⟨g1, g2⟩ | ⟨g1, g2⟩
    · have hd : 0 < q - p := by grind
      exact ⟨q_nn hd (by grind), by have : 0 ≤ 1 - t := q_nn hd (by grind)
                                    grind⟩
    · have hd : 0 < p - q := by grind
      exact ⟨q_nn hd (by grind), by have : 0 ≤ 1 - t := q_nn hd (by grind)
                                    grind⟩
  have : 0 ≤ t ∧ t ≤ 1 := by
    by_cases c : a.1 = b.1
    · have c2 : a.2 ≠ b.2 := fun z => hab (Prod.ext c z)
      exact key c2 b2
    · exact key c b1
  exact ⟨t, by grind, by grind, rfl⟩
/-- the corner ahead -/
def pv (l : List Spot) (k : Nat) : Nat := if k = 0 then l.length - 1 else k - 1
theorem pv_lt {l : List Spot} {k : Nat} (h : k < l.length) : pv l k < l.length := by unfold pv; split <;> omega
theorem nx_pv {l : List Spot} {k : Nat} (h : k < l.length) : nx l (pv l k) = g l k := by
  unfold pv
  split
  · rename_i z
    subst z
    exact nx_last (by omega)
  · rw [nx_in (by omega)]
    congr 1; omega
theorem nx_lt {l : List Spot} {k : Nat} (h : k < l.length) : (k + 1) % l.length < l.length := Nat.mod_lt _ (by omega)
/-- on the line of a side and not at the right of any: on the side -/
theorem Cvx.on_side {l : List Spot} (h : Cvx l) (hn : 3 ≤ l.length) {k : Nat} (hk : k < l.length) {x : Spot} (hx : InC l x) (h0 : tw (g l k) (nx l k) x = 0) : x = g l k ∨ x = nx l k ∨ amid x (g l k) (nx l k) := by
  -- the side behind
  have hk1 := nx_lt hk
  have e1 : g l ((k + 1) % l.length) = nx l k := rfl
  have p1 : 0 < tw (nx l k) (nx l ((k + 1) % l.length)) (g l k) := by
    have := h.rnd ((k + 1) % l.length) k hk1 hk (fun z => ?_) (fun z => ?_)
    · rwa [e1] at this
    · by_cases c : k + 1 < l.length
      · rw [Nat.mod_eq_of_lt c] at z; omega
      · rw [show k + 1 = l.length by omega, Nat.mod_self] at z; omega
    · by_cases c : k + 1 < l.length
      · rw [Nat.mod_eq_of_lt c] at z
        by_cases c' : k + 1 + 1 < l.length
        · rw [Nat.mod_eq_of_lt c'] at z; omega
        · rw [show k + 1 + 1 = l.length by omega, Nat.mod_self] at z; omega
      · rw [show k + 1 = l.length by omega, Nat.mod_self, Nat.mod_eq_of_lt (by omega)] at z; omega
  have hpv := pv_lt hk
  have p2 : 0 < tw (g l (pv l k)) (g l k) (nx l k) := by
    have := h.rnd (pv l k) ((k + 1) % l.length) hpv hk1 (fun z => ?_) (fun z => ?_)
    · rwa [nx_pv hk] at this
    · unfold pv at z
      by_cases c : k + 1 < l.length
      · rw [Nat.mod_eq_of_lt c] at z; split at z <;> omega
      · rw [show k + 1 = l.length by omega, Nat.mod_self] at z; split at z <;> omega
    · have e3 : (pv l k + 1) % l.length = k := by
        unfold pv
        split
        · rename_i z'; rw [show l.length - 1 + 1 = l.length by omega, Nat.mod_self, z']
        · rw [show k - 1 + 1 = k by omega, Nat.mod_eq_of_lt hk]
      rw [e3] at z
      by_cases c : k + 1 < l.length
      · rw [Nat.mod_eq_of_lt c] at z; omega
      · rw [show k + 1 = l.length by omega, Nat.mod_self] at z; omega
  have hab : g l k ≠ nx l k := fun z => by rw [← z, tw_self1] at p1; exact Rat.lt_irrefl p1
  obtain ⟨t, rfl⟩ := on_line hab h0
  have x1 := hx ((k + 1) % l.length) hk1
  rw [e1, tw_on, tw_self1] at x1
  have x2 := hx (pv l k) hpv
  rw [nx_pv hk, tw_on, tw_self2] at x2
  have t1 : 0 ≤ 1 - t := q_nn p1 (by grind)
  have t0 : 0 ≤ t := q_nn p2 (by grind)
  exact on_cases t0 (by grind)
theorem Cvx.amid_in {l : List Spot} (h : Cvx l) {k : Nat} (hk : k < l.length) {x : Spot} (hx : amid x (g l k) (nx l k)) : InC l x := by
  obtain ⟨t, t0, t1, rfl⟩ := amid_on hx
  intro j hj
  rw [tw_on]
  have c1 := h.corner (g_mem hk) j hj
  have c2 := h.corner (g_mem (nx_lt hk)) j hj
  exact Rat.add_nonneg (Rat.mul_nonneg (by grind) c1) (Rat.mul_nonneg (by grind) c2)
/-- where a spot lies -/
inductive Pl where
  | co (k : Nat)
  | si (k : Nat)
  | out
  | ins
open Classical in
noncomputable def plAt (l : List Spot) (x : Spot) (k : Nat) : Option Pl :=
  if x = g l k then some (.co k) else if amid x (g l k) (nx l k) then some (.si k) else none
open Classical in
noncomputable def place (l : List Spot) (x : Spot) : Pl :=
  match (List.range l.length).findSome? (plAt l x) with
  | some p => p
  | none => if ∀ k, k < l.length → 0 < tw (g l k) (nx l k) x then .ins else .out
theorem place_out {l : List Spot} (h : Cvx l) (hn : 3 ≤ l.length) {x : Spot} : place l x = .out ↔ ¬ InC l x := by
  unfold place
  split
  · rename_i p e
    obtain ⟨k, hk, hp⟩ := List.exists_of_findSome?_eq_some e
    have hk' := List.mem_range.mp hk
    unfold plAt at hp
    constructor
    · intro z
      subst z
      split at hp
      · cases hp
      · split at hp <;> cases hp
    · intro z
      split at hp
      · rename_i c
        exact (z (by rw [c]; exact h.corner (g_mem hk'))).elim
      · split at hp
        · rename_i c
          exact (z (h.amid_in hk' c)).elim
        · cases hp
  · rename_i e
    rw [List.findSome?_eq_none_iff] at e
    have no : ∀ k, k < l.length → x ≠ g l k ∧ ¬ amid x (g l k) (nx l k) := fun k hk => by
      have := e k (List.mem_range.mpr hk)
      unfold plAt at this
      split at this
      · cases this
      · split at this
        · cases this
        · exact ⟨by assumption, by assumption⟩
    split
    · rename_i c
      exact ⟨fun z => (by cases z), fun z => (z fun k hk => Rat.le_of_lt (c k hk)).elim⟩
    · rename_i c
      refine ⟨fun _ hin => c fun k hk => ?_, fun _ => rfl⟩
      have h1 := hin k hk
      by_cases c0 : tw (g l k) (nx l k) x = 0
      · rcases h.on_side hn hk hin c0 with z | z | z
        · exact ((no k hk).1 z).elim
        · exact ((no _ (nx_lt hk)).1 z).elim
        · exact ((no k hk).2 z).elim
      · grind
/-! ### bottoms -/
/-- so many parts of D, at most M -/
def Dn (D M : Nat) (x : Rat) : Prop := 0 < D ∧ ∃ k : Int, x * (D : Rat) = (k : Rat) ∧ k.natAbs ≤ M * D
theorem natR {n : Nat} : ((n : Nat) : Rat) = (((n : Nat) : Int) : Rat) := rfl
theorem Dn.eq {D M : Nat} {x : Rat} (h : Dn D M x) : ∃ k : Int, x = (k : Rat) / ((D : Int) : Rat) ∧ k.natAbs ≤ M * D := by
  obtain ⟨h0, k, e, hk⟩ := h
  refine ⟨k, ?_, hk⟩
  have : (((D : Nat) : Int) : Rat) ≠ 0 := cast_ne (by omega)
  rw [natR] at e
  rw [← e, Rat.mul_div_cancel this]
theorem Dn.sz {D M n : Nat} {x : Rat} (h : Dn D M x) (h1 : M * D < 2 ^ n) (h2 : D < 2 ^ n) : Sz n x := by
  obtain ⟨k, rfl, hk⟩ := h.eq
  exact sz_div (by have := h.1; omega) (by omega) (by omega)
theorem Dn.mono {D M M' : Nat} {x : Rat} (h : Dn D M x) (l : M ≤ M') : Dn D M' x := by
  obtain ⟨h0, k, e, hk⟩ := h
  exact ⟨h0, k, e, Nat.le_trans hk (Nat.mul_le_mul_right _ l)⟩
theorem Dn.scale {D M s : Nat} {x : Rat} (h : Dn D M x) (hs : 0 < s) : Dn (D * s) M x := by
  obtain ⟨h0, k, e, hk⟩ := h
  refine ⟨Nat.mul_pos h0 hs, k * s, ?_, ?_⟩
  · rw [natR, Rat.intCast_mul, ← e, Int.natCast_mul, Rat.intCast_mul]
    rw [natR]; grind
  · rw [Int.natAbs_mul, Int.natAbs_natCast, ← Nat.mul_assoc]
    exact Nat.mul_le_mul_right _ hk
theorem Dn.add {D E M N : Nat} {x y : Rat} (h : Dn D M x) (k : Dn E N y) : Dn (D * E) (M + N) (x + y) := by
  obtain ⟨h0, a, e, ha⟩ := h
  obtain ⟨k0, b, f, hb⟩ := k
  refine ⟨Nat.mul_pos h0 k0, a * E + b * D, ?_, ?_⟩
  · rw [natR] at *
    rw [Rat.intCast_add, Rat.intCast_mul, Rat.intCast_mul, ← e, ← f, Int.natCast_mul, Rat.intCast_mul]; grind
  · have h1 : (a * E).natAbs ≤ M * D * E := by rw [Int.natAbs_mul, Int.natAbs_natCast]; exact Nat.mul_le_mul_right _ ha
    have h2 : (b * D).natAbs ≤ N * E * D := by rw [Int.natAbs_mul, Int.natAbs_natCast]; exact Nat.mul_le_mul_right _ hb
    have h3 := Int.natAbs_add_le (a * E) (b * D)
    have e1 : (M + N) * (D * E) = M * D * E + N * E * D := by
      rw [Nat.add_mul, Nat.mul_assoc, Nat.mul_assoc, Nat.mul_comm E D]
    omega
theorem Dn.add1 {D M N : Nat} {x y : Rat} (h : Dn D M x) (k : Dn D N y) : Dn D (M + N) (x + y) := by
  obtain ⟨h0, a, e, ha⟩ := h
  obtain ⟨k0, b, f, hb⟩ := k
  refine ⟨h0, a + b, ?_, ?_⟩
  · rw [natR] at *
    rw [Rat.intCast_add, ← e, ← f]; grind
  · have h3 := Int.natAbs_add_le a b
    rw [Nat.add_mul]; omega
theorem Dn.neg {D M : Nat} {x : Rat} (h : Dn D M x) : Dn D M (-x) := by
  obtain ⟨h0, a, e, ha⟩ := h
  exact ⟨h0, -a, by rw [Rat.intCast_neg, ← e]; grind, by rw [Int.natAbs_neg]; exact ha⟩
theorem Dn.sub1 {D M N : Nat} {x y : Rat} (h : Dn D M x) (k : Dn D N y) : Dn D (M + N) (x - y) := by
  rw [Rat.sub_eq_add_neg]; exact h.add1 k.neg
theorem Dn.mul {D E M N : Nat} {x y : Rat} (h : Dn D M x) (k : Dn E N y) : Dn (D * E) (M * N) (x * y) := by
  obtain ⟨h0, a, e, ha⟩ := h
  obtain ⟨k0, b, f, hb⟩ := k
  refine ⟨Nat.mul_pos h0 k0, a * b, ?_, ?_⟩
  · rw [natR] at *
    rw [Rat.intCast_mul, ← e, ← f, Int.natCast_mul, Rat.intCast_mul]; grind
  · rw [Int.natAbs_mul, show M * N * (D * E) = (M * D) * (N * E) by rw [Nat.mul_mul_mul_comm]]
    exact Nat.mul_le_mul ha hb
def DnS (D M : Nat) (s : Spot) : Prop := Dn D M s.1 ∧ Dn D M s.2
def DnT (D M : Nat) (t : T3) : Prop := DnS D M t.1 ∧ DnS D M t.2.1 ∧ DnS D M t.2.2
theorem DnS.tw {D M : Nat} {a b c : Spot} (ha : DnS D M a) (hb : DnS D M b) (hc : DnS D M c) : Dn (D * D) (8 * (M * M)) (tw a b c) := by
  have h1 := (hb.1.sub1 ha.1).mul (hc.2.sub1 ha.2)
  have h2 := (hc.1.sub1 ha.1).mul (hb.2.sub1 ha.2)
  have h3 := h1.sub1 h2
  have e : (M + M) * (M + M) + (M + M) * (M + M) = 8 * (M * M) := by grind
  rw [e] at h3
  exact h3
/-- sums of many -/
theorem Dn.sum {D M : Nat} (hD : 0 < D) : ∀ {l : List Rat}, (∀ x ∈ l, ∃ E, E ≤ D ∧ Dn E M x) → ∃ E, E ≤ D ^ l.length ∧ Dn E (l.length * M) (qsum l)
  | [], _ => ⟨1, by simp, by decide, 0, by simp [qsum], by simp⟩
  | x :: l, h => by
    obtain ⟨E, hE, e⟩ := Dn.sum hD (l := l) fun y hy => h y (List.mem_cons_of_mem _ hy)
    obtain ⟨E', hE', e'⟩ := h x List.mem_cons_self
    refine ⟨E' * E, ?_, ?_⟩
    · rw [List.length_cons, Nat.pow_succ, Nat.mul_comm]
      exact Nat.mul_le_mul hE hE'
    · have := e'.add e
      rw [List.length_cons, Nat.succ_mul, Nat.add_comm (l.length * M)]
      exact this
end Sd
namespace Sd
open PySem
/-! ### walks over numbers -/
theorem for_rng {t : ATg} {b : AS} {N : DE} {W : AW} {lo : Int} {n : Nat} (R : Nat → DSt → Sto → Prop) (fin : ∀ ρ S, R n ρ S → N.nx ρ S)
    (step : ∀ (F : DSt → Sto → Prop) (k : Nat) ρ S, k < n → R k ρ S → (∀ ρ' S', R (k + 1) ρ' S' → F ρ' S') → t (.int (lo + (k : Int))) ρ S (fun ρ1 S1 => b { nx := F, rt := N.rt, bk := N.nx, ct := F } ρ1 S1 W) W)
    {ρ : DSt} {S : Sto} (h : R 0 ρ S) : forS t b .free N W (rngItems lo n) ρ S := by
  refine for_ind (src := .free) (fun rr ρ S' => ∃ k : Nat, k + rr.length = n ∧ rr = rngItems (lo + (k : Int)) rr.length ∧ R k ρ S') (fun _ _ _ _ => trivial) ?_ ?_ ⟨0, by rw [rng_len]; omega, by rw [rng_len]; congr 1; omega, h⟩
  · rintro ρ S' ⟨k, hk, _, hr⟩
    have : k = n := by simpa using hk
    subst this
    exact fin ρ S' hr
  · rintro F d rr ρ S' ⟨k, hk, he, hr⟩ hF
    have hk' : k + (rr.length + 1) = n := hk
    rw [List.length_cons, rng_cons] at he
    injection he with e1 e2
    subst e1
    exact step F k ρ S' (by omega) hr fun ρ' S'' h' => hF ρ' S'' ⟨k + 1, by omega, by rw [e2, rng_len]; congr 1; omega, h'⟩
theorem atI_nat {l : List D} {k : Nat} (h : k < l.length) : L2.atI l (k : Int) = l[k]? := by
  unfold L2.atI L2.ixN
  rw [if_pos (by omega), if_pos (by omega)]
  rfl
theorem atI_neg {l : List D} {k : Int} (h0 : k < 0) (h1 : 0 ≤ k + l.length) : L2.atI l k = l[(k + l.length).toNat]? := by
  unfold L2.atI L2.ixN
  rw [if_neg (by omega)]
  first | rw [if_pos (by omega)] | skip
  try rfl
theorem map_g {l : List Spot} {k : Nat} (h : k < l.length) : (l.map dS)[k]? = some (dS (g l k)) := by rw [List.getElem?_map, g_get h]; rfl
theorem at_g {l : List Spot} {k : Nat} (h : k < l.length) : L2.atI (l.map dS) (k : Int) = some (dS (g l k)) := by
  rw [atI_nat (by rw [List.length_map]; exact h), map_g h]
theorem at_g0 {l : List Spot} {k : Nat} (h : k < l.length) : L2.atI (l.map dS) (0 + (k : Int)) = some (dS (g l k)) := by rw [Int.zero_add]; exact at_g h
theorem at_pv {l : List Spot} {k : Nat} (h : k < l.length) : L2.atI (l.map dS) ((k : Int) - 1) = some (dS (g l (pv l k))) := by
  unfold pv
  by_cases c : k = 0
  · subst c
    rw [if_pos rfl, atI_neg (by omega) (by rw [List.length_map]; omega), List.length_map]
    rw [show (((0 : Nat) : Int) - 1 + (l.length : Int)).toNat = l.length - 1 by omega]
    exact map_g (by omega)
  · rw [if_neg c, show ((k : Nat) : Int) - 1 = ((k - 1 : Nat) : Int) by omega]
    exact at_g (by omega)
theorem mod_nx {k n : Nat} (hn : 0 < n) : ((k : Int) + 1).fmod (n : Int) = (((k + 1) % n : Nat) : Int) := by
  rw [Int.fmod_eq_emod_of_nonneg _ (by omega)]
  first | exact (Int.natCast_emod (k + 1) n).symm | exact (Int.ofNat_emod (k + 1) n).symm
theorem sds_g {n : Nat} {l : List Spot} (h : ∀ s ∈ l, SzS n s) {k : Nat} (hk : k < l.length) : SzS n (g l k) := h _ (g_mem hk)
/-! ### going round -/
noncomputable instance rndDec (l : List Spot) : Decidable (Rnd l) := Classical.propDecidable _
noncomputable instance cvxDec (l : List Spot) : Decidable (Cvx l) := Classical.propDecidable _
def c_goes_round : Con := fun ds S P _ => match ds with
  | [x] => ∃ (l : List Spot) (n : Nat), x = .tup (l.map dS) ∧ n ≤ 100000 ∧ l.length ≤ 1000 ∧ (∀ s ∈ l, SzS n s) ∧ P (.bl (decide (Rnd l))) S
  | _ => False
theorem neq_dec {a b : Nat} : (!decide ((a : Int) = (b : Int))) = !decide (a = b) := by
  congr 1
  exact decide_eq_decide.mpr ⟨fun h => by omega, fun h => by omega⟩
theorem sgn_ne1 {x : Rat} : (!decide (sgn x = 1)) = !decide (0 < x) := by rw [sgn_dec]
theorem m_goes_round {Γ : Gam} (h46 : Γ.fn 46 = c_turn_of) (a46 : Γ.ar 46 = 3) : Meets Γ 4 z_goes_round c_goes_round := by
  intro ds S P W h
  unfold c_goes_round at h
  split at h
  · obtain ⟨l, n, rfl, hn, hl, hz, hp⟩ := h
    change wZs Γ z_goes_round (retE P) [some (.tup (l.map dS)), none, none, none] S (errW W)
    dsimp only [z_goes_round]
    dsimp only [wZs, wZ, wE, wEs, wT, wTs, wI, lk, List.set, aTru, partS, List.take, List.drop]
    try simp only [List.length_map, q_add, q_sub, q_mul, q_div, q_mod, q_pow, q_lt, q_le, q_gt, q_ge, q_eq, q_ne, q_is, q_isnt, q_isntB, q_isB, q_tb, q_ti, q_tn, q_tt, q_ixQ0, q_ixQ1, q_ixS0, q_ixS1, q_eqQ, q_neQ, q_eqSp, q_neSp, q_eqB, q_neB, q_ixT, q_lenT, q_abs, q_intI, q_intB, q_min2, q_max2, at0, at1, at2, List.length_cons, List.length_nil, sizeLine_eq, Nat.reduceAdd, Nat.reduceLeDiff, true_and, Bool.not_true, Bool.not_false, Bool.false_eq_true, if_false, reduceIte, lk, List.set, whole_int, whole_bl, whole_tup, whole_non]
    refine ⟨by omega, ?_⟩
    rw [show ((l.length : Nat) : Int).toNat = l.length by omega]
    refine for_rng (fun k ρ S' => (∃ x2 x3, ρ = [some (.tup (l.map dS)), some (.int l.length), x2, x3]) ∧ S' = S ∧ ∀ k' j, k' < k → j < l.length → j ≠ k' → j ≠ (k' + 1) % l.length → 0 < tw (g l k') (nx l k') (g l j)) ?_ ?_ ⟨⟨_, _, rfl⟩, rfl, fun k' j h => by omega⟩
    · rintro ρ S' ⟨⟨x2, x3, rfl⟩, rfl, hx⟩
      have hr : Rnd l := fun k j hk hj => hx k j hk hj
      rw [decide_eq_true hr] at hp
      exact ret_now hp
    · rintro F k ρ S' hk ⟨⟨x2, x3, rfl⟩, rfl, hx⟩ hF
      try simp only [List.length_map, q_add, q_sub, q_mul, q_div, q_mod, q_pow, q_lt, q_le, q_gt, q_ge, q_eq, q_ne, q_is, q_isnt, q_isntB, q_isB, q_tb, q_ti, q_tn, q_tt, q_ixQ0, q_ixQ1, q_ixS0, q_ixS1, q_eqQ, q_neQ, q_eqSp, q_neSp, q_eqB, q_neB, q_ixT, q_lenT, q_abs, q_intI, q_intB, q_min2, q_max2, at0, at1, at2, List.length_cons, List.length_nil, sizeLine_eq, Nat.reduceAdd, Nat.reduceLeDiff, true_and, Bool.not_true, Bool.not_false, Bool.false_eq_true, if_false, reduceIte, lk, List.set, whole_int, whole_bl, whole_tup, whole_non]
      refine ⟨by omega, ?_⟩
      rw [show ((l.length : Nat) : Int).toNat = l.length by omega, Int.zero_add]
      refine for_rng (fun j ρ S'' => (∃ x3, ρ = [some (.tup (l.map dS)), some (.int l.length), some (.int k), x3]) ∧ S'' = S' ∧ ∀ j', j' < j → j' ≠ k → j' ≠ (k + 1) % l.length → 0 < tw (g l k) (nx l k) (g l j')) ?_ ?_ ⟨⟨_, rfl⟩, rfl, fun j h => by omega⟩
      · rintro ρ S'' ⟨⟨x3, rfl⟩, rfl, hy⟩
        refine hF _ _ ⟨⟨_, _, rfl⟩, rfl, fun k' j hk' hj n1 n2 => ?_⟩
        by_cases c : k' = k
        · subst c; exact hy j hj n1 n2
        · exact hx k' j (by omega) hj n1 n2
      · rintro G j ρ S'' hj ⟨⟨x3, rfl⟩, rfl, hy⟩ hG
        rw [Int.zero_add]
        have hk1 := nx_lt hk
        try simp only [neq_dec, mod_nx (show 0 < l.length by omega), q_add, q_sub, q_mul, q_div, q_mod, q_pow, q_lt, q_le, q_gt, q_ge, q_eq, q_ne, q_is, q_isnt, q_isntB, q_isB, q_tb, q_ti, q_tn, q_tt, q_ixQ0, q_ixQ1, q_ixS0, q_ixS1, q_eqQ, q_neQ, q_eqSp, q_neSp, q_eqB, q_neB, q_ixT, q_lenT, q_abs, q_intI, q_intB, q_min2, q_max2, at0, at1, at2, List.length_cons, List.length_nil, sizeLine_eq, Nat.reduceAdd, Nat.reduceLeDiff, true_and, Bool.not_true, Bool.not_false, Bool.false_eq_true, if_false, reduceIte, lk, List.set, whole_int, whole_bl, whole_tup, whole_non]
        have next : (0 < tw (g l k) (nx l k) (g l j) ∨ j = k ∨ j = (k + 1) % l.length) → G [some (.tup (l.map dS)), some (.int l.length), some (.int k), some (.int j)] S'' := fun h => by
          refine hG _ _ ⟨⟨_, rfl⟩, rfl, fun j' hj' n1 n2 => ?_⟩
          by_cases c : j' = j
          · subst c
            rcases h with h | h | h
            · exact h
            · exact (n1 h).elim
            · exact (n2 h).elim
          · exact hy j' (by omega) n1 n2
        refine mb_n (fun n1 => ?_) fun e1 => ?_
        · refine ⟨by omega, ?_⟩
          refine mb_n (fun n2 => ?_) fun e2 => ?_
          · try simp only [at_g hk, at_g hk1, at_g hj, h46, a46, q_add, q_sub, q_mul, q_div, q_mod, q_pow, q_lt, q_le, q_gt, q_ge, q_eq, q_ne, q_is, q_isnt, q_isntB, q_isB, q_tb, q_ti, q_tn, q_tt, q_ixQ0, q_ixQ1, q_ixS0, q_ixS1, q_eqQ, q_neQ, q_eqSp, q_neSp, q_eqB, q_neB, q_ixT, q_lenT, q_abs, q_intI, q_intB, q_min2, q_max2, at0, at1, at2, List.length_cons, List.length_nil, sizeLine_eq, Nat.reduceAdd, Nat.reduceLeDiff, true_and, Bool.not_true, Bool.not_false, Bool.false_eq_true, if_false, reduceIte, lk, List.set, whole_int, whole_bl, whole_tup, whole_non]
            refine ⟨by omega, g l k, g l ((k + 1) % l.length), g l j, n, rfl, rfl, rfl, hn, sds_g hz hk, sds_g hz hk1, sds_g hz hj, ?_⟩
            try simp only [true_and, q_add, q_sub, q_mul, q_div, q_mod, q_pow, q_lt, q_le, q_gt, q_ge, q_eq, q_ne, q_is, q_isnt, q_isntB, q_isB, q_tb, q_ti, q_tn, q_tt, q_ixQ0, q_ixQ1, q_ixS0, q_ixS1, q_eqQ, q_neQ, q_eqSp, q_neSp, q_eqB, q_neB, q_ixT, q_lenT, q_abs, q_intI, q_intB, q_min2, q_max2, at0, at1, at2, List.length_cons, List.length_nil, sizeLine_eq, Nat.reduceAdd, Nat.reduceLeDiff, true_and, Bool.not_true, Bool.not_false, Bool.false_eq_true, if_false, reduceIte, lk, List.set, whole_int, whole_bl, whole_tup, whole_non]
            rw [sgn_ne1]
            refine if_nb (fun h => ?_) fun h => next (.inl h)
            have hr : ¬ Rnd l := fun z => h (z k j hk hj n1 n2)
            rw [decide_eq_false hr] at hp
            exact ret_now hp
          · rw [decide_eq_true e2]
            try simp only [true_and, q_add, q_sub, q_mul, q_div, q_mod, q_pow, q_lt, q_le, q_gt, q_ge, q_eq, q_ne, q_is, q_isnt, q_isntB, q_isB, q_tb, q_ti, q_tn, q_tt, q_ixQ0, q_ixQ1, q_ixS0, q_ixS1, q_eqQ, q_neQ, q_eqSp, q_neSp, q_eqB, q_neB, q_ixT, q_lenT, q_abs, q_intI, q_intB, q_min2, q_max2, at0, at1, at2, List.length_cons, List.length_nil, sizeLine_eq, Nat.reduceAdd, Nat.reduceLeDiff, true_and, Bool.not_true, Bool.not_false, Bool.false_eq_true, if_false, reduceIte, lk, List.set, whole_int, whole_bl, whole_tup, whole_non]
            exact next (.inr (.inr e2))
        · rw [decide_eq_true e1]
          try simp only [true_and, q_add, q_sub, q_mul, q_div, q_mod, q_pow, q_lt, q_le, q_gt, q_ge, q_eq, q_ne, q_is, q_isnt, q_isntB, q_isB, q_tb, q_ti, q_tn, q_tt, q_ixQ0, q_ixQ1, q_ixS0, q_ixS1, q_eqQ, q_neQ, q_eqSp, q_neSp, q_eqB, q_neB, q_ixT, q_lenT, q_abs, q_intI, q_intB, q_min2, q_max2, at0, at1, at2, List.length_cons, List.length_nil, sizeLine_eq, Nat.reduceAdd, Nat.reduceLeDiff, true_and, Bool.not_true, Bool.not_false, Bool.false_eq_true, if_false, reduceIte, lk, List.set, whole_int, whole_bl, whole_tup, whole_non]
          exact next (.inr (.inl e1))
  · exact h.elim
/-! ### fields -/
def fieldP (d : D) : Prop := ∃ l : List Spot, d = .tup (l.map dS) ∧ 3 ≤ l.length ∧ l.length ≤ 6 ∧ Cvx l
noncomputable def fieldB (d : D) : Bool := @decide (fieldP d) (Classical.propDecidable _)
theorem map_dS_inj : ∀ {l m : List Spot}, l.map dS = m.map dS → l = m
  | [], [], _ => rfl
  | [], _ :: _, h => by cases h
  | _ :: _, [], h => by cases h
  | a :: l, b :: m, h => by
    injection h with h1 h2
    rw [dS_inj h1, map_dS_inj h2]
theorem fieldB_l {l : List Spot} (h3 : 3 ≤ l.length) (h6 : l.length ≤ 6) : fieldB (.tup (l.map dS)) = decide (Rnd l) := by
  unfold fieldB
  refine decide_eq_decide.mpr ⟨fun ⟨m, e, _, _, hc⟩ => ?_, fun h => ⟨l, rfl, h3, h6, h.cvx⟩⟩
  injection e with e
  rw [map_dS_inj e]
  exact hc.rnd
theorem fieldB_no {d : D} (h : ¬ fieldP d) : fieldB d = false := by
  unfold fieldB
  exact @decide_eq_false _ (Classical.propDecidable _) h
theorem fieldB_yes {d : D} (h : fieldP d) : fieldB d = true := by
  unfold fieldB
  exact @decide_eq_true _ (Classical.propDecidable _) h
theorem fieldB_iff {d : D} : fieldB d = true ↔ fieldP d := ⟨fun h => by
  unfold fieldB at h
  exact @of_decide_eq_true _ (Classical.propDecidable _) h, fieldB_yes⟩
theorem all_spots : ∀ {l : List D}, l.all spotB = true → ∃ m : List Spot, l = m.map dS
  | [], _ => ⟨[], rfl⟩
  | d :: l, h => by
    rw [List.all_cons, Bool.and_eq_true] at h
    obtain ⟨s, rfl⟩ := spotB_s.mp h.1
    obtain ⟨m, rfl⟩ := all_spots h.2
    exact ⟨s :: m, rfl⟩
theorem spots_all : ∀ {m : List Spot}, (m.map dS).all spotB = true
  | [] => rfl
  | s :: m => by rw [List.map_cons, List.all_cons, spotB_s.mpr ⟨s, rfl⟩, spots_all]; rfl
theorem wfs_spots {S : Sto} {n : Nat} : ∀ {m : List Spot}, Wfs S n (m.map dS) ↔ ∀ s ∈ m, SzS n s
  | [] => ⟨fun _ s h => by simp at h, fun _ => trivial⟩
  | s :: m => ⟨fun h x hx => by
      rcases List.mem_cons.mp hx with rfl | z
      · exact wf_s_inv h.1
      · exact wfs_spots.mp h.2 x z, fun h => ⟨wf_s (h s List.mem_cons_self), wfs_spots.mpr fun x hx => h x (List.mem_cons_of_mem _ hx)⟩⟩
def c_is_field : Con := fun ds S P _ => match ds with
  | [d] => (∃ n, n ≤ 100000 ∧ Wf S n d) ∧ P (.bl (fieldB d)) S
  | _ => False
theorem m_is_field {Γ : Gam} (h33 : Γ.fn 33 = c_is_spot) (a33 : Γ.ar 33 = 1) (h75 : Γ.fn 75 = c_goes_round) (a75 : Γ.ar 75 = 1) : Meets Γ 2 z_is_field c_is_field := by
  intro ds S P W h
  unfold c_is_field at h
  split at h
  · rename_i d
    obtain ⟨⟨n, hn, hw⟩, hp⟩ := h
    change wZs Γ z_is_field (retE P) [some d, none] S (errW W)
    dsimp only [z_is_field]
    dsimp only [wZs, wZ, wE, wEs, wT, wTs, wI, lk, List.set, aTru, partS, List.take, List.drop]
    rcases hw.thing with ⟨l, rfl, hl⟩ | ⟨hd, hk⟩
    · try simp only [isi_tup, q_add, q_sub, q_mul, q_div, q_mod, q_pow, q_lt, q_le, q_gt, q_ge, q_eq, q_ne, q_is, q_isnt, q_isntB, q_isB, q_tb, q_ti, q_tn, q_tt, q_ixQ0, q_ixQ1, q_ixS0, q_ixS1, q_eqQ, q_neQ, q_eqSp, q_neSp, q_eqB, q_neB, q_ixT, q_lenT, q_abs, q_intI, q_intB, q_min2, q_max2, at0, at1, at2, List.length_cons, List.length_nil, sizeLine_eq, Nat.reduceAdd, Nat.reduceLeDiff, true_and, Bool.not_true, Bool.not_false, Bool.false_eq_true, if_false, reduceIte, lk, List.set, whole_int, whole_bl, whole_tup, whole_non]
      have no : (¬ 3 ≤ l.length ∨ ¬ l.length ≤ 6) → P (.bl false) S := fun z => by
        rw [fieldB_no] at hp
        · exact hp
        · rintro ⟨m, e, h3, h6, _⟩
          injection e with e
          rw [e, List.length_map] at z
          omega
      refine mb_d (fun c3 => ?_) fun c3 => ?_
      · rw [decide_eq_true c3]; try simp only [true_and, q_add, q_sub, q_mul, q_div, q_mod, q_pow, q_lt, q_le, q_gt, q_ge, q_eq, q_ne, q_is, q_isnt, q_isntB, q_isB, q_tb, q_ti, q_tn, q_tt, q_ixQ0, q_ixQ1, q_ixS0, q_ixS1, q_eqQ, q_neQ, q_eqSp, q_neSp, q_eqB, q_neB, q_ixT, q_lenT, q_abs, q_intI, q_intB, q_min2, q_max2, at0, at1, at2, List.length_cons, List.length_nil, sizeLine_eq, Nat.reduceAdd, Nat.reduceLeDiff, true_and, Bool.not_true, Bool.not_false, Bool.false_eq_true, if_false, reduceIte, lk, List.set, whole_int, whole_bl, whole_tup, whole_non]
        exact ret_now (no (.inl (by omega)))
      · refine if_b (fun c6 => ?_) fun c6 => ?_
        · exact ret_now (no (.inr (by omega)))
        · intro p np
          refine lc_map (fun d => .bl (spotB d)) np trivial (by rw [sizeLine_eq]; omega) (fun d hd T K G hT hK => ?_) fun T hT eT => ?_
          · try simp only [wipeD, h33, a33, q_add, q_sub, q_mul, q_div, q_mod, q_pow, q_lt, q_le, q_gt, q_ge, q_eq, q_ne, q_is, q_isnt, q_isntB, q_isB, q_tb, q_ti, q_tn, q_tt, q_ixQ0, q_ixQ1, q_ixS0, q_ixS1, q_eqQ, q_neQ, q_eqSp, q_neSp, q_eqB, q_neB, q_ixT, q_lenT, q_abs, q_intI, q_intB, q_min2, q_max2, at0, at1, at2, List.length_cons, List.length_nil, sizeLine_eq, Nat.reduceAdd, Nat.reduceLeDiff, true_and, Bool.not_true, Bool.not_false, Bool.false_eq_true, if_false, reduceIte, lk, List.set, whole_int, whole_bl, whole_tup, whole_non]
            exact ⟨⟨n, Wf.lw (lw_le hT) (Nat.le_refl _) d (wfs_mem.mp hl d hd)⟩, hK T (Sto.le.refl _)⟩
          · have eT' : T p = some (.lst true ((l.map spotB).map D.bl)) := by rw [eT, List.map_map]; rfl
            rw [q_all eT']
            have ea : (l.map spotB).all id = l.all spotB := by rw [List.all_map]; rfl
            rw [ea]
            try simp only [h75, a75, q_add, q_sub, q_mul, q_div, q_mod, q_pow, q_lt, q_le, q_gt, q_ge, q_eq, q_ne, q_is, q_isnt, q_isntB, q_isB, q_tb, q_ti, q_tn, q_tt, q_ixQ0, q_ixQ1, q_ixS0, q_ixS1, q_eqQ, q_neQ, q_eqSp, q_neSp, q_eqB, q_neB, q_ixT, q_lenT, q_abs, q_intI, q_intB, q_min2, q_max2, at0, at1, at2, List.length_cons, List.length_nil, sizeLine_eq, Nat.reduceAdd, Nat.reduceLeDiff, true_and, Bool.not_true, Bool.not_false, Bool.false_eq_true, if_false, reduceIte, lk, List.set, whole_int, whole_bl, whole_tup, whole_non]
            cases hs : l.all spotB with
            | false =>
              try simp only [true_and, q_add, q_sub, q_mul, q_div, q_mod, q_pow, q_lt, q_le, q_gt, q_ge, q_eq, q_ne, q_is, q_isnt, q_isntB, q_isB, q_tb, q_ti, q_tn, q_tt, q_ixQ0, q_ixQ1, q_ixS0, q_ixS1, q_eqQ, q_neQ, q_eqSp, q_neSp, q_eqB, q_neB, q_ixT, q_lenT, q_abs, q_intI, q_intB, q_min2, q_max2, at0, at1, at2, List.length_cons, List.length_nil, sizeLine_eq, Nat.reduceAdd, Nat.reduceLeDiff, true_and, Bool.not_true, Bool.not_false, Bool.false_eq_true, if_false, reduceIte, lk, List.set, whole_int, whole_bl, whole_tup, whole_non]
              rw [fieldB_no] at hp
              · exact ret_le hT hp
              · rintro ⟨m, e, _⟩
                injection e with e
                rw [e, spots_all] at hs
                cases hs
            | true =>
              try simp only [true_and, q_add, q_sub, q_mul, q_div, q_mod, q_pow, q_lt, q_le, q_gt, q_ge, q_eq, q_ne, q_is, q_isnt, q_isntB, q_isB, q_tb, q_ti, q_tn, q_tt, q_ixQ0, q_ixQ1, q_ixS0, q_ixS1, q_eqQ, q_neQ, q_eqSp, q_neSp, q_eqB, q_neB, q_ixT, q_lenT, q_abs, q_intI, q_intB, q_min2, q_max2, at0, at1, at2, List.length_cons, List.length_nil, sizeLine_eq, Nat.reduceAdd, Nat.reduceLeDiff, true_and, Bool.not_true, Bool.not_false, Bool.false_eq_true, if_false, reduceIte, lk, List.set, whole_int, whole_bl, whole_tup, whole_non]
              obtain ⟨m, rfl⟩ := all_spots hs
              rw [List.length_map] at c3 c6
              rw [fieldB_l (by omega) (by omega)] at hp
              exact ⟨m, n, rfl, hn, by omega, wfs_spots.mp hl, ret_le hT hp⟩
    · rw [fieldB_no (fun ⟨m, e, _⟩ => hd _ e)] at hp
      try simp only [isi_not hk hd, q_add, q_sub, q_mul, q_div, q_mod, q_pow, q_lt, q_le, q_gt, q_ge, q_eq, q_ne, q_is, q_isnt, q_isntB, q_isB, q_tb, q_ti, q_tn, q_tt, q_ixQ0, q_ixQ1, q_ixS0, q_ixS1, q_eqQ, q_neQ, q_eqSp, q_neSp, q_eqB, q_neB, q_ixT, q_lenT, q_abs, q_intI, q_intB, q_min2, q_max2, at0, at1, at2, List.length_cons, List.length_nil, sizeLine_eq, Nat.reduceAdd, Nat.reduceLeDiff, true_and, Bool.not_true, Bool.not_false, Bool.false_eq_true, if_false, reduceIte, lk, List.set, whole_int, whole_bl, whole_tup, whole_non]
      exact ret_now hp
  · exact h.elim
/-- look_field: a field, or NoField -/
def c_look_field : Con := fun ds S P W => match ds with
  | [d] => (∃ n, n ≤ 100000 ∧ Wf S n d) ∧ (fieldP d → P .non S) ∧ (¬ fieldP d → W 3 none S)
  | _ => False
theorem m_look_field {Γ : Gam} (h76 : Γ.fn 76 = c_is_field) (a76 : Γ.ar 76 = 1) : Meets Γ 1 z_look_field c_look_field := by
  intro ds S P W h
  unfold c_look_field at h
  split at h
  · rename_i d
    obtain ⟨hw, h1, h2⟩ := h
    change wZs Γ z_look_field (retE P) [some d] S (errW W)
    dsimp only [z_look_field]
    dsimp only [wZs, wZ, wE, wEs, wT, wTs, wI, lk, List.set, aTru, partS, List.take, List.drop]
    try simp only [h76, a76, q_add, q_sub, q_mul, q_div, q_mod, q_pow, q_lt, q_le, q_gt, q_ge, q_eq, q_ne, q_is, q_isnt, q_isntB, q_isB, q_tb, q_ti, q_tn, q_tt, q_ixQ0, q_ixQ1, q_ixS0, q_ixS1, q_eqQ, q_neQ, q_eqSp, q_neSp, q_eqB, q_neB, q_ixT, q_lenT, q_abs, q_intI, q_intB, q_min2, q_max2, at0, at1, at2, List.length_cons, List.length_nil, sizeLine_eq, Nat.reduceAdd, Nat.reduceLeDiff, true_and, Bool.not_true, Bool.not_false, Bool.false_eq_true, if_false, reduceIte, lk, List.set, whole_int, whole_bl, whole_tup, whole_non]
    refine ⟨hw, ?_⟩
    by_cases c : fieldP d
    · rw [fieldB_yes c]; try simp only [true_and, q_add, q_sub, q_mul, q_div, q_mod, q_pow, q_lt, q_le, q_gt, q_ge, q_eq, q_ne, q_is, q_isnt, q_isntB, q_isB, q_tb, q_ti, q_tn, q_tt, q_ixQ0, q_ixQ1, q_ixS0, q_ixS1, q_eqQ, q_neQ, q_eqSp, q_neSp, q_eqB, q_neB, q_ixT, q_lenT, q_abs, q_intI, q_intB, q_min2, q_max2, at0, at1, at2, List.length_cons, List.length_nil, sizeLine_eq, Nat.reduceAdd, Nat.reduceLeDiff, true_and, Bool.not_true, Bool.not_false, Bool.false_eq_true, if_false, reduceIte, lk, List.set, whole_int, whole_bl, whole_tup, whole_non]
      exact ⟨S, Sto.le.refl _, h1 c⟩
    · rw [fieldB_no c]; try simp only [true_and, q_add, q_sub, q_mul, q_div, q_mod, q_pow, q_lt, q_le, q_gt, q_ge, q_eq, q_ne, q_is, q_isnt, q_isntB, q_isB, q_tb, q_ti, q_tn, q_tt, q_ixQ0, q_ixQ1, q_ixS0, q_ixS1, q_eqQ, q_neQ, q_eqSp, q_neSp, q_eqB, q_neB, q_ixT, q_lenT, q_abs, q_intI, q_intB, q_min2, q_max2, at0, at1, at2, List.length_cons, List.length_nil, sizeLine_eq, Nat.reduceAdd, Nat.reduceLeDiff, true_and, Bool.not_true, Bool.not_false, Bool.false_eq_true, if_false, reduceIte, lk, List.set, whole_int, whole_bl, whole_tup, whole_non]
      exact err_now (h2 c)
  · exact h.elim
/-- twice what goes round: the fan's sum -/
theorem fan_app {a b c : Spot} : ∀ {l : List Spot}, fan a (l ++ [b, c]) = fan a (l ++ [b]) + tw a b c
  | [] => by simp only [List.nil_append, fan]; grind
  | [x] => by simp only [List.cons_append, List.nil_append, fan]; grind
  | x :: y :: l => by
    have := fan_app (a := a) (b := b) (c := c) (l := y :: l)
    simp only [List.cons_append, fan] at this ⊢
    rw [this]; grind
theorem take_g {l : List Spot} {k : Nat} (h : k < l.length) : l.take (k + 1) = l.take k ++ [g l k] := by
  rw [List.take_add_one, g_get h]; rfl
def c_twice_round : Con := fun ds S P _ => match ds with
  | [x] => ∃ (l : List Spot), x = .tup (l.map dS) ∧ 2 ≤ l.length ∧ l.length ≤ 1000 ∧ (∀ s ∈ l, SzS 500 s) ∧ (∀ k, Sz 4499 (ar2 (l.take k))) ∧ P (dQ (ar2 l)) S
  | _ => False
theorem m_twice_round {Γ : Gam} (h14 : Γ.fn 14 = c_added) (a14 : Γ.ar 14 = 2) (h45 : Γ.fn 45 = c_twice_of) (a45 : Γ.ar 45 = 3) : Meets Γ 3 z_twice_round c_twice_round := by
  intro ds S P W h
  unfold c_twice_round at h
  split at h
  · obtain ⟨l, rfl, h2, hl, hz, hk, hp⟩ := h
    change wZs Γ z_twice_round (retE P) [some (.tup (l.map dS)), none, none] S (errW W)
    dsimp only [z_twice_round]
    dsimp only [wZs, wZ, wE, wEs, wT, wTs, wI, lk, List.set, aTru, partS, List.take, List.drop]
    try simp only [List.length_map, q_add, q_sub, q_mul, q_div, q_mod, q_pow, q_lt, q_le, q_gt, q_ge, q_eq, q_ne, q_is, q_isnt, q_isntB, q_isB, q_tb, q_ti, q_tn, q_tt, q_ixQ0, q_ixQ1, q_ixS0, q_ixS1, q_eqQ, q_neQ, q_eqSp, q_neSp, q_eqB, q_neB, q_ixT, q_lenT, q_abs, q_intI, q_intB, q_min2, q_max2, at0, at1, at2, List.length_cons, List.length_nil, sizeLine_eq, Nat.reduceAdd, Nat.reduceLeDiff, true_and, Bool.not_true, Bool.not_false, Bool.false_eq_true, if_false, reduceIte, lk, List.set, whole_int, whole_bl, whole_tup, whole_non]
    refine ⟨⟨by omega, by omega, by omega, by omega⟩, ?_⟩
    have e0 : D.tup [.int 0, .int 1] = dQ 0 := rfl
    rw [e0]
    refine for_rng (fun k ρ S' => (∃ x2, ρ = [some (.tup (l.map dS)), some (dQ (ar2 (l.take (k + 2)))), x2]) ∧ S' = S) ?_ ?_ ⟨⟨none, ?_⟩, rfl⟩
    · rintro ρ S' ⟨⟨x2, rfl⟩, rfl⟩
      rw [List.take_of_length_le (by omega)]
      exact ret_now hp
    · rintro F k ρ S' hk' ⟨⟨x2, rfl⟩, rfl⟩ hF
      have b1 : k + 1 < l.length := by omega
      have b2 : k + 1 + 1 < l.length := by omega
      have i1 : (1 : Int) + (k : Int) = ((k + 1 : Nat) : Int) := by omega
      have i2 : (1 : Int) + (k : Int) + 1 = ((k + 1 + 1 : Nat) : Int) := by omega
      try simp only [i1, i2, at_g (show 0 < l.length by omega), at_g b1, h14, a14, h45, a45, q_add, q_sub, q_mul, q_div, q_mod, q_pow, q_lt, q_le, q_gt, q_ge, q_eq, q_ne, q_is, q_isnt, q_isntB, q_isB, q_tb, q_ti, q_tn, q_tt, q_ixQ0, q_ixQ1, q_ixS0, q_ixS1, q_eqQ, q_neQ, q_eqSp, q_neSp, q_eqB, q_neB, q_ixT, q_lenT, q_abs, q_intI, q_intB, q_min2, q_max2, at0, at1, at2, List.length_cons, List.length_nil, sizeLine_eq, Nat.reduceAdd, Nat.reduceLeDiff, true_and, Bool.not_true, Bool.not_false, Bool.false_eq_true, if_false, reduceIte, lk, List.set, whole_int, whole_bl, whole_tup, whole_non]
      have z0 : L2.atI (l.map dS) 0 = some (dS (g l 0)) := at_g (show 0 < l.length by omega)
      have i3 : ((k + 1 : Nat) : Int) + 1 = ((k + 1 + 1 : Nat) : Int) := by omega
      try simp only [z0, i3, at_g b2, q_add, q_sub, q_mul, q_div, q_mod, q_pow, q_lt, q_le, q_gt, q_ge, q_eq, q_ne, q_is, q_isnt, q_isntB, q_isB, q_tb, q_ti, q_tn, q_tt, q_ixQ0, q_ixQ1, q_ixS0, q_ixS1, q_eqQ, q_neQ, q_eqSp, q_neSp, q_eqB, q_neB, q_ixT, q_lenT, q_abs, q_intI, q_intB, q_min2, q_max2, at0, at1, at2, List.length_cons, List.length_nil, sizeLine_eq, Nat.reduceAdd, Nat.reduceLeDiff, true_and, Bool.not_true, Bool.not_false, Bool.false_eq_true, if_false, reduceIte, lk, List.set, whole_int, whole_bl, whole_tup, whole_non]
      refine ⟨g l 0, g l (k + 1), g l (k + 1 + 1), rfl, rfl, rfl, sds_g hz (by omega) |>.mono (by decide), sds_g hz b1 |>.mono (by decide), sds_g hz b2 |>.mono (by decide), ?_⟩
      have zt := ((sds_g hz (show 0 < l.length by omega)).tw (sds_g hz b1) (sds_g hz b2))
      refine added_Q (hk _) (zt.mono (by decide)) ?_
      refine hF _ _ ⟨⟨some (.int ((k + 1 : Nat) : Int)), ?_⟩, rfl⟩
      have e : ar2 (l.take (k + 1 + 2)) = ar2 (l.take (k + 2)) + tw (g l 0) (g l (k + 1)) (g l (k + 1 + 1)) := by
        rw [take_g (l := l) (k := k + 1 + 1) (by omega), take_g (l := l) (k := k + 1) (by omega)]
        match l, h2 with
        | a :: m, _ =>
          have e2 : (a :: m).take (k + 1) = a :: m.take k := rfl
          rw [e2]
          show fan a (m.take k ++ [g (a :: m) (k + 1)] ++ [g (a :: m) (k + 1 + 1)]) = fan a (m.take k ++ [g (a :: m) (k + 1)]) + _
          rw [List.append_assoc]
          exact fan_app
      rw [e]
    · rw [show ar2 (l.take (0 + 2)) = 0 by
        match l, h2 with
        | a :: b :: m, _ => rfl]
  · exact h.elim
def c_field_twice : Con := fun ds S P W => match ds with
  | [d] => (∃ n, n ≤ 100000 ∧ Wf S n d) ∧ (∀ l : List Spot, d = .tup (l.map dS) → 3 ≤ l.length → l.length ≤ 6 → Cvx l → (∀ s ∈ l, SzS 500 s) ∧ (∀ k, Sz 4499 (ar2 (l.take k))) ∧ P (dQ (ar2 l)) S) ∧ (¬ fieldP d → W 3 none S)
  | _ => False
theorem m_field_twice {Γ : Gam} (h77 : Γ.fn 77 = c_look_field) (a77 : Γ.ar 77 = 1) (h78 : Γ.fn 78 = c_twice_round) (a78 : Γ.ar 78 = 1) : Meets Γ 1 z_field_twice c_field_twice := by
  intro ds S P W h
  unfold c_field_twice at h
  split at h
  · rename_i d
    obtain ⟨hw, h1, h2⟩ := h
    change wZs Γ z_field_twice (retE P) [some d] S (errW W)
    dsimp only [z_field_twice]
    dsimp only [wZs, wZ, wE, wEs, wT, wTs, wI, lk, List.set, aTru, partS, List.take, List.drop]
    try simp only [h77, a77, h78, a78, q_add, q_sub, q_mul, q_div, q_mod, q_pow, q_lt, q_le, q_gt, q_ge, q_eq, q_ne, q_is, q_isnt, q_isntB, q_isB, q_tb, q_ti, q_tn, q_tt, q_ixQ0, q_ixQ1, q_ixS0, q_ixS1, q_eqQ, q_neQ, q_eqSp, q_neSp, q_eqB, q_neB, q_ixT, q_lenT, q_abs, q_intI, q_intB, q_min2, q_max2, at0, at1, at2, List.length_cons, List.length_nil, sizeLine_eq, Nat.reduceAdd, Nat.reduceLeDiff, true_and, Bool.not_true, Bool.not_false, Bool.false_eq_true, if_false, reduceIte, lk, List.set, whole_int, whole_bl, whole_tup, whole_non]
    refine ⟨hw, fun hf => ?_, fun hf => err_now (h2 hf)⟩
    obtain ⟨l, rfl, h3, h6, hc⟩ := hf
    obtain ⟨z1, z2, z3⟩ := h1 l rfl h3 h6 hc
    exact ⟨l, rfl, by omega, by omega, z1, z2, ret_now z3⟩
  · exact h.elim
/-! ### places -/
def dPl : Pl → D
  | .co k => .tup [.str "corner", .int k]
  | .si k => .tup [.str "side", .int k]
  | .out => .tup [.str "out"]
  | .ins => .tup [.str "inside"]
def c_place_among : Con := fun ds S P _ => match ds with
  | [x, y] => ∃ (l : List Spot) (s : Spot), x = .tup (l.map dS) ∧ y = dS s ∧ 0 < l.length ∧ l.length ≤ 1000 ∧ (∀ s ∈ l, SzS 4000 s) ∧ SzS 4000 s ∧ ∀ S', Sto.le S S' → P (dPl (place l s)) S'
  | _ => False
theorem range_snoc {k : Nat} : List.range (k + 1) = List.range k ++ [k] := List.range_succ
theorem m_place_among {Γ : Gam} (h46 : Γ.fn 46 = c_turn_of) (a46 : Γ.ar 46 = 3) (h47 : Γ.fn 47 = c_is_amid) (a47 : Γ.ar 47 = 3) : Meets Γ 4 z_place_among c_place_among := by
  intro ds S P W h
  unfold c_place_among at h
  split at h
  · obtain ⟨l, s, rfl, rfl, h1, hl, hz, hs, hp⟩ := h
    change wZs Γ z_place_among (retE P) [some (.tup (l.map dS)), some (dS s), none, none] S (errW W)
    dsimp only [z_place_among]
    dsimp only [wZs, wZ, wE, wEs, wT, wTs, wI, lk, List.set, aTru, partS, List.take, List.drop]
    try simp only [List.length_map, q_add, q_sub, q_mul, q_div, q_mod, q_pow, q_lt, q_le, q_gt, q_ge, q_eq, q_ne, q_is, q_isnt, q_isntB, q_isB, q_tb, q_ti, q_tn, q_tt, q_ixQ0, q_ixQ1, q_ixS0, q_ixS1, q_eqQ, q_neQ, q_eqSp, q_neSp, q_eqB, q_neB, q_ixT, q_lenT, q_abs, q_intI, q_intB, q_min2, q_max2, at0, at1, at2, List.length_cons, List.length_nil, sizeLine_eq, Nat.reduceAdd, Nat.reduceLeDiff, true_and, Bool.not_true, Bool.not_false, Bool.false_eq_true, if_false, reduceIte, lk, List.set, whole_int, whole_bl, whole_tup, whole_non]
    refine ⟨by omega, ?_⟩
    rw [show ((l.length : Nat) : Int).toNat = l.length by omega]
    have ret : ∀ {k : Nat} {p : Pl}, k < l.length → (List.range k).findSome? (plAt l s) = none → plAt l s k = some p → place l s = p := fun {k p} hk e1 e2 => by
      unfold place
      have : (List.range l.length).findSome? (plAt l s) = some p := by
        have e3 : List.range l.length = List.range k ++ (List.range (l.length - k)).map (k + ·) := by
          rw [← List.range_add]; congr 1; omega
        rw [e3, List.findSome?_append, e1]
        have e4 : l.length - k = (l.length - k - 1) + 1 := by omega
        rw [e4, List.range_succ_eq_map, List.map_cons, List.findSome?_cons, Nat.add_zero, e2]
        rfl
      rw [this]
    refine for_rng (fun k ρ S' => (∃ x3, ρ = [some (.tup (l.map dS)), some (dS s), some (.int l.length), x3]) ∧ S' = S ∧ (List.range k).findSome? (plAt l s) = none) ?_ ?_ ⟨⟨_, rfl⟩, rfl, rfl⟩
    · rintro ρ S' ⟨⟨x3, rfl⟩, rfl, hx⟩
      try simp only [true_and, q_add, q_sub, q_mul, q_div, q_mod, q_pow, q_lt, q_le, q_gt, q_ge, q_eq, q_ne, q_is, q_isnt, q_isntB, q_isB, q_tb, q_ti, q_tn, q_tt, q_ixQ0, q_ixQ1, q_ixS0, q_ixS1, q_eqQ, q_neQ, q_eqSp, q_neSp, q_eqB, q_neB, q_ixT, q_lenT, q_abs, q_intI, q_intB, q_min2, q_max2, at0, at1, at2, List.length_cons, List.length_nil, sizeLine_eq, Nat.reduceAdd, Nat.reduceLeDiff, true_and, Bool.not_true, Bool.not_false, Bool.false_eq_true, if_false, reduceIte, lk, List.set, whole_int, whole_bl, whole_tup, whole_non]
      refine ⟨by omega, fun p np => ?_⟩
      rw [show ((l.length : Nat) : Int).toNat = l.length by omega]
      have er : rngItems 0 l.length = (List.range l.length).map (fun k : Nat => D.int (k : Int)) := by
        unfold rngItems
        exact List.map_congr_left fun k _ => by rw [Int.zero_add]
      rw [er]
      refine lc_enc (l := List.range l.length) (fun k : Nat => D.int (k : Int)) (fun k : Nat => .int (sgn (tw (g l (pv l k)) (g l k) s))) np trivial (by rw [List.length_range, sizeLine_eq]; omega) (fun k hk T K G hT hK => ?_) fun T hT eT => ?_
      · have hk' := List.mem_range.mp hk
        try simp only [wipeD, at_pv hk', at_g hk', h46, a46, q_add, q_sub, q_mul, q_div, q_mod, q_pow, q_lt, q_le, q_gt, q_ge, q_eq, q_ne, q_is, q_isnt, q_isntB, q_isB, q_tb, q_ti, q_tn, q_tt, q_ixQ0, q_ixQ1, q_ixS0, q_ixS1, q_eqQ, q_neQ, q_eqSp, q_neSp, q_eqB, q_neB, q_ixT, q_lenT, q_abs, q_intI, q_intB, q_min2, q_max2, at0, at1, at2, List.length_cons, List.length_nil, sizeLine_eq, Nat.reduceAdd, Nat.reduceLeDiff, true_and, Bool.not_true, Bool.not_false, Bool.false_eq_true, if_false, reduceIte, lk, List.set, whole_int, whole_bl, whole_tup, whole_non]
        exact ⟨g l (pv l k), g l k, s, 4000, rfl, rfl, rfl, by decide, sds_g hz (pv_lt hk'), sds_g hz hk', hs, hK T (Sto.le.refl _)⟩
      · refine q_min1 (l := (List.range l.length).map fun k => sgn (tw (g l (pv l k)) (g l k) s)) (by rw [eT, List.map_map]; rfl) (by rw [List.length_map, List.length_range]; exact h1) fun m hm hle => ?_
        have hall : ¬ m < 1 ↔ ∀ k, k < l.length → 0 < tw (g l k) (nx l k) s := by
          constructor
          · intro hm1 k hk
            have := hle _ (List.mem_map.mpr ⟨(k + 1) % l.length, List.mem_range.mpr (nx_lt hk), rfl⟩)
            have e : pv l ((k + 1) % l.length) = k := by
              unfold pv
              by_cases c : k + 1 < l.length
              · rw [Nat.mod_eq_of_lt c, if_neg (by omega)]; omega
              · rw [show k + 1 = l.length by omega, Nat.mod_self, if_pos rfl]; omega
            rw [e] at this
            have h2 : sgn (tw (g l k) (nx l k) s) = 1 := by
              have h3 : 1 ≤ sgn (tw (g l k) (nx l k) s) := by
                have : m ≤ sgn (tw (g l k) (nx l k) s) := this
                omega
              unfold sgn at h3 ⊢
              split at h3
              · rename_i c; rw [if_pos c]
              · split at h3 <;> omega
            exact sgn_pos.mp h2
          · intro h
            obtain ⟨k, hk, rfl⟩ := List.mem_map.mp hm
            have hk' := List.mem_range.mp hk
            have := h (pv l k) (pv_lt hk')
            rw [nx_pv hk'] at this
            rw [sgn_pos.mpr this]
            omega
        have pl : place l s = if (∀ k, k < l.length → 0 < tw (g l k) (nx l k) s) then .ins else .out := by
          unfold place
          rw [hx]
        try simp only [true_and, q_add, q_sub, q_mul, q_div, q_mod, q_pow, q_lt, q_le, q_gt, q_ge, q_eq, q_ne, q_is, q_isnt, q_isntB, q_isB, q_tb, q_ti, q_tn, q_tt, q_ixQ0, q_ixQ1, q_ixS0, q_ixS1, q_eqQ, q_neQ, q_eqSp, q_neSp, q_eqB, q_neB, q_ixT, q_lenT, q_abs, q_intI, q_intB, q_min2, q_max2, at0, at1, at2, List.length_cons, List.length_nil, sizeLine_eq, Nat.reduceAdd, Nat.reduceLeDiff, true_and, Bool.not_true, Bool.not_false, Bool.false_eq_true, if_false, reduceIte, lk, List.set, whole_int, whole_bl, whole_tup, whole_non]
        refine if_b (fun c => ?_) fun c => ?_
        · rw [pl, if_neg (fun z => hall.mpr z c)] at hp
          exact ret_now (hp _ hT)
        · rw [pl, if_pos (hall.mp c)] at hp
          exact ret_now (hp _ hT)
    · rintro F k ρ S' hk ⟨⟨x3, rfl⟩, rfl, hx⟩ hF
      have hk1 := nx_lt hk
      try simp only [at_g hk, Int.zero_add, q_add, q_sub, q_mul, q_div, q_mod, q_pow, q_lt, q_le, q_gt, q_ge, q_eq, q_ne, q_is, q_isnt, q_isntB, q_isB, q_tb, q_ti, q_tn, q_tt, q_ixQ0, q_ixQ1, q_ixS0, q_ixS1, q_eqQ, q_neQ, q_eqSp, q_neSp, q_eqB, q_neB, q_ixT, q_lenT, q_abs, q_intI, q_intB, q_min2, q_max2, at0, at1, at2, List.length_cons, List.length_nil, sizeLine_eq, Nat.reduceAdd, Nat.reduceLeDiff, true_and, Bool.not_true, Bool.not_false, Bool.false_eq_true, if_false, reduceIte, lk, List.set, whole_int, whole_bl, whole_tup, whole_non]
      refine if_b (fun c => ?_) fun c => ?_
      · have e : plAt l s k = some (.co k) := by unfold plAt; rw [if_pos c]
        rw [ret hk hx e] at hp
        exact ret_now (hp _ (Sto.le.refl _))
      · try simp only [mod_nx (show 0 < l.length by omega), at_g hk, at_g hk1, h47, a47, q_add, q_sub, q_mul, q_div, q_mod, q_pow, q_lt, q_le, q_gt, q_ge, q_eq, q_ne, q_is, q_isnt, q_isntB, q_isB, q_tb, q_ti, q_tn, q_tt, q_ixQ0, q_ixQ1, q_ixS0, q_ixS1, q_eqQ, q_neQ, q_eqSp, q_neSp, q_eqB, q_neB, q_ixT, q_lenT, q_abs, q_intI, q_intB, q_min2, q_max2, at0, at1, at2, List.length_cons, List.length_nil, sizeLine_eq, Nat.reduceAdd, Nat.reduceLeDiff, true_and, Bool.not_true, Bool.not_false, Bool.false_eq_true, if_false, reduceIte, lk, List.set, whole_int, whole_bl, whole_tup, whole_non]
        refine ⟨by omega, s, g l k, g l ((k + 1) % l.length), rfl, rfl, rfl, hs, sds_g hz hk, sds_g hz hk1, ?_⟩
        try simp only [true_and, q_add, q_sub, q_mul, q_div, q_mod, q_pow, q_lt, q_le, q_gt, q_ge, q_eq, q_ne, q_is, q_isnt, q_isntB, q_isB, q_tb, q_ti, q_tn, q_tt, q_ixQ0, q_ixQ1, q_ixS0, q_ixS1, q_eqQ, q_neQ, q_eqSp, q_neSp, q_eqB, q_neB, q_ixT, q_lenT, q_abs, q_intI, q_intB, q_min2, q_max2, at0, at1, at2, List.length_cons, List.length_nil, sizeLine_eq, Nat.reduceAdd, Nat.reduceLeDiff, true_and, Bool.not_true, Bool.not_false, Bool.false_eq_true, if_false, reduceIte, lk, List.set, whole_int, whole_bl, whole_tup, whole_non]
        refine if_b (fun c2 => ?_) fun c2 => ?_
        · have e : plAt l s k = some (.si k) := by unfold plAt; rw [if_neg c]; exact if_pos c2
          rw [ret hk hx e] at hp
          exact ret_now (hp _ (Sto.le.refl _))
        · refine hF _ _ ⟨⟨_, rfl⟩, rfl, ?_⟩
          have e : plAt l s k = none := by unfold plAt; rw [if_neg c]; exact if_neg c2
          rw [range_snoc, List.findSome?_append, hx]
          simp only [List.findSome?_cons, e, List.findSome?_nil, Option.or]
  · exact h.elim
def c_place_in : Con := fun ds S P W => match ds with
  | [d, y] => (∃ n, n ≤ 100000 ∧ Wf S n d) ∧ (∃ s, y = dS s ∧ SzS 4000 s ∧ ∀ l : List Spot, d = .tup (l.map dS) → 3 ≤ l.length → l.length ≤ 6 → Cvx l → (∀ s ∈ l, SzS 4000 s) ∧ ∀ S', Sto.le S S' → P (dPl (place l s)) S') ∧ (¬ fieldP d → W 3 none S)
  | _ => False
theorem m_place_in {Γ : Gam} (h77 : Γ.fn 77 = c_look_field) (a77 : Γ.ar 77 = 1) (h81 : Γ.fn 81 = c_place_among) (a81 : Γ.ar 81 = 2) : Meets Γ 2 z_place_in c_place_in := by
  intro ds S P W h
  unfold c_place_in at h
  split at h
  · rename_i d y
    obtain ⟨hw, ⟨s, rfl, hs, h1⟩, h2⟩ := h
    change wZs Γ z_place_in (retE P) [some d, some (dS s)] S (errW W)
    dsimp only [z_place_in]
    dsimp only [wZs, wZ, wE, wEs, wT, wTs, wI, lk, List.set, aTru, partS, List.take, List.drop]
    try simp only [h77, a77, h81, a81, q_add, q_sub, q_mul, q_div, q_mod, q_pow, q_lt, q_le, q_gt, q_ge, q_eq, q_ne, q_is, q_isnt, q_isntB, q_isB, q_tb, q_ti, q_tn, q_tt, q_ixQ0, q_ixQ1, q_ixS0, q_ixS1, q_eqQ, q_neQ, q_eqSp, q_neSp, q_eqB, q_neB, q_ixT, q_lenT, q_abs, q_intI, q_intB, q_min2, q_max2, at0, at1, at2, List.length_cons, List.length_nil, sizeLine_eq, Nat.reduceAdd, Nat.reduceLeDiff, true_and, Bool.not_true, Bool.not_false, Bool.false_eq_true, if_false, reduceIte, lk, List.set, whole_int, whole_bl, whole_tup, whole_non]
    refine ⟨hw, fun hf => ?_, fun hf => err_now (h2 hf)⟩
    obtain ⟨l, rfl, h3, h6, hc⟩ := hf
    obtain ⟨z1, z2⟩ := h1 l rfl h3 h6 hc
    exact ⟨l, s, rfl, rfl, by omega, by omega, z1, hs, fun S' hS => ret_now (z2 S' hS)⟩
  · exact h.elim
end Sd
namespace Sd
open PySem
/-! ### the eight rows, bent -/
theorem Cvx.map {F : Spot → Spot} {c : Rat} (hc : 0 < c) (h : ∀ p q r, tw (F p) (F q) (F r) = c * tw p q r) : ∀ {l : List Spot}, Cvx l → Cvx (l.map F)
  | [], _ => trivial
  | a :: l, hl => ⟨List.pairwise_map.mpr (hl.1.imp fun {x y} z => by rw [h]; exact Rat.mul_pos hc z), Cvx.map hc h hl.2⟩
def castS (p : Int × Int) : Spot := ((p.1 : Rat), (p.2 : Rat))
def twI (a b c : Int × Int) : Int := (b.1 - a.1) * (c.2 - a.2) - (c.1 - a.1) * (b.2 - a.2)
theorem tw_cast {a b c : Int × Int} : tw (castS a) (castS b) (castS c) = (twI a b c : Rat) := by
  unfold twI tw castS
  simp only [Rat.intCast_sub, Rat.intCast_mul]
def cvxI : List (Int × Int) → Bool
  | [] => true
  | a :: l => decide (l.Pairwise fun b c => 0 < twI a b c) && cvxI l
theorem cvxI_ok : ∀ {l : List (Int × Int)}, cvxI l = true → Cvx (l.map castS)
  | [], _ => trivial
  | a :: l, h => by
    unfold cvxI at h
    rw [Bool.and_eq_true] at h
    exact ⟨List.pairwise_map.mpr ((of_decide_eq_true h.1).imp fun {x y} z => by rw [tw_cast]; exact Rat.intCast_pos.mpr z), cvxI_ok h.2⟩
def rows8 : List (List (Int × Int)) := [[(0, 0), (1, 0), (0, 1)], [(0, 0), (1, 0), (1, 1), (0, 1)], [(0, 0), (3, 0), (2, 1), (0, 1)], [(0, 0), (2, 0), (3, 2), (0, 1)], [(0, 0), (2, 0), (3, 1), (1, 3), (0, 2)], [(1, 0), (3, 1), (2, 3)], [(0, 0), (1, 0), (2, 1), (2, 2), (1, 2), (0, 1)], [(0, 0), (3, 0), (4, 2), (3, 4), (1, 4), (0, 3)]]
def goodR (l : List (Int × Int)) : Bool := cvxI l && (decide (3 ≤ l.length) && (decide (l.length ≤ 6) && l.all fun p => decide (0 ≤ p.1 ∧ p.1 ≤ 4 ∧ 0 ≤ p.2 ∧ p.2 ≤ 4)))
theorem rows8_ok : ∀ l ∈ rows8, goodR l = true := by decide
/-- a row's spot, bent -/
def aff (a b c d e f w : Int) (p : Int × Int) : Spot := (((a * p.1 + b * p.2 + e * w : Int) : Rat) / (w : Rat), ((c * (a * p.1 + b * p.2) + d * p.2 + f * w : Int) : Rat) / (w : Rat))
theorem aff_cvx {a b c d e f w : Int} (ha : 0 < a) (hd : 0 < d) (hw : 0 < w) {l : List (Int × Int)} (h : Cvx (l.map castS)) : Cvx (l.map (aff a b c d e f w)) := by
  have hw' : 0 < (w : Rat) := Rat.intCast_pos.mpr hw
  have hv : 0 < (w : Rat)⁻¹ := Rat.inv_pos.mpr hw'
  have e1 : l.map (aff a b c d e f w) = (l.map castS).map fun p => (((a : Rat) * p.1 + b * p.2 + e * w) * (w : Rat)⁻¹, (c * (a * p.1 + b * p.2) + d * p.2 + f * w) * (w : Rat)⁻¹) := by
    rw [List.map_map]
    refine List.map_congr_left fun p _ => ?_
    unfold aff castS
    simp only [Function.comp, Rat.intCast_add, Rat.intCast_mul, Rat.div_def]
  rw [e1]
  refine Cvx.map (c := a * d * (w : Rat)⁻¹ * (w : Rat)⁻¹) ?_ (fun p q r => ?_) h
  · exact Rat.mul_pos (Rat.mul_pos (Rat.mul_pos (Rat.intCast_pos.mpr ha) (Rat.intCast_pos.mpr hd)) hv) hv
  · unfold tw; grind
theorem dn_div {t w : Int} {M : Nat} (hw : 0 < w) (h : t.natAbs ≤ M * w.toNat) : Dn w.toNat M ((t : Rat) / (w : Rat)) := by
  refine ⟨by omega, t, ?_, h⟩
  rw [natR, show ((w.toNat : Nat) : Int) = w by omega]
  exact Rat.div_mul_cancel (cast_ne (by omega))
/-- bounds of the bent spots -/
theorem aff_dn {a b c d e f w : Int} {N : Nat} (ha : a.natAbs ≤ 10 ^ 7) (hb : b.natAbs ≤ 10 ^ 7) (hc : c.natAbs ≤ 10 ^ 7) (hd : d.natAbs ≤ 10 ^ 7) (he : e.natAbs ≤ N) (hf : f.natAbs ≤ N) (hw : 0 < w) {p : Int × Int} (hp : 0 ≤ p.1 ∧ p.1 ≤ 4 ∧ 0 ≤ p.2 ∧ p.2 ≤ 4) : DnS w.toNat (N + 10 ^ 15) (aff a b c d e f w p) := by
  obtain ⟨p0, p1, q0, q1⟩ := hp
  have m1 : (a * p.1).natAbs ≤ 10 ^ 7 * 4 := by rw [Int.natAbs_mul]; exact Nat.mul_le_mul ha (by omega)
  have m2 : (b * p.2).natAbs ≤ 10 ^ 7 * 4 := by rw [Int.natAbs_mul]; exact Nat.mul_le_mul hb (by omega)
  have m3 : (d * p.2).natAbs ≤ 10 ^ 7 * 4 := by rw [Int.natAbs_mul]; exact Nat.mul_le_mul hd (by omega)
  have m4 : (c * (a * p.1 + b * p.2)).natAbs ≤ 10 ^ 7 * (8 * 10 ^ 7) := by rw [Int.natAbs_mul]; exact Nat.mul_le_mul hc (by omega)
  have m5 : (e * w).natAbs ≤ N * w.toNat := by rw [Int.natAbs_mul]; exact Nat.mul_le_mul he (by omega)
  have m6 : (f * w).natAbs ≤ N * w.toNat := by rw [Int.natAbs_mul]; exact Nat.mul_le_mul hf (by omega)
  have hw1 : 10 ^ 15 * 1 ≤ 10 ^ 15 * w.toNat := Nat.mul_le_mul_left _ (by omega)
  refine ⟨dn_div hw ?_, dn_div hw ?_⟩
  · rw [Nat.add_mul]; omega
  · rw [Nat.add_mul]; omega
def dI (p : Int × Int) : D := .tup [.int p.1, .int p.2]
/-- what a drawn field is -/
structure Fld (f : List Spot) (D M : Nat) : Prop where
  cvx : Cvx f
  lo : 3 ≤ f.length
  hi : f.length ≤ 6
  d0 : 0 < D
  d6 : D ≤ 6
  dn : ∀ s ∈ f, DnS D M s
def dL (f : List Spot) : D := .tup (f.map dS)
def c_law_field : Con := fun ds S P _ => match ds with
  | [.ref a, .int far] => ∃ n, Row S a n ∧ n < 2 ^ 50 ∧ 0 ≤ far ∧ far ≤ 10 ^ 30 ∧ ∀ f D S', Fld f D (far.toNat + 10 ^ 15) → Row S' a (n + 9) → Rowed S S' a → P (dL f) S'
  | _ => False
theorem cut_from {l : List D} {k : Nat} : cutD l (some (k : Int)) none = l.drop k := by
  unfold cutD
  rw [HT.sIx_nat, HT.sIx_none]
  by_cases h : k ≤ l.length
  · rw [Nat.min_eq_left h, List.take_of_length_le (by rw [List.length_drop]; omega)]
  · rw [Nat.min_eq_right (by omega), List.drop_of_length_le (Nat.le_refl _), List.drop_of_length_le (by omega)]
    simp
theorem cut_to {l : List D} {k : Nat} : cutD l none (some (k : Int)) = l.take k := by
  unfold cutD
  rw [HT.sIx_nat, HT.sIx_none, List.drop_zero, Nat.sub_zero]
  by_cases h : k ≤ l.length
  · rw [Nat.min_eq_left h]
  · rw [Nat.min_eq_right (by omega), List.take_of_length_le (Nat.le_refl _), List.take_of_length_le (by omega)]
theorem Fld.rot {f : List Spot} {D M k : Nat} (h : Fld f D M) : Fld (f.drop k ++ f.take k) D M where
  cvx := Cvx.rot.mp (by rw [List.take_append_drop]; exact h.cvx)
  lo := by have := h.lo; rw [List.length_append, List.length_drop, List.length_take]; omega
  hi := by have := h.hi; rw [List.length_append, List.length_drop, List.length_take]; omega
  d0 := h.d0
  d6 := h.d6
  dn := fun s hs => h.dn s (by
    rcases List.mem_append.mp hs with z | z
    · exact List.mem_of_mem_drop z
    · exact List.mem_of_mem_take z)
theorem q_catL {S : Sto} {P : PD} {a b : Addr} {w v : Bool} {l m : List D} (e1 : S a = some (.lst w l)) (e2 : S b = some (.lst v m)) (hz : l.length + m.length ≤ sizeLine) (h : ∀ p, S p = none → P (.ref p) (S.up p (.lst true (l ++ m)))) : opS .Add (.ref a) (.ref b) S P := by
  rw [q_cat, e1, e2]
  exact ⟨hz, h⟩
/-- how a row's loop goes: a list of spots found -/
theorem m_law_field {Γ : Gam} (h0 : Γ.fn 0 = c_law_take_2) (a0 : Γ.ar 0 = 2) (h4 : Γ.fn 4 = c_law_lowest) (a4 : Γ.ar 4 = 2) : Meets Γ 18 z_law_field c_law_field := by
  intro ds S P W h
  unfold c_law_field at h
  split at h
  · rename_i a far
    obtain ⟨n, r, hn, f0, f1, h⟩ := h
    change wZs Γ z_law_field (retE P) [some (.ref a), some (.int far), none, none, none, none, none, none, none, none, none, none, none, none, none, none, none, none] S (errW W)
    refine cut 5 (fun ρ S' => ∃ q base x2, ρ = [some (.ref a), some (.int far), x2, some (.ref q), none, none, none, none, none, none, none, none, none, none, none, none, none, none] ∧ base ∈ rows8 ∧ q ≠ a ∧ S' q = some (.lst true (base.map dI)) ∧ Row S' a (n + 1) ∧ Rowed S S' a) (fun G hG => ?_) ?_
    · dsimp only [z_law_field]
      dsimp only [wZs, wZ, wE, wEs, wT, wTs, wI, lk, List.set, aTru, partS, List.take, List.drop]
      try simp only [h0, a0, q_add, q_sub, q_mul, q_div, q_mod, q_pow, q_lt, q_le, q_gt, q_ge, q_eq, q_ne, q_is, q_isnt, q_isntB, q_isB, q_tb, q_ti, q_tn, q_tt, q_ixQ0, q_ixQ1, q_ixS0, q_ixS1, q_eqQ, q_neQ, q_eqSp, q_neSp, q_eqB, q_neB, q_ixT, q_lenT, q_abs, q_intI, q_intB, q_min2, q_max2, at0, at1, at2, List.length_cons, List.length_nil, sizeLine_eq, Nat.reduceAdd, Nat.reduceLeDiff, true_and, Bool.not_true, Bool.not_false, Bool.false_eq_true, if_false, reduceIte, lk, List.set, whole_int, whole_bl, whole_tup, whole_non]
      intro p1 np1
      have lT1 := up_ls (o := .lst true [.tup [.int 0, .int 0], .tup [.int 1, .int 0], .tup [.int 0, .int 1]]) np1
      have ep1 : (S.up p1 (.lst true [.tup [.int 0, .int 0], .tup [.int 1, .int 0], .tup [.int 0, .int 1]])) p1 = some (.lst true [.tup [.int 0, .int 0], .tup [.int 1, .int 0], .tup [.int 0, .int 1]]) := up_same
      generalize S.up p1 (.lst true [.tup [.int 0, .int 0], .tup [.int 1, .int 0], .tup [.int 0, .int 1]]) = T1 at *
      intro p2 np2
      have lT2 := up_ls (o := .lst true [.tup [.int 0, .int 0], .tup [.int 1, .int 0], .tup [.int 1, .int 1], .tup [.int 0, .int 1]]) np2
      have ep2 : (T1.up p2 (.lst true [.tup [.int 0, .int 0], .tup [.int 1, .int 0], .tup [.int 1, .int 1], .tup [.int 0, .int 1]])) p2 = some (.lst true [.tup [.int 0, .int 0], .tup [.int 1, .int 0], .tup [.int 1, .int 1], .tup [.int 0, .int 1]]) := up_same
      generalize T1.up p2 (.lst true [.tup [.int 0, .int 0], .tup [.int 1, .int 0], .tup [.int 1, .int 1], .tup [.int 0, .int 1]]) = T2 at *
      intro p3 np3
      have lT3 := up_ls (o := .lst true [.tup [.int 0, .int 0], .tup [.int 3, .int 0], .tup [.int 2, .int 1], .tup [.int 0, .int 1]]) np3
      have ep3 : (T2.up p3 (.lst true [.tup [.int 0, .int 0], .tup [.int 3, .int 0], .tup [.int 2, .int 1], .tup [.int 0, .int 1]])) p3 = some (.lst true [.tup [.int 0, .int 0], .tup [.int 3, .int 0], .tup [.int 2, .int 1], .tup [.int 0, .int 1]]) := up_same
      generalize T2.up p3 (.lst true [.tup [.int 0, .int 0], .tup [.int 3, .int 0], .tup [.int 2, .int 1], .tup [.int 0, .int 1]]) = T3 at *
      intro q4 nq4
      have lT4 := up_ls (o := .lst true [.ref p1, .ref p2, .ref p3]) nq4
      have eq4 : (T3.up q4 (.lst true [.ref p1, .ref p2, .ref p3])) q4 = some (.lst true [.ref p1, .ref p2, .ref p3]) := up_same
      generalize T3.up q4 (.lst true [.ref p1, .ref p2, .ref p3]) = T4 at *
      try simp only [true_and, q_add, q_sub, q_mul, q_div, q_mod, q_pow, q_lt, q_le, q_gt, q_ge, q_eq, q_ne, q_is, q_isnt, q_isntB, q_isB, q_tb, q_ti, q_tn, q_tt, q_ixQ0, q_ixQ1, q_ixS0, q_ixS1, q_eqQ, q_neQ, q_eqSp, q_neSp, q_eqB, q_neB, q_ixT, q_lenT, q_abs, q_intI, q_intB, q_min2, q_max2, at0, at1, at2, List.length_cons, List.length_nil, sizeLine_eq, Nat.reduceAdd, Nat.reduceLeDiff, true_and, Bool.not_true, Bool.not_false, Bool.false_eq_true, if_false, reduceIte, lk, List.set, whole_int, whole_bl, whole_tup, whole_non]
      intro p4 np4
      have lT5 := up_ls (o := .lst true [.tup [.int 0, .int 0], .tup [.int 2, .int 0], .tup [.int 3, .int 2], .tup [.int 0, .int 1]]) np4
      have ep4 : (T4.up p4 (.lst true [.tup [.int 0, .int 0], .tup [.int 2, .int 0], .tup [.int 3, .int 2], .tup [.int 0, .int 1]])) p4 = some (.lst true [.tup [.int 0, .int 0], .tup [.int 2, .int 0], .tup [.int 3, .int 2], .tup [.int 0, .int 1]]) := up_same
      generalize T4.up p4 (.lst true [.tup [.int 0, .int 0], .tup [.int 2, .int 0], .tup [.int 3, .int 2], .tup [.int 0, .int 1]]) = T5 at *
      intro p5 np5
      have lT6 := up_ls (o := .lst true [.tup [.int 0, .int 0], .tup [.int 2, .int 0], .tup [.int 3, .int 1], .tup [.int 1, .int 3], .tup [.int 0, .int 2]]) np5
      have ep5 : (T5.up p5 (.lst true [.tup [.int 0, .int 0], .tup [.int 2, .int 0], .tup [.int 3, .int 1], .tup [.int 1, .int 3], .tup [.int 0, .int 2]])) p5 = some (.lst true [.tup [.int 0, .int 0], .tup [.int 2, .int 0], .tup [.int 3, .int 1], .tup [.int 1, .int 3], .tup [.int 0, .int 2]]) := up_same
      generalize T5.up p5 (.lst true [.tup [.int 0, .int 0], .tup [.int 2, .int 0], .tup [.int 3, .int 1], .tup [.int 1, .int 3], .tup [.int 0, .int 2]]) = T6 at *
      intro q7 nq7
      have lT7 := up_ls (o := .lst true [.ref p4, .ref p5]) nq7
      have eq7 : (T6.up q7 (.lst true [.ref p4, .ref p5])) q7 = some (.lst true [.ref p4, .ref p5]) := up_same
      generalize T6.up q7 (.lst true [.ref p4, .ref p5]) = T7 at *
      refine q_catL ((lT5.trans (lT6.trans (lT7))) _ _ eq4) (eq7) (by rw [sizeLine_eq]; (first | decide | (simp only [List.length_append, List.length_cons, List.length_nil]; decide))) ?_
      simp only [List.cons_append, List.nil_append]
      intro q8 nq8
      have lT8 := up_ls (o := .lst true [.ref p1, .ref p2, .ref p3, .ref p4, .ref p5]) nq8
      have eq8 : (T7.up q8 (.lst true [.ref p1, .ref p2, .ref p3, .ref p4, .ref p5])) q8 = some (.lst true [.ref p1, .ref p2, .ref p3, .ref p4, .ref p5]) := up_same
      generalize T7.up q8 (.lst true [.ref p1, .ref p2, .ref p3, .ref p4, .ref p5]) = T8 at *
      try simp only [true_and, q_add, q_sub, q_mul, q_div, q_mod, q_pow, q_lt, q_le, q_gt, q_ge, q_eq, q_ne, q_is, q_isnt, q_isntB, q_isB, q_tb, q_ti, q_tn, q_tt, q_ixQ0, q_ixQ1, q_ixS0, q_ixS1, q_eqQ, q_neQ, q_eqSp, q_neSp, q_eqB, q_neB, q_ixT, q_lenT, q_abs, q_intI, q_intB, q_min2, q_max2, at0, at1, at2, List.length_cons, List.length_nil, sizeLine_eq, Nat.reduceAdd, Nat.reduceLeDiff, true_and, Bool.not_true, Bool.not_false, Bool.false_eq_true, if_false, reduceIte, lk, List.set, whole_int, whole_bl, whole_tup, whole_non]
      intro p6 np6
      have lT9 := up_ls (o := .lst true [.tup [.int 1, .int 0], .tup [.int 3, .int 1], .tup [.int 2, .int 3]]) np6
      have ep6 : (T8.up p6 (.lst true [.tup [.int 1, .int 0], .tup [.int 3, .int 1], .tup [.int 2, .int 3]])) p6 = some (.lst true [.tup [.int 1, .int 0], .tup [.int 3, .int 1], .tup [.int 2, .int 3]]) := up_same
      generalize T8.up p6 (.lst true [.tup [.int 1, .int 0], .tup [.int 3, .int 1], .tup [.int 2, .int 3]]) = T9 at *
      intro p7 np7
      have lT10 := up_ls (o := .lst true [.tup [.int 0, .int 0], .tup [.int 1, .int 0], .tup [.int 2, .int 1], .tup [.int 2, .int 2], .tup [.int 1, .int 2], .tup [.int 0, .int 1]]) np7
      have ep7 : (T9.up p7 (.lst true [.tup [.int 0, .int 0], .tup [.int 1, .int 0], .tup [.int 2, .int 1], .tup [.int 2, .int 2], .tup [.int 1, .int 2], .tup [.int 0, .int 1]])) p7 = some (.lst true [.tup [.int 0, .int 0], .tup [.int 1, .int 0], .tup [.int 2, .int 1], .tup [.int 2, .int 2], .tup [.int 1, .int 2], .tup [.int 0, .int 1]]) := up_same
      generalize T9.up p7 (.lst true [.tup [.int 0, .int 0], .tup [.int 1, .int 0], .tup [.int 2, .int 1], .tup [.int 2, .int 2], .tup [.int 1, .int 2], .tup [.int 0, .int 1]]) = T10 at *
      intro q11 nq11
      have lT11 := up_ls (o := .lst true [.ref p6, .ref p7]) nq11
      have eq11 : (T10.up q11 (.lst true [.ref p6, .ref p7])) q11 = some (.lst true [.ref p6, .ref p7]) := up_same
      generalize T10.up q11 (.lst true [.ref p6, .ref p7]) = T11 at *
      refine q_catL ((lT9.trans (lT10.trans (lT11))) _ _ eq8) (eq11) (by rw [sizeLine_eq]; (first | decide | (simp only [List.length_append, List.length_cons, List.length_nil]; decide))) ?_
      simp only [List.cons_append, List.nil_append]
      intro q12 nq12
      have lT12 := up_ls (o := .lst true [.ref p1, .ref p2, .ref p3, .ref p4, .ref p5, .ref p6, .ref p7]) nq12
      have eq12 : (T11.up q12 (.lst true [.ref p1, .ref p2, .ref p3, .ref p4, .ref p5, .ref p6, .ref p7])) q12 = some (.lst true [.ref p1, .ref p2, .ref p3, .ref p4, .ref p5, .ref p6, .ref p7]) := up_same
      generalize T11.up q12 (.lst true [.ref p1, .ref p2, .ref p3, .ref p4, .ref p5, .ref p6, .ref p7]) = T12 at *
      try simp only [true_and, q_add, q_sub, q_mul, q_div, q_mod, q_pow, q_lt, q_le, q_gt, q_ge, q_eq, q_ne, q_is, q_isnt, q_isntB, q_isB, q_tb, q_ti, q_tn, q_tt, q_ixQ0, q_ixQ1, q_ixS0, q_ixS1, q_eqQ, q_neQ, q_eqSp, q_neSp, q_eqB, q_neB, q_ixT, q_lenT, q_abs, q_intI, q_intB, q_min2, q_max2, at0, at1, at2, List.length_cons, List.length_nil, sizeLine_eq, Nat.reduceAdd, Nat.reduceLeDiff, true_and, Bool.not_true, Bool.not_false, Bool.false_eq_true, if_false, reduceIte, lk, List.set, whole_int, whole_bl, whole_tup, whole_non]
      try simp only [q_isL, eq12, q_add, q_sub, q_mul, q_div, q_mod, q_pow, q_lt, q_le, q_gt, q_ge, q_eq, q_ne, q_is, q_isnt, q_isntB, q_isB, q_tb, q_ti, q_tn, q_tt, q_ixQ0, q_ixQ1, q_ixS0, q_ixS1, q_eqQ, q_neQ, q_eqSp, q_neSp, q_eqB, q_neB, q_ixT, q_lenT, q_abs, q_intI, q_intB, q_min2, q_max2, at0, at1, at2, List.length_cons, List.length_nil, sizeLine_eq, Nat.reduceAdd, Nat.reduceLeDiff, true_and, Bool.not_true, Bool.not_false, Bool.false_eq_true, if_false, reduceIte, lk, List.set, whole_int, whole_bl, whole_tup, whole_non]
      intro p8 np8
      have lT13 := up_ls (o := .lst true [.tup [.int 0, .int 0], .tup [.int 3, .int 0], .tup [.int 4, .int 2], .tup [.int 3, .int 4], .tup [.int 1, .int 4], .tup [.int 0, .int 3]]) np8
      have ep8 : (T12.up p8 (.lst true [.tup [.int 0, .int 0], .tup [.int 3, .int 0], .tup [.int 4, .int 2], .tup [.int 3, .int 4], .tup [.int 1, .int 4], .tup [.int 0, .int 3]])) p8 = some (.lst true [.tup [.int 0, .int 0], .tup [.int 3, .int 0], .tup [.int 4, .int 2], .tup [.int 3, .int 4], .tup [.int 1, .int 4], .tup [.int 0, .int 3]]) := up_same
      generalize T12.up p8 (.lst true [.tup [.int 0, .int 0], .tup [.int 3, .int 0], .tup [.int 4, .int 2], .tup [.int 3, .int 4], .tup [.int 1, .int 4], .tup [.int 0, .int 3]]) = T13 at *
      have ec : T13 q12 = some (.lst true [.ref p1, .ref p2, .ref p3, .ref p4, .ref p5, .ref p6, .ref p7]) := (lT13) _ _ eq12
      try simp only [q_append, ec, q_add, q_sub, q_mul, q_div, q_mod, q_pow, q_lt, q_le, q_gt, q_ge, q_eq, q_ne, q_is, q_isnt, q_isntB, q_isB, q_tb, q_ti, q_tn, q_tt, q_ixQ0, q_ixQ1, q_ixS0, q_ixS1, q_eqQ, q_neQ, q_eqSp, q_neSp, q_eqB, q_neB, q_ixT, q_lenT, q_abs, q_intI, q_intB, q_min2, q_max2, at0, at1, at2, List.length_cons, List.length_nil, sizeLine_eq, Nat.reduceAdd, Nat.reduceLeDiff, true_and, Bool.not_true, Bool.not_false, Bool.false_eq_true, if_false, reduceIte, lk, List.set, whole_int, whole_bl, whole_tup, whole_non]
      refine ⟨by decide, ?_⟩
      simp only [List.cons_append, List.nil_append]
      have ra : Row T13 a n := r.le (lT1.trans (lT2.trans (lT3.trans (lT4.trans (lT5.trans (lT6.trans (lT7.trans (lT8.trans (lT9.trans (lT10.trans (lT11.trans (lT12.trans (lT13)))))))))))))
      have dc : q12 ≠ a := (r.le (lT1.trans (lT2.trans (lT3.trans (lT4.trans (lT5.trans (lT6.trans (lT7.trans (lT8.trans (lT9.trans (lT10.trans (lT11)))))))))))).ne nq12
      have hu : Rowed S (T13.up q12 (.lst true [.ref p1, .ref p2, .ref p3, .ref p4, .ref p5, .ref p6, .ref p7, .ref p8])) q12 := (le_rowed (lT1.trans (lT2.trans (lT3.trans (lT4.trans (lT5.trans (lT6.trans (lT7.trans (lT8.trans (lT9.trans (lT10.trans (lT11.trans (lT12.trans (lT13)))))))))))))).up
      have kp1 : (T13.up q12 (.lst true [.ref p1, .ref p2, .ref p3, .ref p4, .ref p5, .ref p6, .ref p7, .ref p8])) p1 = some (.lst true [.tup [.int 0, .int 0], .tup [.int 1, .int 0], .tup [.int 0, .int 1]]) := by
        have y := (lT2.trans (lT3.trans (lT4.trans (lT5.trans (lT6.trans (lT7.trans (lT8.trans (lT9.trans (lT10.trans (lT11.trans (lT12.trans (lT13)))))))))))) _ _ ep1
        rw [up_oth (fun z => by rw [← z, ec] at y; cases y)]
        exact y
      have kp2 : (T13.up q12 (.lst true [.ref p1, .ref p2, .ref p3, .ref p4, .ref p5, .ref p6, .ref p7, .ref p8])) p2 = some (.lst true [.tup [.int 0, .int 0], .tup [.int 1, .int 0], .tup [.int 1, .int 1], .tup [.int 0, .int 1]]) := by
        have y := (lT3.trans (lT4.trans (lT5.trans (lT6.trans (lT7.trans (lT8.trans (lT9.trans (lT10.trans (lT11.trans (lT12.trans (lT13))))))))))) _ _ ep2
        rw [up_oth (fun z => by rw [← z, ec] at y; cases y)]
        exact y
      have kp3 : (T13.up q12 (.lst true [.ref p1, .ref p2, .ref p3, .ref p4, .ref p5, .ref p6, .ref p7, .ref p8])) p3 = some (.lst true [.tup [.int 0, .int 0], .tup [.int 3, .int 0], .tup [.int 2, .int 1], .tup [.int 0, .int 1]]) := by
        have y := (lT4.trans (lT5.trans (lT6.trans (lT7.trans (lT8.trans (lT9.trans (lT10.trans (lT11.trans (lT12.trans (lT13)))))))))) _ _ ep3
        rw [up_oth (fun z => by rw [← z, ec] at y; cases y)]
        exact y
      have kp4 : (T13.up q12 (.lst true [.ref p1, .ref p2, .ref p3, .ref p4, .ref p5, .ref p6, .ref p7, .ref p8])) p4 = some (.lst true [.tup [.int 0, .int 0], .tup [.int 2, .int 0], .tup [.int 3, .int 2], .tup [.int 0, .int 1]]) := by
        have y := (lT6.trans (lT7.trans (lT8.trans (lT9.trans (lT10.trans (lT11.trans (lT12.trans (lT13)))))))) _ _ ep4
        rw [up_oth (fun z => by rw [← z, ec] at y; cases y)]
        exact y
      have kp5 : (T13.up q12 (.lst true [.ref p1, .ref p2, .ref p3, .ref p4, .ref p5, .ref p6, .ref p7, .ref p8])) p5 = some (.lst true [.tup [.int 0, .int 0], .tup [.int 2, .int 0], .tup [.int 3, .int 1], .tup [.int 1, .int 3], .tup [.int 0, .int 2]]) := by
        have y := (lT7.trans (lT8.trans (lT9.trans (lT10.trans (lT11.trans (lT12.trans (lT13))))))) _ _ ep5
        rw [up_oth (fun z => by rw [← z, ec] at y; cases y)]
        exact y
      have kp6 : (T13.up q12 (.lst true [.ref p1, .ref p2, .ref p3, .ref p4, .ref p5, .ref p6, .ref p7, .ref p8])) p6 = some (.lst true [.tup [.int 1, .int 0], .tup [.int 3, .int 1], .tup [.int 2, .int 3]]) := by
        have y := (lT10.trans (lT11.trans (lT12.trans (lT13)))) _ _ ep6
        rw [up_oth (fun z => by rw [← z, ec] at y; cases y)]
        exact y
      have kp7 : (T13.up q12 (.lst true [.ref p1, .ref p2, .ref p3, .ref p4, .ref p5, .ref p6, .ref p7, .ref p8])) p7 = some (.lst true [.tup [.int 0, .int 0], .tup [.int 1, .int 0], .tup [.int 2, .int 1], .tup [.int 2, .int 2], .tup [.int 1, .int 2], .tup [.int 0, .int 1]]) := by
        have y := (lT11.trans (lT12.trans (lT13))) _ _ ep7
        rw [up_oth (fun z => by rw [← z, ec] at y; cases y)]
        exact y
      have kp8 : (T13.up q12 (.lst true [.ref p1, .ref p2, .ref p3, .ref p4, .ref p5, .ref p6, .ref p7, .ref p8])) p8 = some (.lst true [.tup [.int 0, .int 0], .tup [.int 3, .int 0], .tup [.int 4, .int 2], .tup [.int 3, .int 4], .tup [.int 1, .int 4], .tup [.int 0, .int 3]]) := by
        have y := ep8
        rw [up_oth (fun z => by rw [← z, ec] at y; cases y)]
        exact y
      have kc : (T13.up q12 (.lst true [.ref p1, .ref p2, .ref p3, .ref p4, .ref p5, .ref p6, .ref p7, .ref p8])) q12 = some (.lst true [.ref p1, .ref p2, .ref p3, .ref p4, .ref p5, .ref p6, .ref p7, .ref p8]) := up_same
      have ra2 : Row (T13.up q12 (.lst true [.ref p1, .ref p2, .ref p3, .ref p4, .ref p5, .ref p6, .ref p7, .ref p8])) a n := by
        obtain ⟨c, m, e, m0, m1⟩ := ra
        exact ⟨c, m, by rw [up_oth dc]; exact e, m0, m1⟩
      have rd2 : Rowed S (T13.up q12 (.lst true [.ref p1, .ref p2, .ref p3, .ref p4, .ref p5, .ref p6, .ref p7, .ref p8])) a := fun b o hb e => by
        rw [up_oth (fun z => by rw [← z, le_none (lT1.trans (lT2.trans (lT3.trans (lT4.trans (lT5.trans (lT6.trans (lT7.trans (lT8.trans (lT9.trans (lT10.trans (lT11))))))))))) nq12] at e; cases e)]
        exact (lT1.trans (lT2.trans (lT3.trans (lT4.trans (lT5.trans (lT6.trans (lT7.trans (lT8.trans (lT9.trans (lT10.trans (lT11.trans (lT12.trans (lT13))))))))))))) b o e
      generalize T13.up q12 (.lst true [.ref p1, .ref p2, .ref p3, .ref p4, .ref p5, .ref p6, .ref p7, .ref p8]) = T14 at *
      refine take_row ra2 (by omega) (by decide) fun k S1 k0 k1 r1 o1 => ?_
      have kc1 := o1 _ _ dc kc
      try simp only [q_ixL, kc1, q_add, q_sub, q_mul, q_div, q_mod, q_pow, q_lt, q_le, q_gt, q_ge, q_eq, q_ne, q_is, q_isnt, q_isntB, q_isB, q_tb, q_ti, q_tn, q_tt, q_ixQ0, q_ixQ1, q_ixS0, q_ixS1, q_eqQ, q_neQ, q_eqSp, q_neSp, q_eqB, q_neB, q_ixT, q_lenT, q_abs, q_intI, q_intB, q_min2, q_max2, at0, at1, at2, List.length_cons, List.length_nil, sizeLine_eq, Nat.reduceAdd, Nat.reduceLeDiff, true_and, Bool.not_true, Bool.not_false, Bool.false_eq_true, if_false, reduceIte, lk, List.set, whole_int, whole_bl, whole_tup, whole_non]
      have hk : k = 0 ∨ k = 1 ∨ k = 2 ∨ k = 3 ∨ k = 4 ∨ k = 5 ∨ k = 6 ∨ k = 7 := by omega
      have nea : ∀ {p l}, T14 p = some (.lst true l) → l ≠ [] → (∀ i, l.head? ≠ some (.int i)) → p ≠ a := fun {p l} e _ hh z => by
        obtain ⟨c, m, e2, _⟩ := ra2
        rw [z, e2] at e
        cases e
        exact hh c rfl
      rcases hk with rfl | rfl | rfl | rfl | rfl | rfl | rfl | rfl
      · exact hG _ _ ⟨p1, rows8[0], _, rfl, by decide, nea kp1 (by simp) (fun i => by simp), o1 _ _ (nea kp1 (by simp) (fun i => by simp)) kp1, r1, rd2.trans o1⟩
      · exact hG _ _ ⟨p2, rows8[1], _, rfl, by decide, nea kp2 (by simp) (fun i => by simp), o1 _ _ (nea kp2 (by simp) (fun i => by simp)) kp2, r1, rd2.trans o1⟩
      · exact hG _ _ ⟨p3, rows8[2], _, rfl, by decide, nea kp3 (by simp) (fun i => by simp), o1 _ _ (nea kp3 (by simp) (fun i => by simp)) kp3, r1, rd2.trans o1⟩
      · exact hG _ _ ⟨p4, rows8[3], _, rfl, by decide, nea kp4 (by simp) (fun i => by simp), o1 _ _ (nea kp4 (by simp) (fun i => by simp)) kp4, r1, rd2.trans o1⟩
      · exact hG _ _ ⟨p5, rows8[4], _, rfl, by decide, nea kp5 (by simp) (fun i => by simp), o1 _ _ (nea kp5 (by simp) (fun i => by simp)) kp5, r1, rd2.trans o1⟩
      · exact hG _ _ ⟨p6, rows8[5], _, rfl, by decide, nea kp6 (by simp) (fun i => by simp), o1 _ _ (nea kp6 (by simp) (fun i => by simp)) kp6, r1, rd2.trans o1⟩
      · exact hG _ _ ⟨p7, rows8[6], _, rfl, by decide, nea kp7 (by simp) (fun i => by simp), o1 _ _ (nea kp7 (by simp) (fun i => by simp)) kp7, r1, rd2.trans o1⟩
      · exact hG _ _ ⟨p8, rows8[7], _, rfl, by decide, nea kp8 (by simp) (fun i => by simp), o1 _ _ (nea kp8 (by simp) (fun i => by simp)) kp8, r1, rd2.trans o1⟩
    rintro ρ S1 ⟨q, base, x2, rfl, hbase, dq, eq, r1, o1⟩
    have hg := rows8_ok base hbase
    unfold goodR at hg
    rw [Bool.and_eq_true, Bool.and_eq_true, Bool.and_eq_true, decide_eq_true_eq, decide_eq_true_eq, List.all_eq_true] at hg
    obtain ⟨g1, g2, g3, g4⟩ := hg
    refine cut 7 (fun ρ S' => ∃ f sd A B C Dd E F w, ρ = [some (.ref a), some (.int far), x2, some (.ref q), some (.int sd), some (.int A), some (.int Dd), some (.int B), some (.int C), some (.int E), some (.int F), some (.int w), some (.ref f), none, none, none, none, none] ∧ S' q = some (.lst true (base.map dI)) ∧ f ≠ a ∧ f ≠ q ∧ S' f = some (.lst true []) ∧ S f = none ∧ Row S' a (n + 8) ∧ Rowed S S' a ∧ (0 < A ∧ A ≤ 10 ^ 7) ∧ (0 < Dd ∧ Dd ≤ 10 ^ 7) ∧ B.natAbs ≤ 10 ^ 7 ∧ C.natAbs ≤ 10 ^ 7 ∧ E.natAbs ≤ far.toNat ∧ F.natAbs ≤ far.toNat ∧ 0 < w ∧ w ≤ 6) (fun G hG => ?_) ?_
    · dsimp only [z_law_field, List.drop, List.take]
      have p7 : L2.CPow 10 7 := ⟨by decide, by decide, by decide⟩
      have e7 : (10 : Int) ^ Int.toNat 7 = 10000000 := by decide
      dsimp only [wZs, wZ, wE, wEs, wT, wTs, wI, lk, List.set, aTru, partS, List.take, List.drop]
      try simp only [h0, a0, e7, q_add, q_sub, q_mul, q_div, q_mod, q_pow, q_lt, q_le, q_gt, q_ge, q_eq, q_ne, q_is, q_isnt, q_isntB, q_isB, q_tb, q_ti, q_tn, q_tt, q_ixQ0, q_ixQ1, q_ixS0, q_ixS1, q_eqQ, q_neQ, q_eqSp, q_neSp, q_eqB, q_neB, q_ixT, q_lenT, q_abs, q_intI, q_intB, q_min2, q_max2, at0, at1, at2, List.length_cons, List.length_nil, sizeLine_eq, Nat.reduceAdd, Nat.reduceLeDiff, true_and, Bool.not_true, Bool.not_false, Bool.false_eq_true, if_false, reduceIte, lk, List.set, whole_int, whole_bl, whole_tup, whole_non]
      refine ⟨p7, fun p np => ?_⟩
      have hs : ∃ sd, L2.atI [D.int 4, .int 10000000] (if decide (100 < far) = true then 1 else 0) = some (.int sd) ∧ 4 ≤ sd ∧ sd ≤ 10000000 := by
        split
        · exact ⟨_, at1, by decide, by decide⟩
        · exact ⟨_, at0, by decide, by decide⟩
      obtain ⟨sd, es, s0, s1⟩ := hs
      try simp only [q_ixL, up_same, es, q_add, q_sub, q_mul, q_div, q_mod, q_pow, q_lt, q_le, q_gt, q_ge, q_eq, q_ne, q_is, q_isnt, q_isntB, q_isB, q_tb, q_ti, q_tn, q_tt, q_ixQ0, q_ixQ1, q_ixS0, q_ixS1, q_eqQ, q_neQ, q_eqSp, q_neSp, q_eqB, q_neB, q_ixT, q_lenT, q_abs, q_intI, q_intB, q_min2, q_max2, at0, at1, at2, List.length_cons, List.length_nil, sizeLine_eq, Nat.reduceAdd, Nat.reduceLeDiff, true_and, Bool.not_true, Bool.not_false, Bool.false_eq_true, if_false, reduceIte, lk, List.set, whole_int, whole_bl, whole_tup, whole_non]
      have lp := up_ls (o := .lst true [.int 4, .int 10000000]) np
      refine take_row (r1.le lp) (by omega) ⟨by omega, by omega⟩ fun k1 S2 k10 k11 r2 o2 => ?_
      try simp only [true_and, q_add, q_sub, q_mul, q_div, q_mod, q_pow, q_lt, q_le, q_gt, q_ge, q_eq, q_ne, q_is, q_isnt, q_isntB, q_isB, q_tb, q_ti, q_tn, q_tt, q_ixQ0, q_ixQ1, q_ixS0, q_ixS1, q_eqQ, q_neQ, q_eqSp, q_neSp, q_eqB, q_neB, q_ixT, q_lenT, q_abs, q_intI, q_intB, q_min2, q_max2, at0, at1, at2, List.length_cons, List.length_nil, sizeLine_eq, Nat.reduceAdd, Nat.reduceLeDiff, true_and, Bool.not_true, Bool.not_false, Bool.false_eq_true, if_false, reduceIte, lk, List.set, whole_int, whole_bl, whole_tup, whole_non]
      refine take_row r2 (by omega) ⟨by omega, by omega⟩ fun k2 S3 k20 k21 r3 o3 => ?_
      try simp only [true_and, q_add, q_sub, q_mul, q_div, q_mod, q_pow, q_lt, q_le, q_gt, q_ge, q_eq, q_ne, q_is, q_isnt, q_isntB, q_isB, q_tb, q_ti, q_tn, q_tt, q_ixQ0, q_ixQ1, q_ixS0, q_ixS1, q_eqQ, q_neQ, q_eqSp, q_neSp, q_eqB, q_neB, q_ixT, q_lenT, q_abs, q_intI, q_intB, q_min2, q_max2, at0, at1, at2, List.length_cons, List.length_nil, sizeLine_eq, Nat.reduceAdd, Nat.reduceLeDiff, true_and, Bool.not_true, Bool.not_false, Bool.false_eq_true, if_false, reduceIte, lk, List.set, whole_int, whole_bl, whole_tup, whole_non]
      refine ⟨mul_okL (by decide), take_row r3 (by omega) ⟨by omega, by omega⟩ fun k3 S4 k30 k31 r4 o4 => ?_⟩
      try simp only [true_and, q_add, q_sub, q_mul, q_div, q_mod, q_pow, q_lt, q_le, q_gt, q_ge, q_eq, q_ne, q_is, q_isnt, q_isntB, q_isB, q_tb, q_ti, q_tn, q_tt, q_ixQ0, q_ixQ1, q_ixS0, q_ixS1, q_eqQ, q_neQ, q_eqSp, q_neSp, q_eqB, q_neB, q_ixT, q_lenT, q_abs, q_intI, q_intB, q_min2, q_max2, at0, at1, at2, List.length_cons, List.length_nil, sizeLine_eq, Nat.reduceAdd, Nat.reduceLeDiff, true_and, Bool.not_true, Bool.not_false, Bool.false_eq_true, if_false, reduceIte, lk, List.set, whole_int, whole_bl, whole_tup, whole_non]
      refine ⟨mul_okL (by decide), take_row r4 (by omega) ⟨by omega, by omega⟩ fun k4 S5 k40 k41 r5 o5 => ?_⟩
      try simp only [true_and, q_add, q_sub, q_mul, q_div, q_mod, q_pow, q_lt, q_le, q_gt, q_ge, q_eq, q_ne, q_is, q_isnt, q_isntB, q_isB, q_tb, q_ti, q_tn, q_tt, q_ixQ0, q_ixQ1, q_ixS0, q_ixS1, q_eqQ, q_neQ, q_eqSp, q_neSp, q_eqB, q_neB, q_ixT, q_lenT, q_abs, q_intI, q_intB, q_min2, q_max2, at0, at1, at2, List.length_cons, List.length_nil, sizeLine_eq, Nat.reduceAdd, Nat.reduceLeDiff, true_and, Bool.not_true, Bool.not_false, Bool.false_eq_true, if_false, reduceIte, lk, List.set, whole_int, whole_bl, whole_tup, whole_non]
      refine ⟨mul_okL (by decide), take_row r5 (by omega) ⟨by omega, by omega⟩ fun k5 S6 k50 k51 r6 o6 => ?_⟩
      try simp only [true_and, q_add, q_sub, q_mul, q_div, q_mod, q_pow, q_lt, q_le, q_gt, q_ge, q_eq, q_ne, q_is, q_isnt, q_isntB, q_isB, q_tb, q_ti, q_tn, q_tt, q_ixQ0, q_ixQ1, q_ixS0, q_ixS1, q_eqQ, q_neQ, q_eqSp, q_neSp, q_eqB, q_neB, q_ixT, q_lenT, q_abs, q_intI, q_intB, q_min2, q_max2, at0, at1, at2, List.length_cons, List.length_nil, sizeLine_eq, Nat.reduceAdd, Nat.reduceLeDiff, true_and, Bool.not_true, Bool.not_false, Bool.false_eq_true, if_false, reduceIte, lk, List.set, whole_int, whole_bl, whole_tup, whole_non]
      refine ⟨mul_okL (by decide), take_row r6 (by omega) ⟨by omega, by omega⟩ fun k6 S7 k60 k61 r7 o7 => ?_⟩
      try simp only [true_and, q_add, q_sub, q_mul, q_div, q_mod, q_pow, q_lt, q_le, q_gt, q_ge, q_eq, q_ne, q_is, q_isnt, q_isntB, q_isB, q_tb, q_ti, q_tn, q_tt, q_ixQ0, q_ixQ1, q_ixS0, q_ixS1, q_eqQ, q_neQ, q_eqSp, q_neSp, q_eqB, q_neB, q_ixT, q_lenT, q_abs, q_intI, q_intB, q_min2, q_max2, at0, at1, at2, List.length_cons, List.length_nil, sizeLine_eq, Nat.reduceAdd, Nat.reduceLeDiff, true_and, Bool.not_true, Bool.not_false, Bool.false_eq_true, if_false, reduceIte, lk, List.set, whole_int, whole_bl, whole_tup, whole_non]
      refine take_row r7 (by omega) (by decide) fun k7 S8 k70 k71 r8 o8 => ?_
      try simp only [true_and, q_add, q_sub, q_mul, q_div, q_mod, q_pow, q_lt, q_le, q_gt, q_ge, q_eq, q_ne, q_is, q_isnt, q_isntB, q_isB, q_tb, q_ti, q_tn, q_tt, q_ixQ0, q_ixQ1, q_ixS0, q_ixS1, q_eqQ, q_neQ, q_eqSp, q_neSp, q_eqB, q_neB, q_ixT, q_lenT, q_abs, q_intI, q_intB, q_min2, q_max2, at0, at1, at2, List.length_cons, List.length_nil, sizeLine_eq, Nat.reduceAdd, Nat.reduceLeDiff, true_and, Bool.not_true, Bool.not_false, Bool.false_eq_true, if_false, reduceIte, lk, List.set, whole_int, whole_bl, whole_tup, whole_non]
      intro f nf
      have df := r8.ne nf
      have ow := (le_rowed lp).trans (o2.trans (o3.trans (o4.trans (o5.trans (o6.trans (o7.trans o8))))))
      have eq8 : S8 q = some (.lst true (base.map dI)) := ow _ _ dq eq
      have oS := o1.trans ow
      have nS : S f = none := by
        cases z : S f with
        | none => rfl
        | some o => rw [oS _ _ df z] at nf; cases nf
      exact hG _ _ ⟨f, sd, _, _, _, _, _, _, _, rfl, (up_ls nf) _ _ eq8, df, (fun z => by rw [z, eq8] at nf; cases nf), up_same, nS, (r8.ne' nf).mono (by omega), oS.new nf, by omega, by omega, by omega, by omega, by omega, by omega, by omega, by omega⟩
    rintro ρ S2 ⟨f, sd, A, B, C, Dd, E, F, w, rfl, eq2, df, dfq, ef, nf, r2, o2, hA, hD, hB, hC, hE, hF, w0, w6⟩
    have oS : Sto.le S (fun b => if b = a then none else S b) → True := fun _ => trivial
    refine cut 1 (fun ρ S' => ∃ x13 x14 x15 x16, ρ = [some (.ref a), some (.int far), x2, some (.ref q), some (.int sd), some (.int A), some (.int Dd), some (.int B), some (.int C), some (.int E), some (.int F), some (.int w), some (.ref f), x13, x14, x15, x16, none] ∧ S' f = some (.lst true ((base.map (aff A B C Dd E F w)).map dS)) ∧ Row S' a (n + 8) ∧ Rowed S S' a) (fun G hG => ?_) ?_
    · dsimp only [z_law_field, List.drop, List.take]
      rw [wZs_one, wZ_for]
      dsimp only [wI, wE, lk]
      rw [eq2]
      refine for_ind (src := .lst q true (base.map dI)) (fun rr ρ S' => ∃ (done rest : List (Int × Int)) (x13 x14 x15 x16 : Option D), base = done ++ rest ∧ rr = rest.map dI ∧ ρ = [some (.ref a), some (.int far), x2, some (.ref q), some (.int sd), some (.int A), some (.int Dd), some (.int B), some (.int C), some (.int E), some (.int F), some (.int w), some (.ref f), x13, x14, x15, x16, none] ∧ S' = S2.up f (.lst true ((done.map (aff A B C Dd E F w)).map dS))) ?_ ?_ ?_ ⟨[], base, _, _, _, _, rfl, rfl, rfl, ?_⟩
      · rintro rr ρ S' ⟨done, rest, x13, x14, x15, x16, hd, hr, rfl, rfl⟩
        show (S2.up f _) q = _
        rw [up_oth dfq]
        exact eq2
      · rintro ρ S' ⟨done, rest, x13, x14, x15, x16, hd, hr, rfl, rfl⟩
        have : rest = [] := by
          cases rest with
          | nil => rfl
          | cons _ _ => cases hr
        subst this
        rw [List.append_nil] at hd
        subst hd
        refine hG _ _ ⟨_, _, _, _, rfl, up_same, ?_, fun b o hb e => ?_⟩
        · obtain ⟨c, m, e, m0, m1⟩ := r2
          exact ⟨c, m, by rw [up_oth df]; exact e, m0, m1⟩
        · rw [up_oth (fun z => by rw [← z, nf] at e; cases e)]
          exact o2 b o hb e
      · rintro G' d rr ρ S' ⟨done, rest, x13, x14, x15, x16, hd, hr, rfl, rfl⟩ hG'
        cases rest with
        | nil => cases hr
        | cons p rest =>
          simp only [List.map_cons, List.cons.injEq] at hr
          obtain ⟨rfl, rfl⟩ := hr
          have hp := of_decide_eq_true (g4 p (by rw [hd]; simp))
          obtain ⟨px0, px1, py0, py1⟩ := hp
          dsimp only [wZs, wZ, wE, wEs, wT, wTs, wI, lk, List.set, aTru, partS, List.take, List.drop]
          try simp only [dI, h4, a4, q_add, q_sub, q_mul, q_div, q_mod, q_pow, q_lt, q_le, q_gt, q_ge, q_eq, q_ne, q_is, q_isnt, q_isntB, q_isB, q_tb, q_ti, q_tn, q_tt, q_ixQ0, q_ixQ1, q_ixS0, q_ixS1, q_eqQ, q_neQ, q_eqSp, q_neSp, q_eqB, q_neB, q_ixT, q_lenT, q_abs, q_intI, q_intB, q_min2, q_max2, at0, at1, at2, List.length_cons, List.length_nil, sizeLine_eq, Nat.reduceAdd, Nat.reduceLeDiff, true_and, Bool.not_true, Bool.not_false, Bool.false_eq_true, if_false, reduceIte, lk, List.set, whole_int, whole_bl, whole_tup, whole_non]
          have bw : Bd 4 w := by unfold Bd; omega
          refine ⟨mul_okR (by omega), mul_okR (by omega), mul_okL (by omega), mul_okL (by omega), mul_okR (by omega), ?_⟩
          refine lowest_q (by omega) (bw.lt9 (by decide)) ?_
          try simp only [q_isL, up_same, q_add, q_sub, q_mul, q_div, q_mod, q_pow, q_lt, q_le, q_gt, q_ge, q_eq, q_ne, q_is, q_isnt, q_isntB, q_isB, q_tb, q_ti, q_tn, q_tt, q_ixQ0, q_ixQ1, q_ixS0, q_ixS1, q_eqQ, q_neQ, q_eqSp, q_neSp, q_eqB, q_neB, q_ixT, q_lenT, q_abs, q_intI, q_intB, q_min2, q_max2, at0, at1, at2, List.length_cons, List.length_nil, sizeLine_eq, Nat.reduceAdd, Nat.reduceLeDiff, true_and, Bool.not_true, Bool.not_false, Bool.false_eq_true, if_false, reduceIte, lk, List.set, whole_int, whole_bl, whole_tup, whole_non]
          refine ⟨mul_okR (by omega), ?_⟩
          refine lowest_q (by omega) (bw.lt9 (by decide)) ?_
          try simp only [q_append, up_same, upup, q_add, q_sub, q_mul, q_div, q_mod, q_pow, q_lt, q_le, q_gt, q_ge, q_eq, q_ne, q_is, q_isnt, q_isntB, q_isB, q_tb, q_ti, q_tn, q_tt, q_ixQ0, q_ixQ1, q_ixS0, q_ixS1, q_eqQ, q_neQ, q_eqSp, q_neSp, q_eqB, q_neB, q_ixT, q_lenT, q_abs, q_intI, q_intB, q_min2, q_max2, at0, at1, at2, List.length_cons, List.length_nil, sizeLine_eq, Nat.reduceAdd, Nat.reduceLeDiff, true_and, Bool.not_true, Bool.not_false, Bool.false_eq_true, if_false, reduceIte, lk, List.set, whole_int, whole_bl, whole_tup, whole_non]
          have hl : done.length + (rest.length + 1) ≤ 6 := by
            have := congrArg List.length hd
            rw [List.length_append, List.length_cons] at this
            omega
          refine ⟨by simp only [List.length_map]; omega, hG' _ _ ⟨done ++ [p], rest, _, _, _, _, by rw [hd]; simp, rfl, rfl, ?_⟩⟩
          rw [List.map_append, List.map_append]
          rfl
      · funext b
        unfold Sto.up
        split
        · rename_i z; rw [z]; exact ef
        · rfl
    rintro ρ S3 ⟨x13, x14, x15, x16, rfl, ef3, r3, o3⟩
    have fld : Fld (base.map (aff A B C Dd E F w)) w.toNat (far.toNat + 10 ^ 15) := ⟨aff_cvx hA.1 hD.1 w0 (cvxI_ok g1), by rw [List.length_map]; exact g2, by rw [List.length_map]; exact g3, by omega, by omega, fun s hs => by
      obtain ⟨p, hp, rfl⟩ := List.mem_map.mp hs
      exact aff_dn (by omega) hB hC (by omega) hE hF w0 (of_decide_eq_true (g4 p hp))⟩
    generalize base.map (aff A B C Dd E F w) = fl at *
    have hlo := fld.lo; have hhi := fld.hi
    dsimp only [z_law_field, List.drop, List.take]
    dsimp only [wZs, wZ, wE, wEs, wT, wTs, wI, lk, List.set, aTru, partS, List.take, List.drop]
    try simp only [h0, a0, q_lenL, q_seqL, ef3, List.length_map, q_add, q_sub, q_mul, q_div, q_mod, q_pow, q_lt, q_le, q_gt, q_ge, q_eq, q_ne, q_is, q_isnt, q_isntB, q_isB, q_tb, q_ti, q_tn, q_tt, q_ixQ0, q_ixQ1, q_ixS0, q_ixS1, q_eqQ, q_neQ, q_eqSp, q_neSp, q_eqB, q_neB, q_ixT, q_lenT, q_abs, q_intI, q_intB, q_min2, q_max2, at0, at1, at2, List.length_cons, List.length_nil, sizeLine_eq, Nat.reduceAdd, Nat.reduceLeDiff, true_and, Bool.not_true, Bool.not_false, Bool.false_eq_true, if_false, reduceIte, lk, List.set, whole_int, whole_bl, whole_tup, whole_non]
    refine take_row r3 (by omega) ⟨by omega, by omega⟩ fun k S4 k0 k1 r4 o4 => ?_
    have ef4 := o4 _ _ df ef3
    obtain ⟨k, rfl⟩ : ∃ j : Nat, k = j := ⟨k.toNat, by omega⟩
    try simp only [q_sl, ef4, q_add, q_sub, q_mul, q_div, q_mod, q_pow, q_lt, q_le, q_gt, q_ge, q_eq, q_ne, q_is, q_isnt, q_isntB, q_isB, q_tb, q_ti, q_tn, q_tt, q_ixQ0, q_ixQ1, q_ixS0, q_ixS1, q_eqQ, q_neQ, q_eqSp, q_neSp, q_eqB, q_neB, q_ixT, q_lenT, q_abs, q_intI, q_intB, q_min2, q_max2, at0, at1, at2, List.length_cons, List.length_nil, sizeLine_eq, Nat.reduceAdd, Nat.reduceLeDiff, true_and, Bool.not_true, Bool.not_false, Bool.false_eq_true, if_false, reduceIte, lk, List.set, whole_int, whole_bl, whole_tup, whole_non]
    intro p1 n1
    have l1 := up_ls (o := .lst true (cutD (fl.map dS) (some (k : Int)) none)) n1
    try simp only [q_sl, l1 _ _ ef4, q_add, q_sub, q_mul, q_div, q_mod, q_pow, q_lt, q_le, q_gt, q_ge, q_eq, q_ne, q_is, q_isnt, q_isntB, q_isB, q_tb, q_ti, q_tn, q_tt, q_ixQ0, q_ixQ1, q_ixS0, q_ixS1, q_eqQ, q_neQ, q_eqSp, q_neSp, q_eqB, q_neB, q_ixT, q_lenT, q_abs, q_intI, q_intB, q_min2, q_max2, at0, at1, at2, List.length_cons, List.length_nil, sizeLine_eq, Nat.reduceAdd, Nat.reduceLeDiff, true_and, Bool.not_true, Bool.not_false, Bool.false_eq_true, if_false, reduceIte, lk, List.set, whole_int, whole_bl, whole_tup, whole_non]
    intro p2 n2
    have l2 := up_ls (o := .lst true (cutD (fl.map dS) none (some (k : Int)))) n2
    refine q_catL (l2 _ _ up_same) up_same ?_ fun p3 n3 => ?_
    · rw [cut_from, cut_to, List.length_drop, List.length_take, List.length_map, sizeLine_eq]
      omega
    · have l3 := up_ls (o := .lst true (cutD (fl.map dS) (some (k : Int)) none ++ cutD (fl.map dS) none (some (k : Int)))) n3
      simp only [biS, q_seqL, up_same]
      have e : D.tup (cutD (fl.map dS) (some (k : Int)) none ++ cutD (fl.map dS) none (some (k : Int))) = dL (fl.drop k ++ fl.take k) := by
        rw [cut_from, cut_to, ← List.map_drop, ← List.map_take, ← List.map_append]
        rfl
      rw [e]
      exact ret_now (h _ _ _ fld.rot ((((r4.le l1).le l2).le l3).mono (by omega)) ((o3.trans o4).le (l1.trans (l2.trans l3))))
  · exact h.elim
end Sd
namespace Sd
open PySem
/-- a spot pushed: another spot -/
def c_law_pushed_s : Con := fun ds S P _ => match ds with
  | [.ref a, x] => ∃ n s, Row S a n ∧ n < 2 ^ 55 ∧ x = dS s ∧ SzS 1000 s ∧ ∀ t S', SzS 1100 t → Row S' a (n + 3) → Rowed S S' a → P (dS t) S'
  | _ => False
theorem m_law_pushed_s {Γ : Gam} (h0 : Γ.fn 0 = c_law_take_2) (a0 : Γ.ar 0 = 2) (h4 : Γ.fn 4 = c_law_lowest) (a4 : Γ.ar 4 = 2) : Meets Γ 8 z_law_pushed c_law_pushed_s := by
  intro ds S P W h
  unfold c_law_pushed_s at h
  split at h
  · rename_i a x
    obtain ⟨n, s, r, hn, rfl, hz, h⟩ := h
    change wZs Γ z_law_pushed (retE P) [some (.ref a), some (.tup [dQ s.1, dQ s.2]), none, none, none, none, none, none] S (errW W)
    have p20 : L2.CPow 10 20 := ⟨by decide, by decide, by decide⟩
    have e20 : (10 : Int) ^ Int.toNat 20 = 100000000000000000000 := by decide
    have p6 : L2.CPow 10 6 := ⟨by decide, by decide, by decide⟩
    dsimp only [z_law_pushed]
    dsimp only [wZs, wZ, wE, wEs, wT, wTs, wI, lk, List.set, aTru, partS, List.take, List.drop]
    try simp only [h0, a0, e20, q_add, q_sub, q_mul, q_div, q_mod, q_pow, q_lt, q_le, q_gt, q_ge, q_eq, q_ne, q_is, q_isnt, q_isntB, q_isB, q_tb, q_ti, q_tn, q_tt, q_ixQ0, q_ixQ1, q_ixS0, q_ixS1, q_eqQ, q_neQ, q_eqSp, q_neSp, q_eqB, q_neB, q_ixT, q_lenT, q_abs, q_intI, q_intB, q_min2, q_max2, at0, at1, at2, List.length_cons, List.length_nil, sizeLine_eq, Nat.reduceAdd, Nat.reduceLeDiff, true_and, Bool.not_true, Bool.not_false, Bool.false_eq_true, if_false, reduceIte, lk, List.set, whole_int, whole_bl, whole_tup, whole_non]
    refine ⟨p20, take_row r (by omega) (by decide) fun k1 S1 k10 k11 r1 o1 => ?_⟩
    try simp only [true_and, q_add, q_sub, q_mul, q_div, q_mod, q_pow, q_lt, q_le, q_gt, q_ge, q_eq, q_ne, q_is, q_isnt, q_isntB, q_isB, q_tb, q_ti, q_tn, q_tt, q_ixQ0, q_ixQ1, q_ixS0, q_ixS1, q_eqQ, q_neQ, q_eqSp, q_neSp, q_eqB, q_neB, q_ixT, q_lenT, q_abs, q_intI, q_intB, q_min2, q_max2, at0, at1, at2, List.length_cons, List.length_nil, sizeLine_eq, Nat.reduceAdd, Nat.reduceLeDiff, true_and, Bool.not_true, Bool.not_false, Bool.false_eq_true, if_false, reduceIte, lk, List.set, whole_int, whole_bl, whole_tup, whole_non]
    intro f nf
    have df := r1.ne nf
    obtain ⟨by', eb, b0, bb⟩ : ∃ b : Int, 100000000000000000000 + k1 = b ∧ 0 < b ∧ Bd 68 b := ⟨_, rfl, by omega, by unfold Bd; omega⟩
    rw [eb]
    simp only [forS]
    refine ⟨trivial, ?_⟩
    have z1 := hz.1.bd; have z2 := hz.2.bd
    try simp only [dQ, q_add, q_sub, q_mul, q_div, q_mod, q_pow, q_lt, q_le, q_gt, q_ge, q_eq, q_ne, q_is, q_isnt, q_isntB, q_isB, q_tb, q_ti, q_tn, q_tt, q_ixQ0, q_ixQ1, q_ixS0, q_ixS1, q_eqQ, q_neQ, q_eqSp, q_neSp, q_eqB, q_neB, q_ixT, q_lenT, q_abs, q_intI, q_intB, q_min2, q_max2, at0, at1, at2, List.length_cons, List.length_nil, sizeLine_eq, Nat.reduceAdd, Nat.reduceLeDiff, true_and, Bool.not_true, Bool.not_false, Bool.false_eq_true, if_false, reduceIte, lk, List.set, whole_int, whole_bl, whole_tup, whole_non]
    have lf := up_ls (o := .lst true []) nf
    have r1' := r1.le lf
    refine take_row r1' (by omega) (by decide) fun k2 S2 k20 k21 r2 o2 => ?_
    have ef2 : S2 f = some (.lst true []) := o2 _ _ df up_same
    have u1 : Bd 2 (k2 - 1) := by unfold Bd; omega
    try simp only [q_isL, ef2, h4, a4, q_add, q_sub, q_mul, q_div, q_mod, q_pow, q_lt, q_le, q_gt, q_ge, q_eq, q_ne, q_is, q_isnt, q_isntB, q_isB, q_tb, q_ti, q_tn, q_tt, q_ixQ0, q_ixQ1, q_ixS0, q_ixS1, q_eqQ, q_neQ, q_eqSp, q_neSp, q_eqB, q_neB, q_ixT, q_lenT, q_abs, q_intI, q_intB, q_min2, q_max2, at0, at1, at2, List.length_cons, List.length_nil, sizeLine_eq, Nat.reduceAdd, Nat.reduceLeDiff, true_and, Bool.not_true, Bool.not_false, Bool.false_eq_true, if_false, reduceIte, lk, List.set, whole_int, whole_bl, whole_tup, whole_non]
    have m1 : (s.1.den : Int) * by' ≠ 0 := Int.mul_ne_zero (den_neI _) (by omega)
    have m2 : (s.2.den : Int) * by' ≠ 0 := Int.mul_ne_zero (den_neI _) (by omega)
    refine ⟨z1.1.ok bb (by decide), u1.ok z1.2 (by decide), z1.2.ok bb (by decide), ?_⟩
    refine lowest_q m1 ((z1.2.mul bb).lt9 (by decide)) ?_
    try simp only [q_append, ef2, q_add, q_sub, q_mul, q_div, q_mod, q_pow, q_lt, q_le, q_gt, q_ge, q_eq, q_ne, q_is, q_isnt, q_isntB, q_isB, q_tb, q_ti, q_tn, q_tt, q_ixQ0, q_ixQ1, q_ixS0, q_ixS1, q_eqQ, q_neQ, q_eqSp, q_neSp, q_eqB, q_neB, q_ixT, q_lenT, q_abs, q_intI, q_intB, q_min2, q_max2, at0, at1, at2, List.length_cons, List.length_nil, sizeLine_eq, Nat.reduceAdd, Nat.reduceLeDiff, true_and, Bool.not_true, Bool.not_false, Bool.false_eq_true, if_false, reduceIte, lk, List.set, whole_int, whole_bl, whole_tup, whole_non]
    refine ⟨by decide, trivial, ?_⟩
    have r2' : Row (S2.up f (.lst true ([] ++ [dQ (((s.1.num * by' + (k2 - 1) * s.1.den : Int) : Rat) / ((s.1.den * by' : Int) : Rat))]))) a (n + 1 + 1) := by
      obtain ⟨c, m, e, m0, m1⟩ := r2
      exact ⟨c, m, by rw [up_oth df]; exact e, m0, m1⟩
    refine take_row r2' (by omega) (by decide) fun k3 S3 k30 k31 r3 o3 => ?_
    have ef3 := o3 _ _ df up_same
    have u2 : Bd 2 (k3 - 1) := by unfold Bd; omega
    try simp only [q_isL, ef3, q_add, q_sub, q_mul, q_div, q_mod, q_pow, q_lt, q_le, q_gt, q_ge, q_eq, q_ne, q_is, q_isnt, q_isntB, q_isB, q_tb, q_ti, q_tn, q_tt, q_ixQ0, q_ixQ1, q_ixS0, q_ixS1, q_eqQ, q_neQ, q_eqSp, q_neSp, q_eqB, q_neB, q_ixT, q_lenT, q_abs, q_intI, q_intB, q_min2, q_max2, at0, at1, at2, List.length_cons, List.length_nil, sizeLine_eq, Nat.reduceAdd, Nat.reduceLeDiff, true_and, Bool.not_true, Bool.not_false, Bool.false_eq_true, if_false, reduceIte, lk, List.set, whole_int, whole_bl, whole_tup, whole_non]
    refine ⟨z2.1.ok bb (by decide), u2.ok z2.2 (by decide), z2.2.ok bb (by decide), ?_⟩
    refine lowest_q m2 ((z2.2.mul bb).lt9 (by decide)) ?_
    try simp only [q_append, ef3, q_add, q_sub, q_mul, q_div, q_mod, q_pow, q_lt, q_le, q_gt, q_ge, q_eq, q_ne, q_is, q_isnt, q_isntB, q_isB, q_tb, q_ti, q_tn, q_tt, q_ixQ0, q_ixQ1, q_ixS0, q_ixS1, q_eqQ, q_neQ, q_eqSp, q_neSp, q_eqB, q_neB, q_ixT, q_lenT, q_abs, q_intI, q_intB, q_min2, q_max2, at0, at1, at2, List.length_cons, List.length_nil, sizeLine_eq, Nat.reduceAdd, Nat.reduceLeDiff, true_and, Bool.not_true, Bool.not_false, Bool.false_eq_true, if_false, reduceIte, lk, List.set, whole_int, whole_bl, whole_tup, whole_non]
    refine ⟨by simp, trivial, ?_⟩
    obtain ⟨w1, hw1⟩ : ∃ w : Rat, w = ((s.1.num * by' + (k2 - 1) * s.1.den : Int) : Rat) / ((s.1.den * by' : Int) : Rat) := ⟨_, rfl⟩
    obtain ⟨w2, hw2⟩ : ∃ w : Rat, w = ((s.2.num * by' + (k3 - 1) * s.2.den : Int) : Rat) / ((s.2.den * by' : Int) : Rat) := ⟨_, rfl⟩
    rw [← hw1, ← hw2]
    have nS : S f = none := by
      cases z : S f with
      | none => rfl
      | some o => rw [o1 _ _ df z] at nf; cases nf
    have oS : Rowed S (S3.up f (.lst true ([] ++ [dQ w1] ++ [dQ w2]))) a := fun b o hb e => by
      have hb2 : b ≠ f := fun z => by rw [z, nS] at e; cases e
      rw [up_ne hb2]
      refine o3 _ _ hb ?_
      rw [up_ne hb2]
      exact o2 _ _ hb (by rw [up_ne hb2]; exact o1 _ _ hb e)
    have r4 : Row (S3.up f (.lst true ([] ++ [dQ w1] ++ [dQ w2]))) a (n + 3) := by
      obtain ⟨c, m, e, m0, m1⟩ := r3
      exact ⟨c, m, by rw [up_oth df]; exact e, m0, by omega⟩
    have ef4 : (S3.up f (.lst true ([] ++ [dQ w1] ++ [dQ w2]))) f = some (.lst true [dQ w1, dQ w2]) := up_same
    generalize S3.up f (.lst true ([] ++ [dQ w1] ++ [dQ w2])) = S4 at *
    intro p np
    refine lc_enc (l := [s.1, s.2]) dQ (fun x => .int ((x.num.natAbs : Int) + x.den)) np trivial (by rw [sizeLine_eq]; (first | decide | (simp only [List.length_append, List.length_cons, List.length_nil]; decide))) (fun x hx T K G hT hK => ?_) fun T hT eT => ?_
    · try simp only [wipeD, q_add, q_sub, q_mul, q_div, q_mod, q_pow, q_lt, q_le, q_gt, q_ge, q_eq, q_ne, q_is, q_isnt, q_isntB, q_isB, q_tb, q_ti, q_tn, q_tt, q_ixQ0, q_ixQ1, q_ixS0, q_ixS1, q_eqQ, q_neQ, q_eqSp, q_neSp, q_eqB, q_neB, q_ixT, q_lenT, q_abs, q_intI, q_intB, q_min2, q_max2, at0, at1, at2, List.length_cons, List.length_nil, sizeLine_eq, Nat.reduceAdd, Nat.reduceLeDiff, true_and, Bool.not_true, Bool.not_false, Bool.false_eq_true, if_false, reduceIte, lk, List.set, whole_int, whole_bl, whole_tup, whole_non]
      exact hK T (Sto.le.refl _)
    · refine q_max1 (l := [s.1, s.2].map fun x => ((x.num.natAbs : Int) + x.den)) (by rw [eT, List.map_map]; rfl) (by simp) fun m hm hle => ?_
      try simp only [true_and, q_add, q_sub, q_mul, q_div, q_mod, q_pow, q_lt, q_le, q_gt, q_ge, q_eq, q_ne, q_is, q_isnt, q_isntB, q_isB, q_tb, q_ti, q_tn, q_tt, q_ixQ0, q_ixQ1, q_ixS0, q_ixS1, q_eqQ, q_neQ, q_eqSp, q_neSp, q_eqB, q_neB, q_ixT, q_lenT, q_abs, q_intI, q_intB, q_min2, q_max2, at0, at1, at2, List.length_cons, List.length_nil, sizeLine_eq, Nat.reduceAdd, Nat.reduceLeDiff, true_and, Bool.not_true, Bool.not_false, Bool.false_eq_true, if_false, reduceIte, lk, List.set, whole_int, whole_bl, whole_tup, whole_non]
      refine ⟨p6, if_b (fun c => ?_) fun c => ?_⟩
      · exact ret_now (h _ T (hz.mono (by decide)) (r4.le hT) (oS.le hT))
      · try simp only [q_ixL, hT _ _ ef4, q_add, q_sub, q_mul, q_div, q_mod, q_pow, q_lt, q_le, q_gt, q_ge, q_eq, q_ne, q_is, q_isnt, q_isntB, q_isB, q_tb, q_ti, q_tn, q_tt, q_ixQ0, q_ixQ1, q_ixS0, q_ixS1, q_eqQ, q_neQ, q_eqSp, q_neSp, q_eqB, q_neB, q_ixT, q_lenT, q_abs, q_intI, q_intB, q_min2, q_max2, at0, at1, at2, List.length_cons, List.length_nil, sizeLine_eq, Nat.reduceAdd, Nat.reduceLeDiff, true_and, Bool.not_true, Bool.not_false, Bool.false_eq_true, if_false, reduceIte, lk, List.set, whole_int, whole_bl, whole_tup, whole_non]
        have v1 : Sz 1100 w1 := by
          rw [hw1]
          exact sz_div m1 (((z1.1.mul bb).add ((u1.mul z1.2).mono (by decide))).mono (by decide)) ((z1.2.mul bb).mono (by decide))
        have v2 : Sz 1100 w2 := by
          rw [hw2]
          exact sz_div m2 (((z2.1.mul bb).add ((u2.mul z2.2).mono (by decide))).mono (by decide)) ((z2.2.mul bb).mono (by decide))
        exact ret_now (h (w1, w2) T ⟨v1, v2⟩ (r4.le hT) (oS.le hT))
  · exact h.elim
/-! ### amid, by two in turn -/
theorem perm_sum {l m : List Int} (h : l.Perm m) : l.sum = m.sum := by
  induction h with
  | nil => rfl
  | cons x _ ih => simp only [List.sum_cons, ih]
  | swap x y l => simp only [List.sum_cons]; omega
  | trans _ _ h1 h2 => exact h1.trans h2
theorem two_sorted {p q : Int} {ns : List Int} (h : ns.Perm [p, q]) (hs : ns.Pairwise (· ≤ ·)) : ns = [min p q, max p q] := by
  have hl := h.length_eq
  match ns, hl with
  | [x, y], _ =>
    have hxy : x ≤ y := by simpa using hs
    have hx : x ∈ [p, q] := h.mem_iff.mp (by simp)
    have hsum : x + y = p + q := by
      have := perm_sum h
      simpa using this
    simp only [List.mem_cons, List.not_mem_nil, or_false] at hx
    rcases hx with rfl | rfl
    · have : y = q := by omega
      subst this
      rw [Int.min_eq_left hxy, Int.max_eq_right hxy]
    · have : y = p := by omega
      subst this
      rw [Int.min_eq_right hxy, Int.max_eq_left hxy]
theorem btw_int {p m q : Rat} : (¬ (m.num * p.den * q.den < min (p.num * q.den * m.den) (q.num * p.den * m.den)) ∧ ¬ (max (p.num * q.den * m.den) (q.num * p.den * m.den) < m.num * p.den * q.den)) ↔ btw p m q := by
  have key : ∀ {a b : Rat} {c : Rat}, (a.num * b.den * c.den ≤ b.num * a.den * c.den) ↔ a ≤ b := by
    intro a b c
    rw [Rat.le_iff]
    have hc : (0 : Int) < c.den := by have := c.den_nz; omega
    exact ⟨fun h => Int.le_of_mul_le_mul_right h hc, fun h => Int.mul_le_mul_of_nonneg_right h (Int.le_of_lt hc)⟩
  have e1 : m.num * p.den * q.den ≤ p.num * q.den * m.den ↔ m ≤ p := by
    have := key (a := m) (b := p) (c := q)
    rw [show p.num * (m.den : Int) * q.den = p.num * q.den * m.den by grind] at this
    exact this
  have e2 : m.num * p.den * q.den ≤ q.num * p.den * m.den ↔ m ≤ q := by
    have := key (a := m) (b := q) (c := p)
    rw [show q.num * (m.den : Int) * p.den = q.num * p.den * m.den by grind, show m.num * (q.den : Int) * p.den = m.num * p.den * q.den by grind] at this
    exact this
  have e3 : p.num * q.den * m.den ≤ m.num * p.den * q.den ↔ p ≤ m := by
    have := key (a := p) (b := m) (c := q)
    rw [show p.num * (m.den : Int) * q.den = p.num * q.den * m.den by grind] at this
    exact this
  have e4 : q.num * p.den * m.den ≤ m.num * p.den * q.den ↔ q ≤ m := by
    have := key (a := q) (b := m) (c := p)
    rw [show q.num * (m.den : Int) * p.den = q.num * p.den * m.den by grind, show m.num * (q.den : Int) * p.den = m.num * p.den * q.den by grind] at this
    exact this
  unfold btw
  rw [← e1, ← e2, ← e3, ← e4]
  generalize m.num * (p.den : Int) * q.den = M
  generalize p.num * (q.den : Int) * m.den = A
  generalize q.num * (p.den : Int) * m.den = B
  omega
def c_law_amid_2 : Con := fun ds S P _ => match ds with
  | [x, y, z] => ∃ s a b, x = dS s ∧ y = dS a ∧ z = dS b ∧ SzS 4000 s ∧ SzS 4000 a ∧ SzS 4000 b ∧ ∀ S', Sto.le S S' → P (.bl (decide (amid s a b))) S'
  | _ => False
theorem m_law_amid_2 {Γ : Gam} (h50 : Γ.fn 50 = c_law_turn) (a50 : Γ.ar 50 = 3) : Meets Γ 12 z_law_amid_2 c_law_amid_2 := by
  intro ds S P W h
  unfold c_law_amid_2 at h
  split at h
  · obtain ⟨s, a, b, rfl, rfl, rfl, hs, ha, hb, hp⟩ := h
    change wZs Γ z_law_amid_2 (retE P) [some (dS s), some (dS a), some (dS b), none, none, none, none, none, none, none, none, none] S (errW W)
    dsimp only [z_law_amid_2]
    dsimp only [wZs, wZ, wE, wEs, wT, wTs, wI, lk, List.set, aTru, partS, List.take, List.drop]
    try simp only [h50, a50, q_add, q_sub, q_mul, q_div, q_mod, q_pow, q_lt, q_le, q_gt, q_ge, q_eq, q_ne, q_is, q_isnt, q_isntB, q_isB, q_tb, q_ti, q_tn, q_tt, q_ixQ0, q_ixQ1, q_ixS0, q_ixS1, q_eqQ, q_neQ, q_eqSp, q_neSp, q_eqB, q_neB, q_ixT, q_lenT, q_abs, q_intI, q_intB, q_min2, q_max2, at0, at1, at2, List.length_cons, List.length_nil, sizeLine_eq, Nat.reduceAdd, Nat.reduceLeDiff, true_and, Bool.not_true, Bool.not_false, Bool.false_eq_true, if_false, reduceIte, lk, List.set, whole_int, whole_bl, whole_tup, whole_non]
    have no : (s = a ∨ s = b ∨ tw a b s ≠ 0 ∨ ¬ btw a.1 s.1 b.1 ∨ ¬ btw a.2 s.2 b.2) → ∀ S', Sto.le S S' → P (.bl false) S' := fun z S' hS => by
      have : ¬ amid s a b := fun ⟨h1, h2⟩ => by
        have := (amid_iff h1).mp h2
        rcases z with z | z | z | z | z
        · exact this.1 z
        · exact this.2.1 z
        · exact z h1
        · exact z this.2.2.1
        · exact z this.2.2.2
      have hp := hp S' hS
      rwa [decide_eq_false this] at hp
    refine mb_d (fun c => ?_) fun c => ?_
    · rw [decide_eq_true c]; try simp only [true_and, q_add, q_sub, q_mul, q_div, q_mod, q_pow, q_lt, q_le, q_gt, q_ge, q_eq, q_ne, q_is, q_isnt, q_isntB, q_isB, q_tb, q_ti, q_tn, q_tt, q_ixQ0, q_ixQ1, q_ixS0, q_ixS1, q_eqQ, q_neQ, q_eqSp, q_neSp, q_eqB, q_neB, q_ixT, q_lenT, q_abs, q_intI, q_intB, q_min2, q_max2, at0, at1, at2, List.length_cons, List.length_nil, sizeLine_eq, Nat.reduceAdd, Nat.reduceLeDiff, true_and, Bool.not_true, Bool.not_false, Bool.false_eq_true, if_false, reduceIte, lk, List.set, whole_int, whole_bl, whole_tup, whole_non]
      exact ret_now (no (.inl c) S (Sto.le.refl _))
    · refine mb_d (fun c2 => ?_) fun c2 => ?_
      · rw [decide_eq_true c2]; try simp only [true_and, q_add, q_sub, q_mul, q_div, q_mod, q_pow, q_lt, q_le, q_gt, q_ge, q_eq, q_ne, q_is, q_isnt, q_isntB, q_isB, q_tb, q_ti, q_tn, q_tt, q_ixQ0, q_ixQ1, q_ixS0, q_ixS1, q_eqQ, q_neQ, q_eqSp, q_neSp, q_eqB, q_neB, q_ixT, q_lenT, q_abs, q_intI, q_intB, q_min2, q_max2, at0, at1, at2, List.length_cons, List.length_nil, sizeLine_eq, Nat.reduceAdd, Nat.reduceLeDiff, true_and, Bool.not_true, Bool.not_false, Bool.false_eq_true, if_false, reduceIte, lk, List.set, whole_int, whole_bl, whole_tup, whole_non]
        exact ret_now (no (.inr (.inl c2)) S (Sto.le.refl _))
      · refine ⟨a, b, s, 4000, rfl, rfl, rfl, by decide, ha, hb, hs, ?_⟩
        try simp only [true_and, q_add, q_sub, q_mul, q_div, q_mod, q_pow, q_lt, q_le, q_gt, q_ge, q_eq, q_ne, q_is, q_isnt, q_isntB, q_isB, q_tb, q_ti, q_tn, q_tt, q_ixQ0, q_ixQ1, q_ixS0, q_ixS1, q_eqQ, q_neQ, q_eqSp, q_neSp, q_eqB, q_neB, q_ixT, q_lenT, q_abs, q_intI, q_intB, q_min2, q_max2, at0, at1, at2, List.length_cons, List.length_nil, sizeLine_eq, Nat.reduceAdd, Nat.reduceLeDiff, true_and, Bool.not_true, Bool.not_false, Bool.false_eq_true, if_false, reduceIte, lk, List.set, whole_int, whole_bl, whole_tup, whole_non]
        refine if_nb (fun c3 => ?_) fun c3 => ?_
        · exact ret_now (no (.inr (.inr (.inl fun z => c3 (sgn_zero.mpr z)))) S (Sto.le.refl _))
        · have hz := sgn_zero.mp c3
          refine ⟨by decide, ?_⟩
          rw [show Int.toNat 2 = 2 from rfl]
          refine for_rng (fun k ρ S' => (∃ x3 x4 x5 x6 x7 x8 x9 x10 x11, ρ = [some (dS s), some (dS a), some (dS b), x3, x4, x5, x6, x7, x8, x9, x10, x11]) ∧ Sto.le S S' ∧ (0 < k → btw a.1 s.1 b.1) ∧ (1 < k → btw a.2 s.2 b.2)) ?_ ?_ ⟨⟨_, _, _, _, _, _, _, _, _, rfl⟩, Sto.le.refl _, fun h => absurd h (by decide), fun h => absurd h (by decide)⟩
          · rintro ρ S' ⟨⟨x3, x4, x5, x6, x7, x8, x9, x10, x11, rfl⟩, l, g1, g2⟩
            have : amid s a b := ⟨hz, (amid_iff hz).mpr ⟨c, c2, g1 (by decide), g2 (by decide)⟩⟩
            have hp := hp S' l
            rw [decide_eq_true this] at hp
            exact ret_now hp
          · rintro F k ρ S' hk ⟨⟨x3, x4, x5, x6, x7, x8, x9, x10, x11, rfl⟩, l, g1, g2⟩ hF
            have hk2 : k = 0 ∨ k = 1 := by omega
            have hf : ∃ f : Spot → Rat, (∀ (u : Spot) (T : Sto) (Q : PD), ixS (dS u) (.int (0 + (k : Int))) T Q = Q (dQ (f u)) T) ∧ (∀ u, SzS 4000 u → Sz 4000 (f u)) ∧ (btw (f a) (f s) (f b) → (0 < k + 1 → btw a.1 s.1 b.1) ∧ (1 < k + 1 → btw a.2 s.2 b.2)) ∧ (¬ btw (f a) (f s) (f b) → ¬ btw a.1 s.1 b.1 ∨ ¬ btw a.2 s.2 b.2) := by
              rcases hk2 with rfl | rfl
              · exact ⟨(·.1), fun u T Q => q_ixS0, fun u h => h.1, fun h => ⟨fun _ => h, fun h => absurd h (by decide)⟩, fun h => .inl h⟩
              · exact ⟨(·.2), fun u T Q => q_ixS1, fun u h => h.2, fun h => ⟨fun _ => g1 (by decide), fun _ => h⟩, fun h => .inr h⟩
            obtain ⟨f, f1, f2, f3, f4⟩ := hf
            have fs := (f2 s hs).bd; have fa := (f2 a ha).bd; have fb := (f2 b hb).bd
            try simp only [f1, q_add, q_sub, q_mul, q_div, q_mod, q_pow, q_lt, q_le, q_gt, q_ge, q_eq, q_ne, q_is, q_isnt, q_isntB, q_isB, q_tb, q_ti, q_tn, q_tt, q_ixQ0, q_ixQ1, q_ixS0, q_ixS1, q_eqQ, q_neQ, q_eqSp, q_neSp, q_eqB, q_neB, q_ixT, q_lenT, q_abs, q_intI, q_intB, q_min2, q_max2, at0, at1, at2, List.length_cons, List.length_nil, sizeLine_eq, Nat.reduceAdd, Nat.reduceLeDiff, true_and, Bool.not_true, Bool.not_false, Bool.false_eq_true, if_false, reduceIte, lk, List.set, whole_int, whole_bl, whole_tup, whole_non]
            simp only [dQ]
            try simp only [true_and, q_add, q_sub, q_mul, q_div, q_mod, q_pow, q_lt, q_le, q_gt, q_ge, q_eq, q_ne, q_is, q_isnt, q_isntB, q_isB, q_tb, q_ti, q_tn, q_tt, q_ixQ0, q_ixQ1, q_ixS0, q_ixS1, q_eqQ, q_neQ, q_eqSp, q_neSp, q_eqB, q_neB, q_ixT, q_lenT, q_abs, q_intI, q_intB, q_min2, q_max2, at0, at1, at2, List.length_cons, List.length_nil, sizeLine_eq, Nat.reduceAdd, Nat.reduceLeDiff, true_and, Bool.not_true, Bool.not_false, Bool.false_eq_true, if_false, reduceIte, lk, List.set, whole_int, whole_bl, whole_tup, whole_non]
            refine ⟨fa.1.ok fb.2 (by decide), (fa.1.mul fb.2).ok fs.2 (by decide), fb.1.ok fa.2 (by decide), (fb.1.mul fa.2).ok fs.2 (by decide), fun p np => ?_⟩
            have hso : ∀ Q : PD, (∀ q T, Sto.le (S'.up p (.lst true [.int ((f a).num * (f b).den * (f s).den), .int ((f b).num * (f a).den * (f s).den)])) T → T q = some (.lst true [.int (min ((f a).num * (f b).den * (f s).den) ((f b).num * (f a).den * (f s).den)), .int (max ((f a).num * (f b).den * (f s).den) ((f b).num * (f a).den * (f s).den))]) → Q (.ref q) T) → biS .sorted [.ref p] (S'.up p (.lst true [.int ((f a).num * (f b).den * (f s).den), .int ((f b).num * (f a).den * (f s).den)])) Q := fun Q hQ => by
              simp only [biS, lstD, up_same, intL]
              intro ns q hperm hsort nq
              rw [two_sorted hperm hsort]
              exact hQ q _ (up_ls nq) up_same
            refine hso _ fun q T hT eT => ?_
            dsimp only
            rw [eT]
            dsimp only
            try simp only [true_and, q_add, q_sub, q_mul, q_div, q_mod, q_pow, q_lt, q_le, q_gt, q_ge, q_eq, q_ne, q_is, q_isnt, q_isntB, q_isB, q_tb, q_ti, q_tn, q_tt, q_ixQ0, q_ixQ1, q_ixS0, q_ixS1, q_eqQ, q_neQ, q_eqSp, q_neSp, q_eqB, q_neB, q_ixT, q_lenT, q_abs, q_intI, q_intB, q_min2, q_max2, at0, at1, at2, List.length_cons, List.length_nil, sizeLine_eq, Nat.reduceAdd, Nat.reduceLeDiff, true_and, Bool.not_true, Bool.not_false, Bool.false_eq_true, if_false, reduceIte, lk, List.set, whole_int, whole_bl, whole_tup, whole_non]
            have L : Sto.le S T := l.trans ((up_ls np).trans hT)
            refine ⟨fs.1.ok fa.2 (by decide), (fs.1.mul fa.2).ok fb.2 (by decide), ?_⟩
            refine mb_d (fun c4 => ?_) fun c4 => ?_
            · rw [decide_eq_true c4]; try simp only [true_and, q_add, q_sub, q_mul, q_div, q_mod, q_pow, q_lt, q_le, q_gt, q_ge, q_eq, q_ne, q_is, q_isnt, q_isntB, q_isB, q_tb, q_ti, q_tn, q_tt, q_ixQ0, q_ixQ1, q_ixS0, q_ixS1, q_eqQ, q_neQ, q_eqSp, q_neSp, q_eqB, q_neB, q_ixT, q_lenT, q_abs, q_intI, q_intB, q_min2, q_max2, at0, at1, at2, List.length_cons, List.length_nil, sizeLine_eq, Nat.reduceAdd, Nat.reduceLeDiff, true_and, Bool.not_true, Bool.not_false, Bool.false_eq_true, if_false, reduceIte, lk, List.set, whole_int, whole_bl, whole_tup, whole_non]
              exact ret_now (no (.inr (.inr (.inr (f4 fun z => (btw_int.mpr z).1 c4)))) T L)
            · refine ⟨fs.1.ok fa.2 (by decide), (fs.1.mul fa.2).ok fb.2 (by decide), ?_⟩
              refine if_b (fun c5 => ?_) fun c5 => ?_
              · exact ret_now (no (.inr (.inr (.inr (f4 fun z => (btw_int.mpr z).2 c5)))) T L)
              · exact hF _ _ ⟨⟨_, _, _, _, _, _, _, _, _, rfl⟩, L, (f3 (btw_int.mp ⟨c4, c5⟩)).1, (f3 (btw_int.mp ⟨c4, c5⟩)).2⟩
  · exact h.elim
end Sd
namespace Sd
open PySem
theorem place_at {l : List Spot} {s : Spot} {k : Nat} {p : Pl} (hk : k < l.length) (e1 : (List.range k).findSome? (plAt l s) = none) (e2 : plAt l s k = some p) : place l s = p := by
  unfold place
  have : (List.range l.length).findSome? (plAt l s) = some p := by
    have e3 : List.range l.length = List.range k ++ (List.range (l.length - k)).map (k + ·) := by
      rw [← List.range_add]; congr 1; omega
    rw [e3, List.findSome?_append, e1]
    have e4 : l.length - k = (l.length - k - 1) + 1 := by omega
    rw [e4, List.range_succ_eq_map, List.map_cons, List.findSome?_cons, Nat.add_zero, e2]
    rfl
  rw [this]
/-- a corner lies amid no side -/
theorem Cvx.not_amid {l : List Spot} (h : Cvx l) {k j : Nat} (hk : k < l.length) (hj : j < l.length) : ¬ amid (g l j) (g l k) (nx l k) := fun ⟨hz, hx⟩ => by
  have hy := (amid_iff hz).mp hx
  by_cases c1 : j = k
  · subst c1; exact hy.1 rfl
  · by_cases c2 : j = (k + 1) % l.length
    · subst c2; exact hy.2.1 rfl
    · have := h.rnd k j hk hj c1 c2
      rw [hz] at this
      exact Rat.lt_irrefl this
theorem plAt_none {l : List Spot} {s : Spot} {k : Nat} (h1 : s ≠ g l k) (h2 : ¬ amid s (g l k) (nx l k)) : plAt l s k = none := by
  unfold plAt
  rw [if_neg h1, if_neg h2]
theorem range_none {l : List Spot} {s : Spot} {k : Nat} (h : ∀ j, j < k → plAt l s j = none) : (List.range k).findSome? (plAt l s) = none := by
  rw [List.findSome?_eq_none_iff]
  exact fun j hj => h j (List.mem_range.mp hj)
def c_law_place : Con := fun ds S P _ => match ds with
  | [x, y] => ∃ (l : List Spot) (s : Spot), x = .tup (l.map dS) ∧ y = dS s ∧ Cvx l ∧ 3 ≤ l.length ∧ l.length ≤ 6 ∧ (∀ s ∈ l, SzS 4000 s) ∧ SzS 4000 s ∧ ∀ S', Sto.le S S' → P (dPl (place l s)) S'
  | _ => False
theorem m_law_place {Γ : Gam} (h50 : Γ.fn 50 = c_law_turn) (a50 : Γ.ar 50 = 3) (h51 : Γ.fn 51 = c_law_amid_2) (a51 : Γ.ar 51 = 3) : Meets Γ 4 z_law_place c_law_place := by
  intro ds S P W h
  unfold c_law_place at h
  split at h
  · obtain ⟨l, s, rfl, rfl, hc, h3, h6, hz, hs, hp⟩ := h
    change wZs Γ z_law_place (retE P) [some (.tup (l.map dS)), some (dS s), none, none] S (errW W)
    have hn : ((l.length : Nat) : Int).toNat = l.length := by omega
    refine cut 2 (fun ρ S' => (∃ x3, ρ = [some (.tup (l.map dS)), some (dS s), some (.int l.length), x3]) ∧ S' = S ∧ ∀ k, k < l.length → s ≠ g l k) (fun G hG => ?_) ?_
    · dsimp only [z_law_place]
      dsimp only [wZs, wZ, wE, wEs, wT, wTs, wI, lk, List.set, aTru, partS, List.take, List.drop]
      try simp only [List.length_map, q_add, q_sub, q_mul, q_div, q_mod, q_pow, q_lt, q_le, q_gt, q_ge, q_eq, q_ne, q_is, q_isnt, q_isntB, q_isB, q_tb, q_ti, q_tn, q_tt, q_ixQ0, q_ixQ1, q_ixS0, q_ixS1, q_eqQ, q_neQ, q_eqSp, q_neSp, q_eqB, q_neB, q_ixT, q_lenT, q_abs, q_intI, q_intB, q_min2, q_max2, at0, at1, at2, List.length_cons, List.length_nil, sizeLine_eq, Nat.reduceAdd, Nat.reduceLeDiff, true_and, Bool.not_true, Bool.not_false, Bool.false_eq_true, if_false, reduceIte, lk, List.set, whole_int, whole_bl, whole_tup, whole_non]
      refine ⟨by omega, ?_⟩
      rw [hn]
      refine for_rng (fun k ρ S' => (∃ x3, ρ = [some (.tup (l.map dS)), some (dS s), some (.int l.length), x3]) ∧ S' = S ∧ ∀ j, j < k → s ≠ g l j) ?_ ?_ ⟨⟨_, rfl⟩, rfl, fun j h => by omega⟩
      · rintro ρ S' ⟨⟨x3, rfl⟩, rfl, hx⟩
        exact hG _ _ ⟨⟨_, rfl⟩, rfl, hx⟩
      · rintro F k ρ S' hk ⟨⟨x3, rfl⟩, rfl, hx⟩ hF
        try simp only [Int.zero_add, at_g hk, q_add, q_sub, q_mul, q_div, q_mod, q_pow, q_lt, q_le, q_gt, q_ge, q_eq, q_ne, q_is, q_isnt, q_isntB, q_isB, q_tb, q_ti, q_tn, q_tt, q_ixQ0, q_ixQ1, q_ixS0, q_ixS1, q_eqQ, q_neQ, q_eqSp, q_neSp, q_eqB, q_neB, q_ixT, q_lenT, q_abs, q_intI, q_intB, q_min2, q_max2, at0, at1, at2, List.length_cons, List.length_nil, sizeLine_eq, Nat.reduceAdd, Nat.reduceLeDiff, true_and, Bool.not_true, Bool.not_false, Bool.false_eq_true, if_false, reduceIte, lk, List.set, whole_int, whole_bl, whole_tup, whole_non]
        refine if_b (fun c => ?_) fun c => ?_
        · have e : plAt l s k = some (.co k) := by unfold plAt; rw [if_pos c.symm]
          have e1 : place l s = .co k := place_at hk (range_none fun j hj => plAt_none (hx j hj) (by rw [← c]; exact hc.not_amid (by omega) hk)) e
          rw [e1] at hp
          exact ret_now (hp _ (Sto.le.refl _))
        · refine hF _ _ ⟨⟨_, rfl⟩, rfl, fun j hj => ?_⟩
          by_cases cj : j = k
          · subst cj; exact fun z => c z.symm
          · exact hx j (by omega)
    rintro ρ S1 ⟨⟨x3, rfl⟩, rfl, hco⟩
    refine cut 1 (fun ρ S' => (∃ x3, ρ = [some (.tup (l.map dS)), some (dS s), some (.int l.length), x3]) ∧ Sto.le S1 S' ∧ ∀ k, k < l.length → ¬ amid s (g l k) (nx l k)) (fun G hG => ?_) ?_
    · dsimp only [z_law_place, List.drop, List.take]
      dsimp only [wZs, wZ, wE, wEs, wT, wTs, wI, lk, List.set, aTru, partS, List.take, List.drop]
      try simp only [true_and, q_add, q_sub, q_mul, q_div, q_mod, q_pow, q_lt, q_le, q_gt, q_ge, q_eq, q_ne, q_is, q_isnt, q_isntB, q_isB, q_tb, q_ti, q_tn, q_tt, q_ixQ0, q_ixQ1, q_ixS0, q_ixS1, q_eqQ, q_neQ, q_eqSp, q_neSp, q_eqB, q_neB, q_ixT, q_lenT, q_abs, q_intI, q_intB, q_min2, q_max2, at0, at1, at2, List.length_cons, List.length_nil, sizeLine_eq, Nat.reduceAdd, Nat.reduceLeDiff, true_and, Bool.not_true, Bool.not_false, Bool.false_eq_true, if_false, reduceIte, lk, List.set, whole_int, whole_bl, whole_tup, whole_non]
      refine ⟨by omega, ?_⟩
      rw [hn]
      refine for_rng (fun k ρ S' => (∃ x3, ρ = [some (.tup (l.map dS)), some (dS s), some (.int l.length), x3]) ∧ Sto.le S1 S' ∧ ∀ j, j < k → ¬ amid s (g l j) (nx l j)) ?_ ?_ ⟨⟨_, rfl⟩, Sto.le.refl _, fun j h => by omega⟩
      · rintro ρ S' ⟨⟨x3, rfl⟩, l', hx⟩
        exact hG _ _ ⟨⟨_, rfl⟩, l', hx⟩
      · rintro F k ρ S' hk ⟨⟨x3, rfl⟩, l', hx⟩ hF
        have hk1 := nx_lt hk
        try simp only [Int.zero_add, at_g hk, mod_nx (show 0 < l.length by omega), at_g hk1, h51, a51, q_add, q_sub, q_mul, q_div, q_mod, q_pow, q_lt, q_le, q_gt, q_ge, q_eq, q_ne, q_is, q_isnt, q_isntB, q_isB, q_tb, q_ti, q_tn, q_tt, q_ixQ0, q_ixQ1, q_ixS0, q_ixS1, q_eqQ, q_neQ, q_eqSp, q_neSp, q_eqB, q_neB, q_ixT, q_lenT, q_abs, q_intI, q_intB, q_min2, q_max2, at0, at1, at2, List.length_cons, List.length_nil, sizeLine_eq, Nat.reduceAdd, Nat.reduceLeDiff, true_and, Bool.not_true, Bool.not_false, Bool.false_eq_true, if_false, reduceIte, lk, List.set, whole_int, whole_bl, whole_tup, whole_non]
        refine ⟨by omega, s, g l k, g l ((k + 1) % l.length), rfl, rfl, rfl, hs, sds_g hz hk, sds_g hz hk1, fun S2 l2 => ?_⟩
        try simp only [true_and, q_add, q_sub, q_mul, q_div, q_mod, q_pow, q_lt, q_le, q_gt, q_ge, q_eq, q_ne, q_is, q_isnt, q_isntB, q_isB, q_tb, q_ti, q_tn, q_tt, q_ixQ0, q_ixQ1, q_ixS0, q_ixS1, q_eqQ, q_neQ, q_eqSp, q_neSp, q_eqB, q_neB, q_ixT, q_lenT, q_abs, q_intI, q_intB, q_min2, q_max2, at0, at1, at2, List.length_cons, List.length_nil, sizeLine_eq, Nat.reduceAdd, Nat.reduceLeDiff, true_and, Bool.not_true, Bool.not_false, Bool.false_eq_true, if_false, reduceIte, lk, List.set, whole_int, whole_bl, whole_tup, whole_non]
        refine if_b (fun c => ?_) fun c => ?_
        · have e : plAt l s k = some (.si k) := by unfold plAt; rw [if_neg (hco k hk)]; exact if_pos c
          have e1 : place l s = .si k := place_at hk (range_none fun j hj => plAt_none (hco j (by omega)) (hx j hj)) e
          rw [e1] at hp
          exact ret_now (hp _ (l'.trans l2))
        · refine hF _ _ ⟨⟨_, rfl⟩, l'.trans l2, fun j hj => ?_⟩
          by_cases cj : j = k
          · subst cj; exact c
          · exact hx j (by omega)
    rintro ρ S2 ⟨⟨x3, rfl⟩, l2, hsi⟩
    have e0 := range_none (l := l) (s := s) (k := l.length) fun j hj => plAt_none (hco j hj) (hsi j hj)
    have pin : (∀ k, k < l.length → 0 < tw (g l k) (nx l k) s) → place l s = .ins := fun h => by
      unfold place
      rw [e0]
      exact if_pos h
    have pout : ¬ (∀ k, k < l.length → 0 < tw (g l k) (nx l k) s) → place l s = .out := fun h => by
      unfold place
      rw [e0]
      exact if_neg h
    dsimp only [z_law_place, List.drop, List.take]
    dsimp only [wZs, wZ, wE, wEs, wT, wTs, wI, lk, List.set, aTru, partS, List.take, List.drop]
    try simp only [true_and, q_add, q_sub, q_mul, q_div, q_mod, q_pow, q_lt, q_le, q_gt, q_ge, q_eq, q_ne, q_is, q_isnt, q_isntB, q_isB, q_tb, q_ti, q_tn, q_tt, q_ixQ0, q_ixQ1, q_ixS0, q_ixS1, q_eqQ, q_neQ, q_eqSp, q_neSp, q_eqB, q_neB, q_ixT, q_lenT, q_abs, q_intI, q_intB, q_min2, q_max2, at0, at1, at2, List.length_cons, List.length_nil, sizeLine_eq, Nat.reduceAdd, Nat.reduceLeDiff, true_and, Bool.not_true, Bool.not_false, Bool.false_eq_true, if_false, reduceIte, lk, List.set, whole_int, whole_bl, whole_tup, whole_non]
    refine ⟨by omega, ?_⟩
    rw [hn]
    refine for_rng (fun k ρ S' => (∃ x3, ρ = [some (.tup (l.map dS)), some (dS s), some (.int l.length), x3]) ∧ S' = S2 ∧ ∀ j, j < k → 0 < tw (g l j) (nx l j) s) ?_ ?_ ⟨⟨_, rfl⟩, rfl, fun j h => by omega⟩
    · rintro ρ S' ⟨⟨x3, rfl⟩, rfl, hx⟩
      rw [pin hx] at hp
      exact ret_now (hp _ l2)
    · rintro F k ρ S' hk ⟨⟨x3, rfl⟩, rfl, hx⟩ hF
      have hk1 := nx_lt hk
      try simp only [Int.zero_add, at_g hk, mod_nx (show 0 < l.length by omega), at_g hk1, h50, a50, q_add, q_sub, q_mul, q_div, q_mod, q_pow, q_lt, q_le, q_gt, q_ge, q_eq, q_ne, q_is, q_isnt, q_isntB, q_isB, q_tb, q_ti, q_tn, q_tt, q_ixQ0, q_ixQ1, q_ixS0, q_ixS1, q_eqQ, q_neQ, q_eqSp, q_neSp, q_eqB, q_neB, q_ixT, q_lenT, q_abs, q_intI, q_intB, q_min2, q_max2, at0, at1, at2, List.length_cons, List.length_nil, sizeLine_eq, Nat.reduceAdd, Nat.reduceLeDiff, true_and, Bool.not_true, Bool.not_false, Bool.false_eq_true, if_false, reduceIte, lk, List.set, whole_int, whole_bl, whole_tup, whole_non]
      refine ⟨by omega, g l k, g l ((k + 1) % l.length), s, 4000, rfl, rfl, rfl, by decide, sds_g hz hk, sds_g hz hk1, hs, ?_⟩
      try simp only [true_and, q_add, q_sub, q_mul, q_div, q_mod, q_pow, q_lt, q_le, q_gt, q_ge, q_eq, q_ne, q_is, q_isnt, q_isntB, q_isB, q_tb, q_ti, q_tn, q_tt, q_ixQ0, q_ixQ1, q_ixS0, q_ixS1, q_eqQ, q_neQ, q_eqSp, q_neSp, q_eqB, q_neB, q_ixT, q_lenT, q_abs, q_intI, q_intB, q_min2, q_max2, at0, at1, at2, List.length_cons, List.length_nil, sizeLine_eq, Nat.reduceAdd, Nat.reduceLeDiff, true_and, Bool.not_true, Bool.not_false, Bool.false_eq_true, if_false, reduceIte, lk, List.set, whole_int, whole_bl, whole_tup, whole_non]
      have e : (sgn (tw (g l k) (g l ((k + 1) % l.length)) s) < 1) ↔ ¬ 0 < tw (g l k) (nx l k) s := by
        show sgn (tw (g l k) (nx l k) s) < 1 ↔ _
        unfold sgn
        split
        · rename_i c; simp [c]
        · rename_i c; split <;> simp [c]
      refine if_b (fun c => ?_) fun c => ?_
      · rw [pout (fun z => e.mp c (z k hk))] at hp
        exact ret_now (hp _ l2)
      · refine hF _ _ ⟨⟨_, rfl⟩, rfl, fun j hj => ?_⟩
        by_cases cj : j = k
        · subst cj; exact Classical.byContradiction fun z => c (e.mpr z)
        · exact hx j (by omega)
  · exact h.elim
/-! ### the spots -/
def c_law_spots : Con := fun ds S P _ => match ds with
  | [.ref a, x] => ∃ (n : Int) (f : List Spot), Row S a n ∧ n < 2 ^ 50 ∧ x = dL f ∧ 3 ≤ f.length ∧ f.length ≤ 6 ∧ (∀ s ∈ f, SzS 90 s) ∧ ∀ (p : Addr) (l : List Spot) (S' : Sto), S p = none → S' p = some (.lst true (l.map dS)) → l.length ≤ 10 → (∀ s ∈ l, SzS 4000 s) → Rowed S S' a → P (.ref p) S'
  | _ => False
theorem mid2 {Γ : Gam} {S : Sto} {P : PD} {W : FW} {s t : Spot} {w v : Int} {n m : Nat} {p q : Addr} (h1 : S p = some (.lst true [dS s, dS t])) (h2 : S q = some (.lst true [.int w, .int v])) (hn : n ≤ 1200) (hm : m ≤ 200) (hm0 : 0 < m) (hs : SzS n s) (ht : SzS n t) (hw : Bd m w) (hv : Bd m v) (hsum : w + v ≠ 0)
    (hP : ∀ x, SzS (2 * (m + n + 1) + m + 4) x → P (dS x) S) : c_law_mid [.ref p, .ref q] S P W := by
  have zs : ∀ v ∈ [s, t], SzS n v := by
    simp only [List.forall_mem_cons, List.not_mem_nil, false_implies, implies_true, and_true]
    exact ⟨hs, ht⟩
  have zw : ∀ i ∈ [w, v], Bd m i := by
    simp only [List.forall_mem_cons, List.not_mem_nil, false_implies, implies_true, and_true]
    exact ⟨hw, hv⟩
  exact ⟨true, true, [s, t], [w, v], n, m, h1, h2, by (first | decide | (simp only [List.length_append, List.length_cons, List.length_nil]; decide)), by (first | decide | (simp only [List.length_append, List.length_cons, List.length_nil]; decide)), hn, hm, zs, zw, by simp only [List.sum_cons, List.sum_nil]; omega, hP _ (mid_sz (k := 2) hm0 (by (first | decide | (simp only [List.length_append, List.length_cons, List.length_nil]; decide))) (by (first | decide | (simp only [List.length_append, List.length_cons, List.length_nil]; decide))) zs zw)⟩
theorem m_law_spots {Γ : Gam} (h0 : Γ.fn 0 = c_law_take_2) (a0 : Γ.ar 0 = 2) (h4 : Γ.fn 4 = c_law_lowest) (a4 : Γ.ar 4 = 2) (h69 : Γ.fn 69 = c_law_mid) (a69 : Γ.ar 69 = 2) (h70 : Γ.fn 70 = c_law_pushed_s) (a70 : Γ.ar 70 = 2) : Meets Γ 11 z_law_spots c_law_spots := by
  intro ds S P W h
  unfold c_law_spots at h
  split at h
  · rename_i a x
    obtain ⟨n, f, r, hn, rfl, f3, f6, hz, h⟩ := h
    change wZs Γ z_law_spots (retE P) [some (.ref a), some (.tup (f.map dS)), none, none, none, none, none, none, none, none, none] S (errW W)
    refine cut 4 (fun ρ S' => ∃ (at' : Nat) (pt : Int) (o1 o2 s1 s2 : Spot) (p : Addr), ρ = [some (.ref a), some (.tup (f.map dS)), some (.int at'), some (dS o1), some (dS o2), some (.int pt), some (.ref p), none, none, none, none] ∧ at' < f.length ∧ S p = none ∧ S' p = some (.lst true [dS o2, dS s1, dS s2]) ∧ SzS 90 o2 ∧ SzS 220 s1 ∧ SzS 220 s2 ∧ Row S' a (n + 2) ∧ Rowed S S' a) (fun G hG => ?_) ?_
    · dsimp only [z_law_spots]
      dsimp only [wZs, wZ, wE, wEs, wT, wTs, wI, lk, List.set, aTru, partS, List.take, List.drop]
      try simp only [h0, a0, List.length_map, q_add, q_sub, q_mul, q_div, q_mod, q_pow, q_lt, q_le, q_gt, q_ge, q_eq, q_ne, q_is, q_isnt, q_isntB, q_isB, q_tb, q_ti, q_tn, q_tt, q_ixQ0, q_ixQ1, q_ixS0, q_ixS1, q_eqQ, q_neQ, q_eqSp, q_neSp, q_eqB, q_neB, q_ixT, q_lenT, q_abs, q_intI, q_intB, q_min2, q_max2, at0, at1, at2, List.length_cons, List.length_nil, sizeLine_eq, Nat.reduceAdd, Nat.reduceLeDiff, true_and, Bool.not_true, Bool.not_false, Bool.false_eq_true, if_false, reduceIte, lk, List.set, whole_int, whole_bl, whole_tup, whole_non]
      refine take_row r (by omega) ⟨by omega, by omega⟩ fun k S1 k0 k1 r1 q1 => ?_
      obtain ⟨k, rfl⟩ : ∃ j : Nat, k = j := ⟨k.toNat, by omega⟩
      have hk : k < f.length := by omega
      try simp only [at_g hk, at_pv hk, q_add, q_sub, q_mul, q_div, q_mod, q_pow, q_lt, q_le, q_gt, q_ge, q_eq, q_ne, q_is, q_isnt, q_isntB, q_isB, q_tb, q_ti, q_tn, q_tt, q_ixQ0, q_ixQ1, q_ixS0, q_ixS1, q_eqQ, q_neQ, q_eqSp, q_neSp, q_eqB, q_neB, q_ixT, q_lenT, q_abs, q_intI, q_intB, q_min2, q_max2, at0, at1, at2, List.length_cons, List.length_nil, sizeLine_eq, Nat.reduceAdd, Nat.reduceLeDiff, true_and, Bool.not_true, Bool.not_false, Bool.false_eq_true, if_false, reduceIte, lk, List.set, whole_int, whole_bl, whole_tup, whole_non]
      refine take_row r1 (by omega) (by decide) fun k2 S2 k20 k21 r2 q2 => ?_
      have zo := sds_g hz (pv_lt hk); have zp := sds_g hz hk
      try simp only [h69, a69, q_add, q_sub, q_mul, q_div, q_mod, q_pow, q_lt, q_le, q_gt, q_ge, q_eq, q_ne, q_is, q_isnt, q_isntB, q_isB, q_tb, q_ti, q_tn, q_tt, q_ixQ0, q_ixQ1, q_ixS0, q_ixS1, q_eqQ, q_neQ, q_eqSp, q_neSp, q_eqB, q_neB, q_ixT, q_lenT, q_abs, q_intI, q_intB, q_min2, q_max2, at0, at1, at2, List.length_cons, List.length_nil, sizeLine_eq, Nat.reduceAdd, Nat.reduceLeDiff, true_and, Bool.not_true, Bool.not_false, Bool.false_eq_true, if_false, reduceIte, lk, List.set, whole_int, whole_bl, whole_tup, whole_non]
      intro p1 n1 p2 n2
      have l1 := up_ls (o := .lst true [dS (g f (pv f k)), dS (g f k)]) n1
      have l2 := up_ls (o := .lst true [.int (1 + k2), .int (9 - (1 + k2))]) n2
      refine mid2 (Γ := Γ) (n := 90) (m := 5) (l2 _ _ up_same) up_same (by decide) (by decide) (by decide) zo zp (by unfold Bd; omega) (by unfold Bd; omega) (by omega) fun s1 z1 => ?_
      try simp only [true_and, q_add, q_sub, q_mul, q_div, q_mod, q_pow, q_lt, q_le, q_gt, q_ge, q_eq, q_ne, q_is, q_isnt, q_isntB, q_isB, q_tb, q_ti, q_tn, q_tt, q_ixQ0, q_ixQ1, q_ixS0, q_ixS1, q_eqQ, q_neQ, q_eqSp, q_neSp, q_eqB, q_neB, q_ixT, q_lenT, q_abs, q_intI, q_intB, q_min2, q_max2, at0, at1, at2, List.length_cons, List.length_nil, sizeLine_eq, Nat.reduceAdd, Nat.reduceLeDiff, true_and, Bool.not_true, Bool.not_false, Bool.false_eq_true, if_false, reduceIte, lk, List.set, whole_int, whole_bl, whole_tup, whole_non]
      intro p3 n3 p4 n4
      have l3 := up_ls (o := .lst true [dS (g f (pv f k)), dS (g f k)]) n3
      have l4 := up_ls (o := .lst true [.int (9 + (1 + k2)), .int (0 - (1 + k2))]) n4
      refine mid2 (Γ := Γ) (n := 90) (m := 5) (l4 _ _ up_same) up_same (by decide) (by decide) (by decide) zo zp (by unfold Bd; omega) (by unfold Bd; omega) (by omega) fun s2 z2 => ?_
      try simp only [true_and, q_add, q_sub, q_mul, q_div, q_mod, q_pow, q_lt, q_le, q_gt, q_ge, q_eq, q_ne, q_is, q_isnt, q_isntB, q_isB, q_tb, q_ti, q_tn, q_tt, q_ixQ0, q_ixQ1, q_ixS0, q_ixS1, q_eqQ, q_neQ, q_eqSp, q_neSp, q_eqB, q_neB, q_ixT, q_lenT, q_abs, q_intI, q_intB, q_min2, q_max2, at0, at1, at2, List.length_cons, List.length_nil, sizeLine_eq, Nat.reduceAdd, Nat.reduceLeDiff, true_and, Bool.not_true, Bool.not_false, Bool.false_eq_true, if_false, reduceIte, lk, List.set, whole_int, whole_bl, whole_tup, whole_non]
      intro p5 n5
      have l5 := up_ls (o := .lst true [dS (g f k), dS s1, dS s2]) n5
      have L := l1.trans (l2.trans (l3.trans (l4.trans l5)))
      have r5 := r2.le L
      have o5 := (q1.trans q2).le (l1.trans (l2.trans (l3.trans l4)))
      have r4 := r2.le (l1.trans (l2.trans (l3.trans l4)))
      have n0 : S p5 = none := by
        cases z : S p5 with
        | none => rfl
        | some o => rw [o5 _ _ (r4.ne n5) z] at n5; cases n5
      exact hG _ _ ⟨k, _, _, _, s1, s2, p5, rfl, hk, n0, up_same, zp, z1.mono (by decide), z2.mono (by decide), r5.mono (by omega), (q1.trans q2).le L⟩
    rintro ρ S1 ⟨k, pt, o1, o2, s1, s2, p, rfl, hk, n0, ep, zo2, zs1, zs2, r1, q1⟩
    have dp : p ≠ a := fun z => by
      obtain ⟨c, m, e, _⟩ := r
      rw [← z, n0] at e; cases e
    refine cut 2 (fun ρ S' => ∃ (q7 : D) (x8 : Option D) (s3 : Spot), ρ = [some (.ref a), some (.tup (f.map dS)), some (.int k), some (dS o1), some (dS o2), some (.int pt), some (.ref p), some q7, x8, none, none] ∧ S' p = some (.lst true [dS o2, dS s1, dS s2, dS s3]) ∧ SzS 600 s3 ∧ Row S' a (n + 8) ∧ Rowed S S' a) (fun G hG => ?_) ?_
    · dsimp only [z_law_spots, List.drop, List.take]
      dsimp only [wZs, wZ, wE, wEs, wT, wTs, wI, lk, List.set, aTru, partS, List.take, List.drop]
      try simp only [h0, a0, h69, a69, List.length_map, q_add, q_sub, q_mul, q_div, q_mod, q_pow, q_lt, q_le, q_gt, q_ge, q_eq, q_ne, q_is, q_isnt, q_isntB, q_isB, q_tb, q_ti, q_tn, q_tt, q_ixQ0, q_ixQ1, q_ixS0, q_ixS1, q_eqQ, q_neQ, q_eqSp, q_neSp, q_eqB, q_neB, q_ixT, q_lenT, q_abs, q_intI, q_intB, q_min2, q_max2, at0, at1, at2, List.length_cons, List.length_nil, sizeLine_eq, Nat.reduceAdd, Nat.reduceLeDiff, true_and, Bool.not_true, Bool.not_false, Bool.false_eq_true, if_false, reduceIte, lk, List.set, whole_int, whole_bl, whole_tup, whole_non]
      refine ⟨by omega, fun q nq => ?_⟩
      rw [show ((f.length : Nat) : Int).toNat = f.length by omega]
      have dq := r1.ne nq
      have dqp : q ≠ p := fun z => by rw [z, ep] at nq; cases nq
      refine lc_ind (src := .free) (fun rr S' => ∃ ws : List Int, ws.length + rr.length = f.length ∧ rr = rngItems (ws.length : Int) rr.length ∧ S' q = some (.lst true (ws.map D.int)) ∧ Row S' a (n + 2 + ws.length) ∧ Rowed S S' a ∧ S' p = some (.lst true [dS o2, dS s1, dS s2]) ∧ (∀ w ∈ ws, 0 ≤ w ∧ w ≤ 4) ∧ 0 ≤ ws.sum ∧ (k < ws.length → 1 ≤ ws.sum)) (fun _ _ _ => trivial) ?_ ?_ ⟨[], by rw [rng_len]; simp, by rw [rng_len]; rfl, up_same, by simpa using r1.ne' nq, q1.new nq, (up_ls nq) _ _ ep, by simp, by simp, fun h => absurd h (by simp)⟩
      · rintro S' ⟨ws, hl, _, eq, rr, oo, ep', hw, hs0, hs1⟩
        have hl' : ws.length = f.length := by simpa using hl
        have hsum := hs1 (by omega)
        try simp only [q_isL, ep', biS, q_seqT, q_add, q_sub, q_mul, q_div, q_mod, q_pow, q_lt, q_le, q_gt, q_ge, q_eq, q_ne, q_is, q_isnt, q_isntB, q_isB, q_tb, q_ti, q_tn, q_tt, q_ixQ0, q_ixQ1, q_ixS0, q_ixS1, q_eqQ, q_neQ, q_eqSp, q_neSp, q_eqB, q_neB, q_ixT, q_lenT, q_abs, q_intI, q_intB, q_min2, q_max2, at0, at1, at2, List.length_cons, List.length_nil, sizeLine_eq, Nat.reduceAdd, Nat.reduceLeDiff, true_and, Bool.not_true, Bool.not_false, Bool.false_eq_true, if_false, reduceIte, lk, List.set, whole_int, whole_bl, whole_tup, whole_non]
        intro p2 n2
        have l2 := up_ls (o := .lst true (f.map dS)) n2
        have zw : ∀ i ∈ ws, Bd 3 i := fun i hi => by have := hw i hi; unfold Bd; omega
        refine ⟨true, true, f, ws, 90, 3, up_same, l2 _ _ eq, f6, by omega, by decide, by decide, hz, zw, by omega, ?_⟩
        have zm := mid_sz (k := 6) (by decide) f6 (by omega) hz zw
        dsimp only
        rw [q_append, l2 _ _ ep']
        refine ⟨by rw [sizeLine_eq]; (first | decide | (simp only [List.length_append, List.length_cons, List.length_nil]; decide)), ?_⟩
        refine hG _ _ ⟨_, _, mid f ws, rfl, up_same, zm.mono (by decide), ?_, ?_⟩
        · obtain ⟨c, m, e, m0, m1⟩ := rr.le l2
          exact ⟨c, m, by rw [up_oth dp]; exact e, m0, by omega⟩
        · intro b o hb e
          rw [up_oth (fun z => by rw [← z, n0] at e; cases e)]
          exact l2 _ _ (oo b o hb e)
      · rintro F' d rr S' ⟨ws, hl, hr, eq, rw', oo, ep', hw, hs0, hs1⟩ hF'
        have hl' : ws.length + (rr.length + 1) = f.length := hl
        rw [List.length_cons, rng_cons] at hr
        injection hr with e1 e2
        subst e1
        try simp only [wipeD, h0, a0, aTru, q_add, q_sub, q_mul, q_div, q_mod, q_pow, q_lt, q_le, q_gt, q_ge, q_eq, q_ne, q_is, q_isnt, q_isntB, q_isB, q_tb, q_ti, q_tn, q_tt, q_ixQ0, q_ixQ1, q_ixS0, q_ixS1, q_eqQ, q_neQ, q_eqSp, q_neSp, q_eqB, q_neB, q_ixT, q_lenT, q_abs, q_intI, q_intB, q_min2, q_max2, at0, at1, at2, List.length_cons, List.length_nil, sizeLine_eq, Nat.reduceAdd, Nat.reduceLeDiff, true_and, Bool.not_true, Bool.not_false, Bool.false_eq_true, if_false, reduceIte, lk, List.set, whole_int, whole_bl, whole_tup, whole_non]
        refine take_row rw' (by omega) (by decide) fun j S2 j0 j1 r2 o2' => ?_
        have eq2 := o2' _ _ dq eq
        try simp only [eq2, q_add, q_sub, q_mul, q_div, q_mod, q_pow, q_lt, q_le, q_gt, q_ge, q_eq, q_ne, q_is, q_isnt, q_isntB, q_isB, q_tb, q_ti, q_tn, q_tt, q_ixQ0, q_ixQ1, q_ixS0, q_ixS1, q_eqQ, q_neQ, q_eqSp, q_neSp, q_eqB, q_neB, q_ixT, q_lenT, q_abs, q_intI, q_intB, q_min2, q_max2, at0, at1, at2, List.length_cons, List.length_nil, sizeLine_eq, Nat.reduceAdd, Nat.reduceLeDiff, true_and, Bool.not_true, Bool.not_false, Bool.false_eq_true, if_false, reduceIte, lk, List.set, whole_int, whole_bl, whole_tup, whole_non]
        have hb : (if decide (((ws.length : Nat) : Int) = (k : Int)) = true then (1 : Int) else 0) = if ws.length = k then 1 else 0 := by
          by_cases c : ws.length = k
          · rw [if_pos c, decide_eq_true (by omega)]; rfl
          · rw [if_neg c, decide_eq_false (by omega)]; rfl
        rw [hb]
        refine ⟨by rw [List.length_map]; omega, hF' _ ⟨ws ++ [j + if ws.length = k then 1 else 0], by rw [List.length_append]; simp; omega, by rw [List.length_append]; simp only [List.length_cons, List.length_nil]; rw [e2, rng_len]; congr 1, by rw [up_same, List.map_append]; rfl, ?_, ?_, by rw [up_oth dqp]; exact o2' _ _ dp ep', ?_, ?_, ?_⟩⟩
        · obtain ⟨c, m, e, m0, m1⟩ := r2
          exact ⟨c, m, by rw [up_oth dq]; exact e, m0, by rw [List.length_append]; simp only [List.length_cons, List.length_nil]; omega⟩
        · intro b o hb e
          rw [up_oth (fun z => by
            have hn2 : S q = none := by
              cases zz : S q with
              | none => rfl
              | some o => rw [q1 _ _ dq zz] at nq; cases nq
            rw [← z, hn2] at e; cases e)]
          exact o2' _ _ hb (oo b o hb e)
        · intro w hw'
          rcases List.mem_append.mp hw' with z | z
          · exact hw w z
          · rw [List.mem_singleton.mp z]
            split <;> omega
        · rw [List.sum_append]; simp only [List.sum_cons, List.sum_nil]; split <;> omega
        · intro hlt
          rw [List.length_append] at hlt
          simp only [List.length_cons, List.length_nil] at hlt
          rw [List.sum_append]; simp only [List.sum_cons, List.sum_nil]
          by_cases c : ws.length = k
          · rw [if_pos c]; omega
          · have := hs1 (by omega)
            rw [if_neg c]; omega
    rintro ρ S2 ⟨q7, x8, s3, rfl, ep2, zs3, r2, q2⟩
    dsimp only [z_law_spots, List.drop, List.take]
    dsimp only [wZs, wZ, wE, wEs, wT, wTs, wI, lk, List.set, aTru, partS, List.take, List.drop]
    try simp only [q_ixL, ep2, q_add, q_sub, q_mul, q_div, q_mod, q_pow, q_lt, q_le, q_gt, q_ge, q_eq, q_ne, q_is, q_isnt, q_isntB, q_isB, q_tb, q_ti, q_tn, q_tt, q_ixQ0, q_ixQ1, q_ixS0, q_ixS1, q_eqQ, q_neQ, q_eqSp, q_neSp, q_eqB, q_neB, q_ixT, q_lenT, q_abs, q_intI, q_intB, q_min2, q_max2, at0, at1, at2, List.length_cons, List.length_nil, sizeLine_eq, Nat.reduceAdd, Nat.reduceLeDiff, true_and, Bool.not_true, Bool.not_false, Bool.false_eq_true, if_false, reduceIte, lk, List.set, whole_int, whole_bl, whole_tup, whole_non]
    have e3 : L2.atI [dS o2, dS s1, dS s2, dS s3] 3 = some (dS s3) := rfl
    rw [e3]
    simp only [dS]
    try simp only [q_isL, ep2, h0, a0, h4, a4, q_add, q_sub, q_mul, q_div, q_mod, q_pow, q_lt, q_le, q_gt, q_ge, q_eq, q_ne, q_is, q_isnt, q_isntB, q_isB, q_tb, q_ti, q_tn, q_tt, q_ixQ0, q_ixQ1, q_ixS0, q_ixS1, q_eqQ, q_neQ, q_eqSp, q_neSp, q_eqB, q_neB, q_ixT, q_lenT, q_abs, q_intI, q_intB, q_min2, q_max2, at0, at1, at2, List.length_cons, List.length_nil, sizeLine_eq, Nat.reduceAdd, Nat.reduceLeDiff, true_and, Bool.not_true, Bool.not_false, Bool.false_eq_true, if_false, reduceIte, lk, List.set, whole_int, whole_bl, whole_tup, whole_non]
    have b3 := zs3.1.bd; have b4 := zs3.2.bd
    refine take_row r2 (by omega) (by decide) fun k1 S3 k10 k11 r3 q3 => ?_
    try simp only [true_and, q_add, q_sub, q_mul, q_div, q_mod, q_pow, q_lt, q_le, q_gt, q_ge, q_eq, q_ne, q_is, q_isnt, q_isntB, q_isB, q_tb, q_ti, q_tn, q_tt, q_ixQ0, q_ixQ1, q_ixS0, q_ixS1, q_eqQ, q_neQ, q_eqSp, q_neSp, q_eqB, q_neB, q_ixT, q_lenT, q_abs, q_intI, q_intB, q_min2, q_max2, at0, at1, at2, List.length_cons, List.length_nil, sizeLine_eq, Nat.reduceAdd, Nat.reduceLeDiff, true_and, Bool.not_true, Bool.not_false, Bool.false_eq_true, if_false, reduceIte, lk, List.set, whole_int, whole_bl, whole_tup, whole_non]
    refine lowest_q (den_neI _) (b3.2.lt9 (by decide)) ?_
    refine take_row r3 (by omega) (by decide) fun k2 S4 k20 k21 r4 q4 => ?_
    try simp only [true_and, q_add, q_sub, q_mul, q_div, q_mod, q_pow, q_lt, q_le, q_gt, q_ge, q_eq, q_ne, q_is, q_isnt, q_isntB, q_isB, q_tb, q_ti, q_tn, q_tt, q_ixQ0, q_ixQ1, q_ixS0, q_ixS1, q_eqQ, q_neQ, q_eqSp, q_neSp, q_eqB, q_neB, q_ixT, q_lenT, q_abs, q_intI, q_intB, q_min2, q_max2, at0, at1, at2, List.length_cons, List.length_nil, sizeLine_eq, Nat.reduceAdd, Nat.reduceLeDiff, true_and, Bool.not_true, Bool.not_false, Bool.false_eq_true, if_false, reduceIte, lk, List.set, whole_int, whole_bl, whole_tup, whole_non]
    refine lowest_q (den_neI _) (b4.2.lt9 (by decide)) ?_
    have ep4 := (q3.trans q4) _ _ dp ep2
    have z4 : SzS 700 (((s3.1.num + k1 - 4 : Int) : Rat) / ((s3.1.den : Int) : Rat), ((s3.2.num + k2 - 4 : Int) : Rat) / ((s3.2.den : Int) : Rat)) := by
      have c1 : Bd 600 k1 := (show Bd 5 k1 by unfold Bd; omega).mono (by decide)
      have c2 : Bd 600 k2 := (show Bd 5 k2 by unfold Bd; omega).mono (by decide)
      have c4 : Bd 601 4 := (show Bd 5 4 by unfold Bd; decide).mono (by decide)
      exact ⟨sz_div (den_neI _) (((b3.1.add c1).sub c4).mono (by decide)) (b3.2.mono (by decide)), sz_div (den_neI _) (((b4.1.add c2).sub c4).mono (by decide)) (b4.2.mono (by decide))⟩
    have es4 : D.tup [dQ (((s3.1.num + k1 - 4 : Int) : Rat) / ((s3.1.den : Int) : Rat)), dQ (((s3.2.num + k2 - 4 : Int) : Rat) / ((s3.2.den : Int) : Rat))] = dS (((s3.1.num + k1 - 4 : Int) : Rat) / ((s3.1.den : Int) : Rat), ((s3.2.num + k2 - 4 : Int) : Rat) / ((s3.2.den : Int) : Rat)) := rfl
    rw [es4]
    generalize (((s3.1.num + k1 - 4 : Int) : Rat) / ((s3.1.den : Int) : Rat), ((s3.2.num + k2 - 4 : Int) : Rat) / ((s3.2.den : Int) : Rat)) = s4 at *
    simp only [show ∀ s : Spot, D.tup [dQ s.1, dQ s.2] = dS s from fun _ => rfl] at ep4 ⊢
    try simp only [q_append, ep4, q_add, q_sub, q_mul, q_div, q_mod, q_pow, q_lt, q_le, q_gt, q_ge, q_eq, q_ne, q_is, q_isnt, q_isntB, q_isB, q_tb, q_ti, q_tn, q_tt, q_ixQ0, q_ixQ1, q_ixS0, q_ixS1, q_eqQ, q_neQ, q_eqSp, q_neSp, q_eqB, q_neB, q_ixT, q_lenT, q_abs, q_intI, q_intB, q_min2, q_max2, at0, at1, at2, List.length_cons, List.length_nil, sizeLine_eq, Nat.reduceAdd, Nat.reduceLeDiff, true_and, Bool.not_true, Bool.not_false, Bool.false_eq_true, if_false, reduceIte, lk, List.set, whole_int, whole_bl, whole_tup, whole_non]
    refine ⟨by decide, ?_⟩
    have ro : ∀ {T : Sto} {m : Int} {o : O}, Row T a m → Row (T.up p o) a m := fun {T m o} r => by
      obtain ⟨c, i, e, m0, m1⟩ := r
      exact ⟨c, i, by rw [up_oth dp]; exact e, m0, m1⟩
    have oo : ∀ {T : Sto} {o : O}, Rowed S T a → Rowed S (T.up p o) a := fun {T o} h b u hb e => by
      rw [up_oth (fun z => by rw [← z, n0] at e; cases e)]
      exact h b u hb e
    have r5 := ro (o := .lst true ([dS o2, dS s1, dS s2, dS s3] ++ [dS s4])) r4
    have q5 := oo (o := .lst true ([dS o2, dS s1, dS s2, dS s3] ++ [dS s4])) (q2.trans (q3.trans q4))
    have ep5 : (S4.up p (.lst true ([dS o2, dS s1, dS s2, dS s3] ++ [dS s4]))) p = some (.lst true [dS o2, dS s1, dS s2, dS s3, dS s4]) := up_same
    generalize S4.up p (.lst true ([dS o2, dS s1, dS s2, dS s3] ++ [dS s4])) = S5 at *
    have e53 : L2.atI [dS o2, dS s1, dS s2, dS s3, dS s4] 3 = some (dS s3) := rfl
    try simp only [q_isL, ep5, q_ixL, e53, h69, a69, q_add, q_sub, q_mul, q_div, q_mod, q_pow, q_lt, q_le, q_gt, q_ge, q_eq, q_ne, q_is, q_isnt, q_isntB, q_isB, q_tb, q_ti, q_tn, q_tt, q_ixQ0, q_ixQ1, q_ixS0, q_ixS1, q_eqQ, q_neQ, q_eqSp, q_neSp, q_eqB, q_neB, q_ixT, q_lenT, q_abs, q_intI, q_intB, q_min2, q_max2, at0, at1, at2, List.length_cons, List.length_nil, sizeLine_eq, Nat.reduceAdd, Nat.reduceLeDiff, true_and, Bool.not_true, Bool.not_false, Bool.false_eq_true, if_false, reduceIte, lk, List.set, whole_int, whole_bl, whole_tup, whole_non]
    intro p1 n1 p2 n2
    have l1 := up_ls (o := .lst true [dS o2, dS s3]) n1
    have l2 := up_ls (o := .lst true [.int 9, .int (-1)]) n2
    refine mid2 (Γ := Γ) (n := 600) (m := 5) (l2 _ _ up_same) up_same (by decide) (by decide) (by decide) (zo2.mono (by decide)) zs3 (by unfold Bd; decide) (by unfold Bd; decide) (by decide) fun s5 z5 => ?_
    have ep6 := (l1.trans l2) _ _ ep5
    try simp only [q_append, ep6, q_add, q_sub, q_mul, q_div, q_mod, q_pow, q_lt, q_le, q_gt, q_ge, q_eq, q_ne, q_is, q_isnt, q_isntB, q_isB, q_tb, q_ti, q_tn, q_tt, q_ixQ0, q_ixQ1, q_ixS0, q_ixS1, q_eqQ, q_neQ, q_eqSp, q_neSp, q_eqB, q_neB, q_ixT, q_lenT, q_abs, q_intI, q_intB, q_min2, q_max2, at0, at1, at2, List.length_cons, List.length_nil, sizeLine_eq, Nat.reduceAdd, Nat.reduceLeDiff, true_and, Bool.not_true, Bool.not_false, Bool.false_eq_true, if_false, reduceIte, lk, List.set, whole_int, whole_bl, whole_tup, whole_non]
    refine ⟨by decide, ?_⟩
    have r6 := ro (o := .lst true ([dS o2, dS s1, dS s2, dS s3, dS s4] ++ [dS s5])) (r5.le (l1.trans l2))
    have q6 := oo (o := .lst true ([dS o2, dS s1, dS s2, dS s3, dS s4] ++ [dS s5])) (q5.le (l1.trans l2))
    have ep7 : (((S5.up p1 (.lst true [dS o2, dS s3])).up p2 (.lst true [.int 9, .int (-1)])).up p (.lst true ([dS o2, dS s1, dS s2, dS s3, dS s4] ++ [dS s5]))) p = some (.lst true [dS o2, dS s1, dS s2, dS s3, dS s4, dS s5]) := up_same
    generalize ((S5.up p1 (.lst true [dS o2, dS s3])).up p2 (.lst true [.int 9, .int (-1)])).up p (.lst true ([dS o2, dS s1, dS s2, dS s3, dS s4] ++ [dS s5])) = S6 at *
    have e61 : L2.atI [dS o2, dS s1, dS s2, dS s3, dS s4, dS s5] 1 = some (dS s1) := at1
    try simp only [q_isL, ep7, q_ixL, e61, h70, a70, q_add, q_sub, q_mul, q_div, q_mod, q_pow, q_lt, q_le, q_gt, q_ge, q_eq, q_ne, q_is, q_isnt, q_isntB, q_isB, q_tb, q_ti, q_tn, q_tt, q_ixQ0, q_ixQ1, q_ixS0, q_ixS1, q_eqQ, q_neQ, q_eqSp, q_neSp, q_eqB, q_neB, q_ixT, q_lenT, q_abs, q_intI, q_intB, q_min2, q_max2, at0, at1, at2, List.length_cons, List.length_nil, sizeLine_eq, Nat.reduceAdd, Nat.reduceLeDiff, true_and, Bool.not_true, Bool.not_false, Bool.false_eq_true, if_false, reduceIte, lk, List.set, whole_int, whole_bl, whole_tup, whole_non]
    refine ⟨_, s1, r6, by omega, rfl, zs1.mono (by decide), fun s6 S7 z6 r7 q7' => ?_⟩
    have ep8 := q7' _ _ dp ep7
    try simp only [q_append, ep8, q_add, q_sub, q_mul, q_div, q_mod, q_pow, q_lt, q_le, q_gt, q_ge, q_eq, q_ne, q_is, q_isnt, q_isntB, q_isB, q_tb, q_ti, q_tn, q_tt, q_ixQ0, q_ixQ1, q_ixS0, q_ixS1, q_eqQ, q_neQ, q_eqSp, q_neSp, q_eqB, q_neB, q_ixT, q_lenT, q_abs, q_intI, q_intB, q_min2, q_max2, at0, at1, at2, List.length_cons, List.length_nil, sizeLine_eq, Nat.reduceAdd, Nat.reduceLeDiff, true_and, Bool.not_true, Bool.not_false, Bool.false_eq_true, if_false, reduceIte, lk, List.set, whole_int, whole_bl, whole_tup, whole_non]
    refine ⟨by decide, ?_⟩
    refine ret_now (h p [o2, s1, s2, s3, s4, s5, s6] _ n0 up_same (by (first | decide | (simp only [List.length_append, List.length_cons, List.length_nil]; decide))) ?_ (oo (q6.trans q7')))
    simp only [List.forall_mem_cons, List.not_mem_nil, false_implies, implies_true, and_true]
    exact ⟨zo2.mono (by decide), zs1.mono (by decide), zs2.mono (by decide), zs3.mono (by decide), z4.mono (by decide), z5.mono (by decide), z6.mono (by decide)⟩
  · exact h.elim
end Sd
namespace Sd
open PySem
theorem Fld.sz' {f : List Spot} {D M n : Nat} (h : Fld f D M) (h1 : M * 6 < 2 ^ n) (h2 : 6 < 2 ^ n) : ∀ s ∈ f, SzS n s := fun s hs => by
  have h6 := h.d6
  have : M * D ≤ M * 6 := Nat.mul_le_mul_left _ h6
  exact ⟨(h.dn s hs).1.sz (by omega) (by omega), (h.dn s hs).2.sz (by omega) (by omega)⟩
theorem pick2' {x y : Int} {b : Bool} : ∃ z, L2.atI [D.int x, .int y] (if b = true then 1 else 0) = some (.int z) ∧ (z = x ∨ z = y) := by
  cases b
  · exact ⟨x, at0, .inl rfl⟩
  · exact ⟨y, at1, .inr rfl⟩
/-- two told places -/
theorem pl_ne {S : Sto} {P : PD} {p : Pl} (h : P (.bl false) S) : cmpS .NotEq (dPl p) (dPl p) S P := by
  have : ∃ l q, dPl p = .tup l ∧ pdS S (.tup l) = some q ∧ PyData.eqv q q = true := by
    cases p with
    | co k =>
      refine ⟨_, .tuple [.str "corner", .int k], rfl, by simp [pdS, pdW, pdWs, show PyData.strOk "corner" = true by decide +kernel], ?_⟩
      simp [PyData.eqv, PyData.eqvAll]
    | si k =>
      refine ⟨_, .tuple [.str "side", .int k], rfl, by simp [pdS, pdW, pdWs, show PyData.strOk "side" = true by decide +kernel], ?_⟩
      simp [PyData.eqv, PyData.eqvAll]
    | out =>
      refine ⟨_, .tuple [.str "out"], rfl, by simp [pdS, pdW, pdWs, show PyData.strOk "out" = true by decide +kernel], ?_⟩
      simp [PyData.eqv, PyData.eqvAll]
    | ins =>
      refine ⟨_, .tuple [.str "inside"], rfl, by simp [pdS, pdW, pdWs, show PyData.strOk "inside" = true by decide +kernel], ?_⟩
      simp [PyData.eqv, PyData.eqvAll]
  obtain ⟨l, q, e1, e2, e3⟩ := this
  rw [e1, q_neT, e2]
  dsimp only
  rw [e3]
  exact h
theorem m_law10 {Γ : Gam} (h0 : Γ.fn 0 = c_law_take_2) (a0 : Γ.ar 0 = 2) (h68 : Γ.fn 68 = c_law_field) (a68 : Γ.ar 68 = 2) (h83 : Γ.fn 83 = c_law_spots) (a83 : Γ.ar 83 = 2) (h82 : Γ.fn 82 = c_place_in) (a82 : Γ.ar 82 = 2) (h84 : Γ.fn 84 = c_law_place) (a84 : Γ.ar 84 = 2) (h5 : Γ.fn 5 = c_law_whole) (a5 : Γ.ar 5 = 1) : Meets Γ 7 z_law_13 c_lawT := by
  intro ds S P W h
  unfold c_lawT at h
  split at h
  · rename_i a
    obtain ⟨w, ns, e, hl, hp⟩ := h
    change wZ Γ _ _ [some (.ref a), none, none, none, none, none, none] S (errW W)
    refine law_for (m := 20) (fun ρ => ∃ x1 x2 x3 x4 x5 x6, ρ = [some (.ref a), x1, x2, x3, x4, x5, x6]) ⟨_, _, _, _, _, _, rfl⟩ hl rfl e (fun ρ S1 hr hs => ret_le hs hp) fun Sb F c ρ S1 l1 l2 hr hF => ?_
    obtain ⟨x1, x2, x3, x4, x5, x6, rfl⟩ := hr
    have e22 : (10 : Int) ^ Int.toNat 22 = 10000000000000000000000 := by decide
    have p22 : L2.CPow 10 22 := ⟨by decide, by decide, by decide⟩
    dsimp only [wZs, wZ, wE, wEs, wT, wTs, wI, lk, List.set, aTru, partS, List.take, List.drop]
    try simp only [h0, a0, h68, a68, h83, a83, e22, q_add, q_sub, q_mul, q_div, q_mod, q_pow, q_lt, q_le, q_gt, q_ge, q_eq, q_ne, q_is, q_isnt, q_isntB, q_isB, q_tb, q_ti, q_tn, q_tt, q_ixQ0, q_ixQ1, q_ixS0, q_ixS1, q_eqQ, q_neQ, q_eqSp, q_neSp, q_eqB, q_neB, q_ixT, q_lenT, q_abs, q_intI, q_intB, q_min2, q_max2, at0, at1, at2, List.length_cons, List.length_nil, sizeLine_eq, Nat.reduceAdd, Nat.reduceLeDiff, true_and, Bool.not_true, Bool.not_false, Bool.false_eq_true, if_false, reduceIte, lk, List.set, whole_int, whole_bl, whole_tup, whole_non]
    intro r nr
    have lr := up_ls (o := .lst true [.int c, .int 0]) nr
    have R0 : Row (S1.up r (.lst true [.int c, .int 0])) r 0 := row_new
    have nr' := le_none l2 nr
    refine ⟨p22, fun p np => ?_⟩
    have lp := up_ls (o := .lst true [.int 9, .int 10000000000000000000000]) np
    have dp := R0.ne np
    refine take_row (R0.le lp) (by decide) (by decide) fun k S2 k0 k1 r2 o2 => ?_
    have ep : S2 p = some (.lst true [.int 9, .int 10000000000000000000000]) := o2 _ _ dp up_same
    try simp only [q_ixL, ep, q_add, q_sub, q_mul, q_div, q_mod, q_pow, q_lt, q_le, q_gt, q_ge, q_eq, q_ne, q_is, q_isnt, q_isntB, q_isB, q_tb, q_ti, q_tn, q_tt, q_ixQ0, q_ixQ1, q_ixS0, q_ixS1, q_eqQ, q_neQ, q_eqSp, q_neSp, q_eqB, q_neB, q_ixT, q_lenT, q_abs, q_intI, q_intB, q_min2, q_max2, at0, at1, at2, List.length_cons, List.length_nil, sizeLine_eq, Nat.reduceAdd, Nat.reduceLeDiff, true_and, Bool.not_true, Bool.not_false, Bool.false_eq_true, if_false, reduceIte, lk, List.set, whole_int, whole_bl, whole_tup, whole_non]
    obtain ⟨far, ef, hf⟩ := pick2' (x := 9) (y := 10000000000000000000000) (b := decide (k = 1))
    try simp only [ef, q_add, q_sub, q_mul, q_div, q_mod, q_pow, q_lt, q_le, q_gt, q_ge, q_eq, q_ne, q_is, q_isnt, q_isntB, q_isB, q_tb, q_ti, q_tn, q_tt, q_ixQ0, q_ixQ1, q_ixS0, q_ixS1, q_eqQ, q_neQ, q_eqSp, q_neSp, q_eqB, q_neB, q_ixT, q_lenT, q_abs, q_intI, q_intB, q_min2, q_max2, at0, at1, at2, List.length_cons, List.length_nil, sizeLine_eq, Nat.reduceAdd, Nat.reduceLeDiff, true_and, Bool.not_true, Bool.not_false, Bool.false_eq_true, if_false, reduceIte, lk, List.set, whole_int, whole_bl, whole_tup, whole_non]
    refine ⟨_, r2, by decide, by omega, by omega, fun f Dd S3 fl r3 o3 => ?_⟩
    have m1 : (far.toNat + 10 ^ 15) * 6 < 2 ^ 90 := by
      have hfar : far.toNat ≤ 10000000000000000000000 := by omega
      exact Nat.lt_of_le_of_lt (Nat.mul_le_mul_right 6 (Nat.add_le_add_right hfar _)) (by decide)
    have sz := fl.sz' m1 (by decide)
    have W0 : ∀ {T : Sto}, ∃ n, n ≤ 100000 ∧ Wf T n (dL f) := ⟨90, by decide, wfs_spots.mpr sz⟩
    have hfp : fieldP (dL f) := ⟨f, rfl, fl.lo, fl.hi, fl.cvx⟩
    have L3 : Sto.le Sb S3 := (o2.trans o3).ble (l2.trans (lr.trans lp)) nr'
    try simp only [true_and, q_add, q_sub, q_mul, q_div, q_mod, q_pow, q_lt, q_le, q_gt, q_ge, q_eq, q_ne, q_is, q_isnt, q_isntB, q_isB, q_tb, q_ti, q_tn, q_tt, q_ixQ0, q_ixQ1, q_ixS0, q_ixS1, q_eqQ, q_neQ, q_eqSp, q_neSp, q_eqB, q_neB, q_ixT, q_lenT, q_abs, q_intI, q_intB, q_min2, q_max2, at0, at1, at2, List.length_cons, List.length_nil, sizeLine_eq, Nat.reduceAdd, Nat.reduceLeDiff, true_and, Bool.not_true, Bool.not_false, Bool.false_eq_true, if_false, reduceIte, lk, List.set, whole_int, whole_bl, whole_tup, whole_non]
    refine ⟨_, f, r3, by decide, rfl, fl.lo, fl.hi, sz, fun q l S4 nq eq hl10 zl o4 => ?_⟩
    have L4 : Sto.le Sb S4 := o4.ble L3 nr'
    dsimp only
    rw [eq]
    dsimp only
    refine for_inv (src := .lst q true (l.map dS)) (fun ρ S' => (∃ y4 y5 y6, ρ = [some (.ref a), some (.int c), some (.ref r), some (dL f), y4, y5, y6]) ∧ Sto.le S4 S') (fun ρ S' h => h.2 _ _ eq) (fun ρ S' h => ?_) (fun F' d ρ S' hd h hF' => ?_) ⟨⟨_, _, _, rfl⟩, Sto.le.refl _⟩
    · obtain ⟨⟨y4, y5, y6, rfl⟩, l5⟩ := h
      exact hF _ _ ⟨_, _, _, _, _, _, rfl⟩ (L4.trans l5)
    · obtain ⟨⟨y4, y5, y6, rfl⟩, l5⟩ := h
      obtain ⟨s, hs, rfl⟩ := List.mem_map.mp hd
      try simp only [h82, a82, q_add, q_sub, q_mul, q_div, q_mod, q_pow, q_lt, q_le, q_gt, q_ge, q_eq, q_ne, q_is, q_isnt, q_isntB, q_isB, q_tb, q_ti, q_tn, q_tt, q_ixQ0, q_ixQ1, q_ixS0, q_ixS1, q_eqQ, q_neQ, q_eqSp, q_neSp, q_eqB, q_neB, q_ixT, q_lenT, q_abs, q_intI, q_intB, q_min2, q_max2, at0, at1, at2, List.length_cons, List.length_nil, sizeLine_eq, Nat.reduceAdd, Nat.reduceLeDiff, true_and, Bool.not_true, Bool.not_false, Bool.false_eq_true, if_false, reduceIte, lk, List.set, whole_int, whole_bl, whole_tup, whole_non]
      refine ⟨W0, ⟨s, rfl, zl s hs, fun m em h3 h6 hc => ?_⟩, fun z => (z hfp).elim⟩
      have : f = m := by
        unfold dL at em
        injection em with em
        exact map_dS_inj em
      subst this
      refine ⟨fun s hs => (sz s hs).mono (by decide), fun S6 l6 => ?_⟩
      have i1 : isiAny S6 (dPl (place f s)) [.bt "tuple"] = some true := by cases place f s <;> rfl
      have i2 : ∃ x, L2.atI (match dPl (place f s) with | .tup l => l | _ => []) 0 = some (.str x) := by cases place f s <;> exact ⟨_, rfl⟩
      obtain ⟨x, i2⟩ := i2
      have i3 : ∀ Q : PD, ixS (dPl (place f s)) (.int 0) S6 Q = Q (.str x) S6 := fun Q => by
        cases hpl : place f s <;> (rw [hpl] at i2; simp only [dPl] at i2 ⊢; rw [q_ixT, i2])
      have i4 : isiAny S6 (.str x) [.bt "str"] = some true := rfl
      try simp only [i1, i3, i4, h84, a84, q_add, q_sub, q_mul, q_div, q_mod, q_pow, q_lt, q_le, q_gt, q_ge, q_eq, q_ne, q_is, q_isnt, q_isntB, q_isB, q_tb, q_ti, q_tn, q_tt, q_ixQ0, q_ixQ1, q_ixS0, q_ixS1, q_eqQ, q_neQ, q_eqSp, q_neSp, q_eqB, q_neB, q_ixT, q_lenT, q_abs, q_intI, q_intB, q_min2, q_max2, at0, at1, at2, List.length_cons, List.length_nil, sizeLine_eq, Nat.reduceAdd, Nat.reduceLeDiff, true_and, Bool.not_true, Bool.not_false, Bool.false_eq_true, if_false, reduceIte, lk, List.set, whole_int, whole_bl, whole_tup, whole_non]
      refine ⟨f, s, rfl, rfl, hc, h3, h6, fun s hs => (sz s hs).mono (by decide), zl s hs, fun S7 l7 => ?_⟩
      refine pl_ne ?_
      try simp only [true_and, q_add, q_sub, q_mul, q_div, q_mod, q_pow, q_lt, q_le, q_gt, q_ge, q_eq, q_ne, q_is, q_isnt, q_isntB, q_isB, q_tb, q_ti, q_tn, q_tt, q_ixQ0, q_ixQ1, q_ixS0, q_ixS1, q_eqQ, q_neQ, q_eqSp, q_neSp, q_eqB, q_neB, q_ixT, q_lenT, q_abs, q_intI, q_intB, q_min2, q_max2, at0, at1, at2, List.length_cons, List.length_nil, sizeLine_eq, Nat.reduceAdd, Nat.reduceLeDiff, true_and, Bool.not_true, Bool.not_false, Bool.false_eq_true, if_false, reduceIte, lk, List.set, whole_int, whole_bl, whole_tup, whole_non]
      have i5 : ∀ Q : PD, (∃ t : List Int, slS (dPl (place f s)) (some 1) none S7 Q = Q (.tup (t.map D.int)) S7 ∧ t.length ≤ 2) := fun Q => by
        cases place f s with
        | co k => exact ⟨[(k : Int)], rfl, by (first | decide | (simp only [List.length_append, List.length_cons, List.length_nil]; decide))⟩
        | si k => exact ⟨[(k : Int)], rfl, by (first | decide | (simp only [List.length_append, List.length_cons, List.length_nil]; decide))⟩
        | out => exact ⟨[], rfl, by decide⟩
        | ins => exact ⟨[], rfl, by decide⟩
      obtain ⟨t, i6, i7⟩ := i5 _
      rw [i6]
      dsimp only
      intro u nu
      refine lc_filt id (fun _ => false) nu trivial (by rw [List.length_map, sizeLine_eq]; omega) (fun x hx T K G hT hK hG => ?_) fun T hT eT => ?_
      · obtain ⟨i, hi, rfl⟩ := List.mem_map.mp hx
        try simp only [wipeD, h5, a5, q_add, q_sub, q_mul, q_div, q_mod, q_pow, q_lt, q_le, q_gt, q_ge, q_eq, q_ne, q_is, q_isnt, q_isntB, q_isB, q_tb, q_ti, q_tn, q_tt, q_ixQ0, q_ixQ1, q_ixS0, q_ixS1, q_eqQ, q_neQ, q_eqSp, q_neSp, q_eqB, q_neB, q_ixT, q_lenT, q_abs, q_intI, q_intB, q_min2, q_max2, at0, at1, at2, List.length_cons, List.length_nil, sizeLine_eq, Nat.reduceAdd, Nat.reduceLeDiff, true_and, Bool.not_true, Bool.not_false, Bool.false_eq_true, if_false, reduceIte, lk, List.set, whole_int, whole_bl, whole_tup, whole_non]
        exact hG rfl T (Sto.le.refl _)
      · intro v nv
        have lv := up_ls (o := .lst true []) nv
        have ee : (((t.map D.int).filter fun _ => false).map id) = [] := by
          rw [List.filter_eq_nil_iff.mpr (by simp)]; rfl
        rw [ee] at eT
        refine (q_neN (m := []) (lv _ _ eT) up_same).mpr (.inl ?_)
        try simp only [List.isEmpty_nil, q_add, q_sub, q_mul, q_div, q_mod, q_pow, q_lt, q_le, q_gt, q_ge, q_eq, q_ne, q_is, q_isnt, q_isntB, q_isB, q_tb, q_ti, q_tn, q_tt, q_ixQ0, q_ixQ1, q_ixS0, q_ixS1, q_eqQ, q_neQ, q_eqSp, q_neSp, q_eqB, q_neB, q_ixT, q_lenT, q_abs, q_intI, q_intB, q_min2, q_max2, at0, at1, at2, List.length_cons, List.length_nil, sizeLine_eq, Nat.reduceAdd, Nat.reduceLeDiff, true_and, Bool.not_true, Bool.not_false, Bool.false_eq_true, if_false, reduceIte, lk, List.set, whole_int, whole_bl, whole_tup, whole_non]
        exact hF' _ _ ⟨⟨_, _, _, rfl⟩, l5.trans (l6.trans (l7.trans (hT.trans lv)))⟩
  · exact h.elim
end Sd
namespace K10
open PySem PySem.Spec PyProof.Rows L2 Sd
def top (i : Nat) : Stmt := PySem.Challenge.pw_likeshards_k10_places_of_spots.main.body.getD i (.Pass ⟨0, 0, 0, 0⟩)
def s_law_take_2 : SC := { N := ["_law_row", "_law_base", "_law_rest", "_law_number"], sc := defScope (top 23), st := fun _ => true, fns := [], css := [], cls := [] }
theorem k_law_take_2 : DefOk s_law_take_2 ["_law_row", "_law_base"] z_law_take_2 (defBody (top 23)) := ⟨⟨rfl, rfl, rfl, by decide +kernel, rfl, by decide +kernel, by decide +kernel⟩, rfl, by kernel_rfl⟩
def s_law_lowest : SC := { N := ["_law_top", "_law_bottom", "_law_one", "_law_other"], sc := defScope (top 24), st := fun _ => true, fns := [], css := [], cls := [] }
theorem k_law_lowest : DefOk s_law_lowest ["_law_top", "_law_bottom"] z_law_lowest (defBody (top 24)) := ⟨⟨rfl, rfl, rfl, by decide +kernel, rfl, by decide +kernel, by decide +kernel⟩, rfl, by kernel_rfl⟩
def s_law_field : SC := { N := ["_law_row", "_law_far", "_law_some", "_law_corners", "_law_side", "_law_a", "_law_d", "_law_b", "_law_c", "_law_e", "_law_f", "_law_w", "_law_found", "_law_x", "_law_y", "_law_right", "_law_high", "_law_at"], sc := defScope (top 31), st := fun _ => true, fns := [("_law_take", 0), ("_law_lowest", 4)], css := [], cls := [] }
theorem k_law_field : DefOk s_law_field ["_law_row", "_law_far"] z_law_field (defBody (top 31)) := ⟨⟨rfl, rfl, rfl, by decide +kernel, rfl, by decide +kernel, by decide +kernel⟩, rfl, by kernel_rfl⟩
def s_law_mid : SC := { N := ["_law_spots_here", "_law_weights", "_law_found", "_law_j", "_law_top", "_law_bottom", "_law_spot", "_law_weight", "_law_a", "_law_b"], sc := defScope (top 30), st := fun _ => true, fns := [("_law_lowest", 4)], css := [], cls := [] }
theorem k_law_mid : DefOk s_law_mid ["_law_spots_here", "_law_weights"] z_law_mid (defBody (top 30)) := ⟨⟨rfl, rfl, rfl, by decide +kernel, rfl, by decide +kernel, by decide +kernel⟩, rfl, by kernel_rfl⟩
def s_law_pushed : SC := { N := ["_law_row", "_law_spot", "_law_by", "_law_found", "_law_top", "_law_bottom", "_law_push", "_law_part"], sc := defScope (top 34), st := fun _ => true, fns := [("_law_take", 0), ("_law_lowest", 4)], css := [], cls := [] }
theorem k_law_pushed : DefOk s_law_pushed ["_law_row", "_law_spot"] z_law_pushed (defBody (top 34)) := ⟨⟨rfl, rfl, rfl, by decide +kernel, rfl, by decide +kernel, by decide +kernel⟩, rfl, by kernel_rfl⟩
def s_law_spots : SC := { N := ["_law_row", "_law_field_here", "_law_at", "_law_one", "_law_other", "_law_part", "_law_spots_here", "_law_weights", "_law_k", "_law_x", "_law_y"], sc := defScope (top 35), st := fun _ => true, fns := [("_law_take", 0), ("_law_mid", 69), ("_law_pushed", 70), ("_law_lowest", 4)], css := [], cls := [] }
theorem k_law_spots : DefOk s_law_spots ["_law_row", "_law_field_here"] z_law_spots (defBody (top 35)) := ⟨⟨rfl, rfl, rfl, by decide +kernel, rfl, by decide +kernel, by decide +kernel⟩, rfl, by kernel_rfl⟩
def s_how_far : SC := { N := ["one", "other", "right", "up"], sc := defScope (top 11), st := fun _ => true, fns := [], css := [], cls := [] }
theorem k_how_far : DefOk s_how_far ["one", "other"] z_how_far (defBody (top 11)) := ⟨⟨rfl, rfl, rfl, by decide +kernel, rfl, by decide +kernel, by decide +kernel⟩, rfl, by kernel_rfl⟩
def s_twice_parts : SC := { N := ["one", "other", "third", "right", "by", "up", "over", "across", "under", "high", "beside"], sc := defScope (top 12), st := fun _ => true, fns := [("how_far", 43)], css := [], cls := [] }
theorem k_twice_parts : DefOk s_twice_parts ["one", "other", "third"] z_twice_parts (defBody (top 12)) := ⟨⟨rfl, rfl, rfl, by decide +kernel, rfl, by decide +kernel, by decide +kernel⟩, rfl, by kernel_rfl⟩
def s_turn_of : SC := { N := ["one", "other", "third", "top"], sc := defScope (top 13), st := fun _ => true, fns := [("twice_parts", 44)], css := [], cls := [] }
theorem k_turn_of : DefOk s_turn_of ["one", "other", "third"] z_turn_of (defBody (top 13)) := ⟨⟨rfl, rfl, rfl, by decide +kernel, rfl, by decide +kernel, by decide +kernel⟩, rfl, by kernel_rfl⟩
def s_goes_round : SC := { N := ["corners", "many", "k", "j"], sc := defScope (top 16), st := fun _ => true, fns := [("turn_of", 46)], css := [], cls := [] }
theorem k_goes_round : DefOk s_goes_round ["corners"] z_goes_round (defBody (top 16)) := ⟨⟨rfl, rfl, rfl, by decide +kernel, rfl, by decide +kernel, by decide +kernel⟩, rfl, by kernel_rfl⟩
def s_is_whole : SC := { N := ["thing"], sc := defScope (top 6), st := fun _ => true, fns := [], css := [], cls := [] }
theorem k_is_whole : DefOk s_is_whole ["thing"] z_is_whole (defBody (top 6)) := ⟨⟨rfl, rfl, rfl, by decide +kernel, rfl, by decide +kernel, by decide +kernel⟩, rfl, by kernel_rfl⟩
def s_divisor : SC := { N := ["one", "other"], sc := defScope (top 4), st := fun _ => true, fns := [], css := [], cls := [] }
theorem k_divisor : DefOk s_divisor ["one", "other"] z_divisor (defBody (top 4)) := ⟨⟨rfl, rfl, rfl, by decide +kernel, rfl, by decide +kernel, by decide +kernel⟩, rfl, by kernel_rfl⟩
def s_is_frac : SC := { N := ["thing"], sc := defScope (top 7), st := fun _ => true, fns := [("is_whole", 21), ("divisor", 2)], css := [], cls := [] }
theorem k_is_frac : DefOk s_is_frac ["thing"] z_is_frac (defBody (top 7)) := ⟨⟨rfl, rfl, rfl, by decide +kernel, rfl, by decide +kernel, by decide +kernel⟩, rfl, by kernel_rfl⟩
def s_is_spot : SC := { N := ["thing"], sc := defScope (top 9), st := fun _ => true, fns := [("is_frac", 22)], css := [], cls := [] }
theorem k_is_spot : DefOk s_is_spot ["thing"] z_is_spot (defBody (top 9)) := ⟨⟨rfl, rfl, rfl, by decide +kernel, rfl, by decide +kernel, by decide +kernel⟩, rfl, by kernel_rfl⟩
def s_is_field : SC := { N := ["thing", "corner"], sc := defScope (top 17), st := fun _ => true, fns := [("goes_round", 75), ("is_spot", 33)], css := [], cls := [] }
theorem k_is_field : DefOk s_is_field ["thing"] z_is_field (defBody (top 17)) := ⟨⟨rfl, rfl, rfl, by decide +kernel, rfl, by decide +kernel, by decide +kernel⟩, rfl, by kernel_rfl⟩
def s_look_field : SC := { N := ["thing"], sc := defScope (top 18), st := fun _ => true, fns := [("is_field", 76)], css := [], cls := [("NoField", 3)] }
theorem k_look_field : DefOk s_look_field ["thing"] z_look_field (defBody (top 18)) := ⟨⟨rfl, rfl, rfl, by decide +kernel, rfl, by decide +kernel, by decide +kernel⟩, rfl, by kernel_rfl⟩
def s_is_below : SC := { N := ["one", "other"], sc := defScope (top 5), st := fun _ => true, fns := [], css := [], cls := [] }
theorem k_is_below : DefOk s_is_below ["one", "other"] z_is_below (defBody (top 5)) := ⟨⟨rfl, rfl, rfl, by decide +kernel, rfl, by decide +kernel, by decide +kernel⟩, rfl, by kernel_rfl⟩
def s_is_ahead : SC := { N := ["one", "other"], sc := defScope (top 10), st := fun _ => true, fns := [("is_below", 13)], css := [], cls := [] }
theorem k_is_ahead : DefOk s_is_ahead ["one", "other"] z_is_ahead (defBody (top 10)) := ⟨⟨rfl, rfl, rfl, by decide +kernel, rfl, by decide +kernel, by decide +kernel⟩, rfl, by kernel_rfl⟩
def s_is_amid : SC := { N := ["spot", "one", "other"], sc := defScope (top 14), st := fun _ => true, fns := [("turn_of", 46), ("is_ahead", 34)], css := [], cls := [] }
theorem k_is_amid : DefOk s_is_amid ["spot", "one", "other"] z_is_amid (defBody (top 14)) := ⟨⟨rfl, rfl, rfl, by decide +kernel, rfl, by decide +kernel, by decide +kernel⟩, rfl, by kernel_rfl⟩
def s_place_among : SC := { N := ["corners", "spot", "many", "k"], sc := defScope (top 19), st := fun _ => true, fns := [("is_amid", 47), ("turn_of", 46)], css := [], cls := [] }
theorem k_place_among : DefOk s_place_among ["corners", "spot"] z_place_among (defBody (top 19)) := ⟨⟨rfl, rfl, rfl, by decide +kernel, rfl, by decide +kernel, by decide +kernel⟩, rfl, by kernel_rfl⟩
def s_place_in : SC := { N := ["field", "spot"], sc := defScope (top 20), st := fun _ => true, fns := [("look_field", 77), ("place_among", 81)], css := [], cls := [] }
theorem k_place_in : DefOk s_place_in ["field", "spot"] z_place_in (defBody (top 20)) := ⟨⟨rfl, rfl, rfl, by decide +kernel, rfl, by decide +kernel, by decide +kernel⟩, rfl, by kernel_rfl⟩
def s_law_less : SC := { N := ["_law_one", "_law_other"], sc := defScope (top 27), st := fun _ => true, fns := [], css := [], cls := [] }
theorem k_law_less : DefOk s_law_less ["_law_one", "_law_other"] z_law_less (defBody (top 27)) := ⟨⟨rfl, rfl, rfl, by decide +kernel, rfl, by decide +kernel, by decide +kernel⟩, rfl, by kernel_rfl⟩
def s_law_twice : SC := { N := ["_law_one", "_law_other", "_law_third", "_law_right", "_law_by", "_law_up", "_law_over", "_law_across", "_law_under", "_law_high", "_law_beside", "_law_top"], sc := defScope (top 28), st := fun _ => true, fns := [("_law_less", 41)], css := [], cls := [] }
theorem k_law_twice : DefOk s_law_twice ["_law_one", "_law_other", "_law_third"] z_law_twice (defBody (top 28)) := ⟨⟨rfl, rfl, rfl, by decide +kernel, rfl, by decide +kernel, by decide +kernel⟩, rfl, by kernel_rfl⟩
def s_law_turn : SC := { N := ["_law_one", "_law_other", "_law_third", "_law_top"], sc := defScope (top 29), st := fun _ => true, fns := [("_law_twice", 42)], css := [], cls := [] }
theorem k_law_turn : DefOk s_law_turn ["_law_one", "_law_other", "_law_third"] z_law_turn (defBody (top 29)) := ⟨⟨rfl, rfl, rfl, by decide +kernel, rfl, by decide +kernel, by decide +kernel⟩, rfl, by kernel_rfl⟩
def s_law_amid_2 : SC := { N := ["_law_spot", "_law_one", "_law_other", "_law_j", "_law_a", "_law_b", "_law_c", "_law_d", "_law_e", "_law_f", "_law_low", "_law_high"], sc := defScope (top 32), st := fun _ => true, fns := [("_law_turn", 50)], css := [], cls := [] }
theorem k_law_amid_2 : DefOk s_law_amid_2 ["_law_spot", "_law_one", "_law_other"] z_law_amid_2 (defBody (top 32)) := ⟨⟨rfl, rfl, rfl, by decide +kernel, rfl, by decide +kernel, by decide +kernel⟩, rfl, by kernel_rfl⟩
def s_law_place : SC := { N := ["_law_field_here", "_law_spot", "_law_many", "_law_k"], sc := defScope (top 33), st := fun _ => true, fns := [("_law_amid", 51), ("_law_turn", 50)], css := [], cls := [] }
theorem k_law_place : DefOk s_law_place ["_law_field_here", "_law_spot"] z_law_place (defBody (top 33)) := ⟨⟨rfl, rfl, rfl, by decide +kernel, rfl, by decide +kernel, by decide +kernel⟩, rfl, by kernel_rfl⟩
def s_law_whole : SC := { N := ["_law_found"], sc := defScope (top 25), st := fun _ => true, fns := [], css := [], cls := [] }
theorem k_law_whole : DefOk s_law_whole ["_law_found"] z_law_whole (defBody (top 25)) := ⟨⟨rfl, rfl, rfl, by decide +kernel, rfl, by decide +kernel, by decide +kernel⟩, rfl, by kernel_rfl⟩
def s_law_13 : SC := { N := ["_law_script", "_law_cell", "_law_row", "_law_field_here", "_law_spot", "_law_found", "_law_number"], sc := defScope (top 36), st := fun _ => true, fns := [("_law_field", 68), ("_law_spots", 83), ("place_in", 82), ("_law_place", 84), ("_law_take", 0), ("_law_whole", 5)], css := [], cls := [] }
theorem k_law_13 : DefOk s_law_13 ["_law_script"] z_law_13 (defBody (top 36)) := ⟨⟨rfl, rfl, rfl, by decide +kernel, rfl, by decide +kernel, by decide +kernel⟩, rfl, by kernel_rfl⟩
def names : List Str := ["_law_take", "_law_lowest", "_law_field", "_law_mid", "_law_pushed", "_law_spots", "how_far", "twice_parts", "turn_of", "goes_round", "is_whole", "divisor", "is_frac", "is_spot", "is_field", "look_field", "is_below", "is_ahead", "is_amid", "place_among", "place_in", "_law_less", "_law_twice", "_law_turn", "_law_amid", "_law_place", "_law_whole", "law", "ShardError", "NoField"]
def classes : List Nat := [0, 3]
def fn : List He.DefD := [⟨("_law_take", none), "_law_take", "_law_take", defArgs (top 23), defBody (top 23), defScope (top 23), [], []⟩,
  ⟨("_law_lowest", none), "_law_lowest", "_law_lowest", defArgs (top 24), defBody (top 24), defScope (top 24), [], []⟩,
  ⟨("_law_field", none), "_law_field", "_law_field", defArgs (top 31), defBody (top 31), defScope (top 31), [], []⟩,
  ⟨("_law_mid", none), "_law_mid", "_law_mid", defArgs (top 30), defBody (top 30), defScope (top 30), [], []⟩,
  ⟨("_law_pushed", none), "_law_pushed", "_law_pushed", defArgs (top 34), defBody (top 34), defScope (top 34), [], []⟩,
  ⟨("_law_spots", none), "_law_spots", "_law_spots", defArgs (top 35), defBody (top 35), defScope (top 35), [], []⟩,
  ⟨("how_far", none), "how_far", "how_far", defArgs (top 11), defBody (top 11), defScope (top 11), [], []⟩,
  ⟨("twice_parts", none), "twice_parts", "twice_parts", defArgs (top 12), defBody (top 12), defScope (top 12), [], []⟩,
  ⟨("turn_of", none), "turn_of", "turn_of", defArgs (top 13), defBody (top 13), defScope (top 13), [], []⟩,
  ⟨("goes_round", none), "goes_round", "goes_round", defArgs (top 16), defBody (top 16), defScope (top 16), [], []⟩,
  ⟨("is_whole", none), "is_whole", "is_whole", defArgs (top 6), defBody (top 6), defScope (top 6), [], []⟩,
  ⟨("divisor", none), "divisor", "divisor", defArgs (top 4), defBody (top 4), defScope (top 4), [], []⟩,
  ⟨("is_frac", none), "is_frac", "is_frac", defArgs (top 7), defBody (top 7), defScope (top 7), [], []⟩,
  ⟨("is_spot", none), "is_spot", "is_spot", defArgs (top 9), defBody (top 9), defScope (top 9), [], []⟩,
  ⟨("is_field", none), "is_field", "is_field", defArgs (top 17), defBody (top 17), defScope (top 17), [], []⟩,
  ⟨("look_field", none), "look_field", "look_field", defArgs (top 18), defBody (top 18), defScope (top 18), [], []⟩,
  ⟨("is_below", none), "is_below", "is_below", defArgs (top 5), defBody (top 5), defScope (top 5), [], []⟩,
  ⟨("is_ahead", none), "is_ahead", "is_ahead", defArgs (top 10), defBody (top 10), defScope (top 10), [], []⟩,
  ⟨("is_amid", none), "is_amid", "is_amid", defArgs (top 14), defBody (top 14), defScope (top 14), [], []⟩,
  ⟨("place_among", none), "place_among", "place_among", defArgs (top 19), defBody (top 19), defScope (top 19), [], []⟩,
  ⟨("place_in", none), "place_in", "place_in", defArgs (top 20), defBody (top 20), defScope (top 20), [], []⟩,
  ⟨("_law_less", none), "_law_less", "_law_less", defArgs (top 27), defBody (top 27), defScope (top 27), [], []⟩,
  ⟨("_law_twice", none), "_law_twice", "_law_twice", defArgs (top 28), defBody (top 28), defScope (top 28), [], []⟩,
  ⟨("_law_turn", none), "_law_turn", "_law_turn", defArgs (top 29), defBody (top 29), defScope (top 29), [], []⟩,
  ⟨("_law_amid", none), "_law_amid", "_law_amid", defArgs (top 32), defBody (top 32), defScope (top 32), [], []⟩,
  ⟨("_law_place", none), "_law_place", "_law_place", defArgs (top 33), defBody (top 33), defScope (top 33), [], []⟩,
  ⟨("_law_whole", none), "_law_whole", "_law_whole", defArgs (top 25), defBody (top 25), defScope (top 25), [], []⟩,
  ⟨("law", none), "law", "law", defArgs (top 36), defBody (top 36), defScope (top 36), [], []⟩]
def more (K : PySem.W.Frag) : Bool := true
def look : PySem.W.Frag → Bool := lookB classes names more
abbrev R : PySem.W.OpenRow := PySem.W.OpenLaw.row PySem.Challenge.rw_likeshards_k10_places_of_spots
abbrev hk : PySem.W.Hook := hookX 5 look fn
def ob (s : PySem.W.SharedT) : He.AlD := obsXG 5 look fn (HandSHeadRun.getT s)
theorem ob_eq (s : PySem.W.SharedT) : ob s = hk.obs s.abs := obsXG_eq (HandSHeadRun.getT_eq s)
def loose0 : List Str := ["ShardError", "NoField", "divisor", "is_below", "is_whole", "is_frac", "is_spot", "is_ahead", "how_far", "twice_parts", "turn_of", "is_amid", "goes_round", "is_field", "look_field", "place_among", "place_in", "_law_cell_at", "_law_take", "_law_lowest", "_law_whole", "_law_is_frac", "_law_less", "_law_twice", "_law_turn", "_law_mid", "_law_field", "_law_amid", "_law_place", "_law_pushed"]
def loose1 : List Str := ["_law_spots"]
abbrev loose : List Str := loose0 ++ loose1
theorem run (w : World) : HandSHeadRun.RunEq R (PySem.W.view R.prog [36]) hk ob 40000 loose w := by
  intro os
  kernel_rfl
end K10
namespace K10
open PySem PySem.Spec PyProof.Rows L2 Sd
def Γ : Gam where
  ar := fun k => match k with
    | 0 => 2
    | 4 => 2
    | 68 => 2
    | 69 => 2
    | 70 => 2
    | 83 => 2
    | 43 => 2
    | 44 => 3
    | 46 => 3
    | 75 => 1
    | 21 => 1
    | 2 => 2
    | 22 => 1
    | 33 => 1
    | 76 => 1
    | 77 => 1
    | 13 => 2
    | 34 => 2
    | 47 => 3
    | 81 => 2
    | 82 => 2
    | 41 => 2
    | 42 => 3
    | 50 => 3
    | 51 => 3
    | 84 => 2
    | 5 => 1
    | 9 => 1
    | _ => 0
  fn := fun k => match k with
    | 0 => c_law_take_2
    | 4 => c_law_lowest
    | 68 => c_law_field
    | 69 => c_law_mid
    | 70 => c_law_pushed_s
    | 83 => c_law_spots
    | 43 => c_how_far
    | 44 => c_twice_parts
    | 46 => c_turn_of
    | 75 => c_goes_round
    | 21 => c_is_whole
    | 2 => c_divisor
    | 22 => c_is_fracT
    | 33 => c_is_spot
    | 76 => c_is_field
    | 77 => c_look_field
    | 13 => c_is_below
    | 34 => c_is_ahead
    | 47 => c_is_amid
    | 81 => c_place_among
    | 82 => c_place_in
    | 41 => c_law_less
    | 42 => c_law_twice
    | 50 => c_law_turn
    | 51 => c_law_amid_2
    | 84 => c_law_place
    | 5 => c_law_whole
    | 9 => c_lawT
    | _ => fun _ _ _ _ => False
  cst := fun k => match k with
    | _ => none
def c_law : Con := c_lawT
theorem m_law_take_2 : Meets Γ 4 z_law_take_2 (Γ.fn 0) := by
  apply Sd.m_law_take_2 <;> rfl
theorem m_law_lowest : Meets Γ 4 z_law_lowest (Γ.fn 4) := by
  apply Sd.m_law_lowest <;> rfl
theorem m_law_field : Meets Γ 18 z_law_field (Γ.fn 68) := by
  apply Sd.m_law_field <;> rfl
theorem m_law_mid : Meets Γ 10 z_law_mid (Γ.fn 69) := by
  apply Sd.m_law_mid <;> rfl
theorem m_law_pushed : Meets Γ 8 z_law_pushed (Γ.fn 70) := by
  apply Sd.m_law_pushed_s <;> rfl
theorem m_law_spots : Meets Γ 11 z_law_spots (Γ.fn 83) := by
  apply Sd.m_law_spots <;> rfl
theorem m_how_far : Meets Γ 4 z_how_far (Γ.fn 43) := by
  apply Sd.m_how_far <;> rfl
theorem m_twice_parts : Meets Γ 11 z_twice_parts (Γ.fn 44) := by
  apply Sd.m_twice_parts <;> rfl
theorem m_turn_of : Meets Γ 4 z_turn_of (Γ.fn 46) := by
  apply Sd.m_turn_of <;> rfl
theorem m_goes_round : Meets Γ 4 z_goes_round (Γ.fn 75) := by
  apply Sd.m_goes_round <;> rfl
theorem m_is_whole : Meets Γ 1 z_is_whole (Γ.fn 21) := by
  apply Sd.m_is_whole <;> rfl
theorem m_divisor : Meets Γ 2 z_divisor (Γ.fn 2) := by
  apply Sd.m_divisor <;> rfl
theorem m_is_frac : Meets Γ 1 z_is_frac (Γ.fn 22) := by
  apply Sd.m_is_fracT <;> rfl
theorem m_is_spot : Meets Γ 1 z_is_spot (Γ.fn 33) := by
  apply Sd.m_is_spot <;> rfl
theorem m_is_field : Meets Γ 2 z_is_field (Γ.fn 76) := by
  apply Sd.m_is_field <;> rfl
theorem m_look_field : Meets Γ 1 z_look_field (Γ.fn 77) := by
  apply Sd.m_look_field <;> rfl
theorem m_is_below : Meets Γ 2 z_is_below (Γ.fn 13) := by
  apply Sd.m_is_below <;> rfl
theorem m_is_ahead : Meets Γ 2 z_is_ahead (Γ.fn 34) := by
  apply Sd.m_is_ahead <;> rfl
theorem m_is_amid : Meets Γ 3 z_is_amid (Γ.fn 47) := by
  apply Sd.m_is_amid <;> rfl
theorem m_place_among : Meets Γ 4 z_place_among (Γ.fn 81) := by
  apply Sd.m_place_among <;> rfl
theorem m_place_in : Meets Γ 2 z_place_in (Γ.fn 82) := by
  apply Sd.m_place_in <;> rfl
theorem m_law_less : Meets Γ 2 z_law_less (Γ.fn 41) := by
  apply Sd.m_law_less <;> rfl
theorem m_law_twice : Meets Γ 12 z_law_twice (Γ.fn 42) := by
  apply Sd.m_law_twice <;> rfl
theorem m_law_turn : Meets Γ 4 z_law_turn (Γ.fn 50) := by
  apply Sd.m_law_turn <;> rfl
theorem m_law_amid_2 : Meets Γ 12 z_law_amid_2 (Γ.fn 51) := by
  apply Sd.m_law_amid_2 <;> rfl
theorem m_law_place : Meets Γ 4 z_law_place (Γ.fn 84) := by
  apply Sd.m_law_place <;> rfl
theorem m_law_whole : Meets Γ 1 z_law_whole (Γ.fn 5) := by
  apply Sd.m_law_whole <;> rfl
theorem m_law_13 : Meets Γ 7 z_law_13 c_law := by
  apply Sd.m_law10 <;> rfl
theorem law_con : LawCon c_law := lawT_con
end K10
namespace K10
open PySem PySem.Spec PyProof.Rows L2 Sd
section
variable {P : Program} {w : World} {K : PySem.W.Frag} {mg : Str → Option Value} {base : Heap}
theorem f_law_take_2 (W : World' classes names more K mg) (says : obsX look fn K = valX fn)   : FnAt Γ 3 P w K mg base ("_law_take", 0) :=
  mk_fn (c := s_law_take_2) (con := Γ.fn 0) (by decide) W says 0 rfl k_law_take_2 ((fun p hp => absurd hp List.not_mem_nil)) ((fun p hp => absurd hp List.not_mem_nil)) (by decide +kernel) (by decide +kernel) (fun _ _ _ _ _ _ us hl => match us, hl with | [_, _], _ => rfl) rfl rfl m_law_take_2
theorem f_law_lowest (W : World' classes names more K mg) (says : obsX look fn K = valX fn)   : FnAt Γ 3 P w K mg base ("_law_lowest", 4) :=
  mk_fn (c := s_law_lowest) (con := Γ.fn 4) (by decide) W says 1 rfl k_law_lowest ((fun p hp => absurd hp List.not_mem_nil)) ((fun p hp => absurd hp List.not_mem_nil)) (by decide +kernel) (by decide +kernel) (fun _ _ _ _ _ _ us hl => match us, hl with | [_, _], _ => rfl) rfl rfl m_law_lowest
theorem f_law_field (W : World' classes names more K mg) (says : obsX look fn K = valX fn) (h_law_take_2 : FnAt Γ 3 P w K mg base ("_law_take", 0)) (h_law_lowest : FnAt Γ 3 P w K mg base ("_law_lowest", 4))  : FnAt Γ 4 P w K mg base ("_law_field", 68) :=
  mk_fn (c := s_law_field) (con := Γ.fn 68) (by decide) W says 2 rfl k_law_field ((List.forall_mem_cons.mpr ⟨h_law_take_2.up (by decide), (List.forall_mem_cons.mpr ⟨h_law_lowest.up (by decide), (fun p hp => absurd hp List.not_mem_nil)⟩)⟩)) ((fun p hp => absurd hp List.not_mem_nil)) (by decide +kernel) (by decide +kernel) (fun _ _ _ _ _ _ us hl => match us, hl with | [_, _], _ => rfl) rfl rfl m_law_field
theorem f_law_mid (W : World' classes names more K mg) (says : obsX look fn K = valX fn) (h_law_lowest : FnAt Γ 3 P w K mg base ("_law_lowest", 4))  : FnAt Γ 4 P w K mg base ("_law_mid", 69) :=
  mk_fn (c := s_law_mid) (con := Γ.fn 69) (by decide) W says 3 rfl k_law_mid ((List.forall_mem_cons.mpr ⟨h_law_lowest.up (by decide), (fun p hp => absurd hp List.not_mem_nil)⟩)) ((fun p hp => absurd hp List.not_mem_nil)) (by decide +kernel) (by decide +kernel) (fun _ _ _ _ _ _ us hl => match us, hl with | [_, _], _ => rfl) rfl rfl m_law_mid
theorem f_law_pushed (W : World' classes names more K mg) (says : obsX look fn K = valX fn) (h_law_take_2 : FnAt Γ 3 P w K mg base ("_law_take", 0)) (h_law_lowest : FnAt Γ 3 P w K mg base ("_law_lowest", 4))  : FnAt Γ 4 P w K mg base ("_law_pushed", 70) :=
  mk_fn (c := s_law_pushed) (con := Γ.fn 70) (by decide) W says 4 rfl k_law_pushed ((List.forall_mem_cons.mpr ⟨h_law_take_2.up (by decide), (List.forall_mem_cons.mpr ⟨h_law_lowest.up (by decide), (fun p hp => absurd hp List.not_mem_nil)⟩)⟩)) ((fun p hp => absurd hp List.not_mem_nil)) (by decide +kernel) (by decide +kernel) (fun _ _ _ _ _ _ us hl => match us, hl with | [_, _], _ => rfl) rfl rfl m_law_pushed
theorem f_law_spots (W : World' classes names more K mg) (says : obsX look fn K = valX fn) (h_law_take_2 : FnAt Γ 3 P w K mg base ("_law_take", 0)) (h_law_mid : FnAt Γ 4 P w K mg base ("_law_mid", 69)) (h_law_pushed : FnAt Γ 4 P w K mg base ("_law_pushed", 70)) (h_law_lowest : FnAt Γ 3 P w K mg base ("_law_lowest", 4))  : FnAt Γ 5 P w K mg base ("_law_spots", 83) :=
  mk_fn (c := s_law_spots) (con := Γ.fn 83) (by decide) W says 5 rfl k_law_spots ((List.forall_mem_cons.mpr ⟨h_law_take_2.up (by decide), (List.forall_mem_cons.mpr ⟨h_law_mid.up (by decide), (List.forall_mem_cons.mpr ⟨h_law_pushed.up (by decide), (List.forall_mem_cons.mpr ⟨h_law_lowest.up (by decide), (fun p hp => absurd hp List.not_mem_nil)⟩)⟩)⟩)⟩)) ((fun p hp => absurd hp List.not_mem_nil)) (by decide +kernel) (by decide +kernel) (fun _ _ _ _ _ _ us hl => match us, hl with | [_, _], _ => rfl) rfl rfl m_law_spots
theorem f_how_far (W : World' classes names more K mg) (says : obsX look fn K = valX fn)   : FnAt Γ 3 P w K mg base ("how_far", 43) :=
  mk_fn (c := s_how_far) (con := Γ.fn 43) (by decide) W says 6 rfl k_how_far ((fun p hp => absurd hp List.not_mem_nil)) ((fun p hp => absurd hp List.not_mem_nil)) (by decide +kernel) (by decide +kernel) (fun _ _ _ _ _ _ us hl => match us, hl with | [_, _], _ => rfl) rfl rfl m_how_far
theorem f_twice_parts (W : World' classes names more K mg) (says : obsX look fn K = valX fn) (h_how_far : FnAt Γ 3 P w K mg base ("how_far", 43))  : FnAt Γ 4 P w K mg base ("twice_parts", 44) :=
  mk_fn (c := s_twice_parts) (con := Γ.fn 44) (by decide) W says 7 rfl k_twice_parts ((List.forall_mem_cons.mpr ⟨h_how_far.up (by decide), (fun p hp => absurd hp List.not_mem_nil)⟩)) ((fun p hp => absurd hp List.not_mem_nil)) (by decide +kernel) (by decide +kernel) (fun _ _ _ _ _ _ us hl => match us, hl with | [_, _, _], _ => rfl) rfl rfl m_twice_parts
theorem f_turn_of (W : World' classes names more K mg) (says : obsX look fn K = valX fn) (h_twice_parts : FnAt Γ 4 P w K mg base ("twice_parts", 44))  : FnAt Γ 5 P w K mg base ("turn_of", 46) :=
  mk_fn (c := s_turn_of) (con := Γ.fn 46) (by decide) W says 8 rfl k_turn_of ((List.forall_mem_cons.mpr ⟨h_twice_parts.up (by decide), (fun p hp => absurd hp List.not_mem_nil)⟩)) ((fun p hp => absurd hp List.not_mem_nil)) (by decide +kernel) (by decide +kernel) (fun _ _ _ _ _ _ us hl => match us, hl with | [_, _, _], _ => rfl) rfl rfl m_turn_of
theorem f_goes_round (W : World' classes names more K mg) (says : obsX look fn K = valX fn) (h_turn_of : FnAt Γ 5 P w K mg base ("turn_of", 46))  : FnAt Γ 6 P w K mg base ("goes_round", 75) :=
  mk_fn (c := s_goes_round) (con := Γ.fn 75) (by decide) W says 9 rfl k_goes_round ((List.forall_mem_cons.mpr ⟨h_turn_of.up (by decide), (fun p hp => absurd hp List.not_mem_nil)⟩)) ((fun p hp => absurd hp List.not_mem_nil)) (by decide +kernel) (by decide +kernel) (fun _ _ _ _ _ _ us hl => match us, hl with | [_], _ => rfl) rfl rfl m_goes_round
theorem f_is_whole (W : World' classes names more K mg) (says : obsX look fn K = valX fn)   : FnAt Γ 3 P w K mg base ("is_whole", 21) :=
  mk_fn (c := s_is_whole) (con := Γ.fn 21) (by decide) W says 10 rfl k_is_whole ((fun p hp => absurd hp List.not_mem_nil)) ((fun p hp => absurd hp List.not_mem_nil)) (by decide +kernel) (by decide +kernel) (fun _ _ _ _ _ _ us hl => match us, hl with | [_], _ => rfl) rfl rfl m_is_whole
theorem f_divisor (W : World' classes names more K mg) (says : obsX look fn K = valX fn)   : FnAt Γ 3 P w K mg base ("divisor", 2) :=
  mk_fn (c := s_divisor) (con := Γ.fn 2) (by decide) W says 11 rfl k_divisor ((fun p hp => absurd hp List.not_mem_nil)) ((fun p hp => absurd hp List.not_mem_nil)) (by decide +kernel) (by decide +kernel) (fun _ _ _ _ _ _ us hl => match us, hl with | [_, _], _ => rfl) rfl rfl m_divisor
theorem f_is_frac (W : World' classes names more K mg) (says : obsX look fn K = valX fn) (h_is_whole : FnAt Γ 3 P w K mg base ("is_whole", 21)) (h_divisor : FnAt Γ 3 P w K mg base ("divisor", 2))  : FnAt Γ 4 P w K mg base ("is_frac", 22) :=
  mk_fn (c := s_is_frac) (con := Γ.fn 22) (by decide) W says 12 rfl k_is_frac ((List.forall_mem_cons.mpr ⟨h_is_whole.up (by decide), (List.forall_mem_cons.mpr ⟨h_divisor.up (by decide), (fun p hp => absurd hp List.not_mem_nil)⟩)⟩)) ((fun p hp => absurd hp List.not_mem_nil)) (by decide +kernel) (by decide +kernel) (fun _ _ _ _ _ _ us hl => match us, hl with | [_], _ => rfl) rfl rfl m_is_frac
theorem f_is_spot (W : World' classes names more K mg) (says : obsX look fn K = valX fn) (h_is_frac : FnAt Γ 4 P w K mg base ("is_frac", 22))  : FnAt Γ 5 P w K mg base ("is_spot", 33) :=
  mk_fn (c := s_is_spot) (con := Γ.fn 33) (by decide) W says 13 rfl k_is_spot ((List.forall_mem_cons.mpr ⟨h_is_frac.up (by decide), (fun p hp => absurd hp List.not_mem_nil)⟩)) ((fun p hp => absurd hp List.not_mem_nil)) (by decide +kernel) (by decide +kernel) (fun _ _ _ _ _ _ us hl => match us, hl with | [_], _ => rfl) rfl rfl m_is_spot
theorem f_is_field (W : World' classes names more K mg) (says : obsX look fn K = valX fn) (h_goes_round : FnAt Γ 6 P w K mg base ("goes_round", 75)) (h_is_spot : FnAt Γ 5 P w K mg base ("is_spot", 33))  : FnAt Γ 7 P w K mg base ("is_field", 76) :=
  mk_fn (c := s_is_field) (con := Γ.fn 76) (by decide) W says 14 rfl k_is_field ((List.forall_mem_cons.mpr ⟨h_goes_round.up (by decide), (List.forall_mem_cons.mpr ⟨h_is_spot.up (by decide), (fun p hp => absurd hp List.not_mem_nil)⟩)⟩)) ((fun p hp => absurd hp List.not_mem_nil)) (by decide +kernel) (by decide +kernel) (fun _ _ _ _ _ _ us hl => match us, hl with | [_], _ => rfl) rfl rfl m_is_field
theorem f_look_field (W : World' classes names more K mg) (says : obsX look fn K = valX fn) (h_is_field : FnAt Γ 7 P w K mg base ("is_field", 76))  : FnAt Γ 8 P w K mg base ("look_field", 77) :=
  mk_fn (c := s_look_field) (con := Γ.fn 77) (by decide) W says 15 rfl k_look_field ((List.forall_mem_cons.mpr ⟨h_is_field.up (by decide), (fun p hp => absurd hp List.not_mem_nil)⟩)) ((fun p hp => absurd hp List.not_mem_nil)) (by decide +kernel) (by decide +kernel) (fun _ _ _ _ _ _ us hl => match us, hl with | [_], _ => rfl) rfl rfl m_look_field
theorem f_is_below (W : World' classes names more K mg) (says : obsX look fn K = valX fn)   : FnAt Γ 3 P w K mg base ("is_below", 13) :=
  mk_fn (c := s_is_below) (con := Γ.fn 13) (by decide) W says 16 rfl k_is_below ((fun p hp => absurd hp List.not_mem_nil)) ((fun p hp => absurd hp List.not_mem_nil)) (by decide +kernel) (by decide +kernel) (fun _ _ _ _ _ _ us hl => match us, hl with | [_, _], _ => rfl) rfl rfl m_is_below
theorem f_is_ahead (W : World' classes names more K mg) (says : obsX look fn K = valX fn) (h_is_below : FnAt Γ 3 P w K mg base ("is_below", 13))  : FnAt Γ 4 P w K mg base ("is_ahead", 34) :=
  mk_fn (c := s_is_ahead) (con := Γ.fn 34) (by decide) W says 17 rfl k_is_ahead ((List.forall_mem_cons.mpr ⟨h_is_below.up (by decide), (fun p hp => absurd hp List.not_mem_nil)⟩)) ((fun p hp => absurd hp List.not_mem_nil)) (by decide +kernel) (by decide +kernel) (fun _ _ _ _ _ _ us hl => match us, hl with | [_, _], _ => rfl) rfl rfl m_is_ahead
theorem f_is_amid (W : World' classes names more K mg) (says : obsX look fn K = valX fn) (h_turn_of : FnAt Γ 5 P w K mg base ("turn_of", 46)) (h_is_ahead : FnAt Γ 4 P w K mg base ("is_ahead", 34))  : FnAt Γ 6 P w K mg base ("is_amid", 47) :=
  mk_fn (c := s_is_amid) (con := Γ.fn 47) (by decide) W says 18 rfl k_is_amid ((List.forall_mem_cons.mpr ⟨h_turn_of.up (by decide), (List.forall_mem_cons.mpr ⟨h_is_ahead.up (by decide), (fun p hp => absurd hp List.not_mem_nil)⟩)⟩)) ((fun p hp => absurd hp List.not_mem_nil)) (by decide +kernel) (by decide +kernel) (fun _ _ _ _ _ _ us hl => match us, hl with | [_, _, _], _ => rfl) rfl rfl m_is_amid
theorem f_place_among (W : World' classes names more K mg) (says : obsX look fn K = valX fn) (h_is_amid : FnAt Γ 6 P w K mg base ("is_amid", 47)) (h_turn_of : FnAt Γ 5 P w K mg base ("turn_of", 46))  : FnAt Γ 7 P w K mg base ("place_among", 81) :=
  mk_fn (c := s_place_among) (con := Γ.fn 81) (by decide) W says 19 rfl k_place_among ((List.forall_mem_cons.mpr ⟨h_is_amid.up (by decide), (List.forall_mem_cons.mpr ⟨h_turn_of.up (by decide), (fun p hp => absurd hp List.not_mem_nil)⟩)⟩)) ((fun p hp => absurd hp List.not_mem_nil)) (by decide +kernel) (by decide +kernel) (fun _ _ _ _ _ _ us hl => match us, hl with | [_, _], _ => rfl) rfl rfl m_place_among
theorem f_place_in (W : World' classes names more K mg) (says : obsX look fn K = valX fn) (h_look_field : FnAt Γ 8 P w K mg base ("look_field", 77)) (h_place_among : FnAt Γ 7 P w K mg base ("place_among", 81))  : FnAt Γ 9 P w K mg base ("place_in", 82) :=
  mk_fn (c := s_place_in) (con := Γ.fn 82) (by decide) W says 20 rfl k_place_in ((List.forall_mem_cons.mpr ⟨h_look_field.up (by decide), (List.forall_mem_cons.mpr ⟨h_place_among.up (by decide), (fun p hp => absurd hp List.not_mem_nil)⟩)⟩)) ((fun p hp => absurd hp List.not_mem_nil)) (by decide +kernel) (by decide +kernel) (fun _ _ _ _ _ _ us hl => match us, hl with | [_, _], _ => rfl) rfl rfl m_place_in
theorem f_law_less (W : World' classes names more K mg) (says : obsX look fn K = valX fn)   : FnAt Γ 3 P w K mg base ("_law_less", 41) :=
  mk_fn (c := s_law_less) (con := Γ.fn 41) (by decide) W says 21 rfl k_law_less ((fun p hp => absurd hp List.not_mem_nil)) ((fun p hp => absurd hp List.not_mem_nil)) (by decide +kernel) (by decide +kernel) (fun _ _ _ _ _ _ us hl => match us, hl with | [_, _], _ => rfl) rfl rfl m_law_less
theorem f_law_twice (W : World' classes names more K mg) (says : obsX look fn K = valX fn) (h_law_less : FnAt Γ 3 P w K mg base ("_law_less", 41))  : FnAt Γ 4 P w K mg base ("_law_twice", 42) :=
  mk_fn (c := s_law_twice) (con := Γ.fn 42) (by decide) W says 22 rfl k_law_twice ((List.forall_mem_cons.mpr ⟨h_law_less.up (by decide), (fun p hp => absurd hp List.not_mem_nil)⟩)) ((fun p hp => absurd hp List.not_mem_nil)) (by decide +kernel) (by decide +kernel) (fun _ _ _ _ _ _ us hl => match us, hl with | [_, _, _], _ => rfl) rfl rfl m_law_twice
theorem f_law_turn (W : World' classes names more K mg) (says : obsX look fn K = valX fn) (h_law_twice : FnAt Γ 4 P w K mg base ("_law_twice", 42))  : FnAt Γ 5 P w K mg base ("_law_turn", 50) :=
  mk_fn (c := s_law_turn) (con := Γ.fn 50) (by decide) W says 23 rfl k_law_turn ((List.forall_mem_cons.mpr ⟨h_law_twice.up (by decide), (fun p hp => absurd hp List.not_mem_nil)⟩)) ((fun p hp => absurd hp List.not_mem_nil)) (by decide +kernel) (by decide +kernel) (fun _ _ _ _ _ _ us hl => match us, hl with | [_, _, _], _ => rfl) rfl rfl m_law_turn
theorem f_law_amid_2 (W : World' classes names more K mg) (says : obsX look fn K = valX fn) (h_law_turn : FnAt Γ 5 P w K mg base ("_law_turn", 50))  : FnAt Γ 6 P w K mg base ("_law_amid", 51) :=
  mk_fn (c := s_law_amid_2) (con := Γ.fn 51) (by decide) W says 24 rfl k_law_amid_2 ((List.forall_mem_cons.mpr ⟨h_law_turn.up (by decide), (fun p hp => absurd hp List.not_mem_nil)⟩)) ((fun p hp => absurd hp List.not_mem_nil)) (by decide +kernel) (by decide +kernel) (fun _ _ _ _ _ _ us hl => match us, hl with | [_, _, _], _ => rfl) rfl rfl m_law_amid_2
theorem f_law_place (W : World' classes names more K mg) (says : obsX look fn K = valX fn) (h_law_amid_2 : FnAt Γ 6 P w K mg base ("_law_amid", 51)) (h_law_turn : FnAt Γ 5 P w K mg base ("_law_turn", 50))  : FnAt Γ 7 P w K mg base ("_law_place", 84) :=
  mk_fn (c := s_law_place) (con := Γ.fn 84) (by decide) W says 25 rfl k_law_place ((List.forall_mem_cons.mpr ⟨h_law_amid_2.up (by decide), (List.forall_mem_cons.mpr ⟨h_law_turn.up (by decide), (fun p hp => absurd hp List.not_mem_nil)⟩)⟩)) ((fun p hp => absurd hp List.not_mem_nil)) (by decide +kernel) (by decide +kernel) (fun _ _ _ _ _ _ us hl => match us, hl with | [_, _], _ => rfl) rfl rfl m_law_place
theorem f_law_whole (W : World' classes names more K mg) (says : obsX look fn K = valX fn)   : FnAt Γ 3 P w K mg base ("_law_whole", 5) :=
  mk_fn (c := s_law_whole) (con := Γ.fn 5) (by decide) W says 26 rfl k_law_whole ((fun p hp => absurd hp List.not_mem_nil)) ((fun p hp => absurd hp List.not_mem_nil)) (by decide +kernel) (by decide +kernel) (fun _ _ _ _ _ _ us hl => match us, hl with | [_], _ => rfl) rfl rfl m_law_whole
end
theorem facts {w : World} {K : PySem.W.Frag} {mg : Str → Option Value} {h : Heap} {fa : Addr} (X : K.In h) (G : h.Ns mainGlobals mg) (says : obsX look fn K = valX fn) (hfa : mg ("law" : Str) = some (.ref fa)) :
    ∃ fd : FuncData, (∀ (s : Shared) (u : Value), BindsTo s fd ⟨[u], []⟩ [("_law_script", u)]) ∧ ∀ base : Heap, K.In base → base.Ns mainGlobals mg → FnOk R.prog w K mg base (L2.CX R.prog w) 10 fa fd ["_law_script"] (spOf K 1 c_law) := by
  have W : World' classes names more K mg := look_ok X G (says_ex says)
  refine mk_law (c := s_law_13) (con := c_law) (by decide) W says 27 rfl k_law_13 (fun base b1 b2 => ?_) ((fun p hp => absurd hp List.not_mem_nil)) (by decide +kernel) (by decide +kernel) (fun _ _ _ _ _ _ us hl => match us, hl with | [_], _ => rfl) m_law_13 hfa
  have h_law_take_2 := f_law_take_2 (P := R.prog) (w := w) (base := base) W says  
  have h_law_lowest := f_law_lowest (P := R.prog) (w := w) (base := base) W says  
  have h_law_field := f_law_field (P := R.prog) (w := w) (base := base) W says h_law_take_2 h_law_lowest 
  have h_law_mid := f_law_mid (P := R.prog) (w := w) (base := base) W says h_law_lowest 
  have h_law_pushed := f_law_pushed (P := R.prog) (w := w) (base := base) W says h_law_take_2 h_law_lowest 
  have h_law_spots := f_law_spots (P := R.prog) (w := w) (base := base) W says h_law_take_2 h_law_mid h_law_pushed h_law_lowest 
  have h_how_far := f_how_far (P := R.prog) (w := w) (base := base) W says  
  have h_twice_parts := f_twice_parts (P := R.prog) (w := w) (base := base) W says h_how_far 
  have h_turn_of := f_turn_of (P := R.prog) (w := w) (base := base) W says h_twice_parts 
  have h_goes_round := f_goes_round (P := R.prog) (w := w) (base := base) W says h_turn_of 
  have h_is_whole := f_is_whole (P := R.prog) (w := w) (base := base) W says  
  have h_divisor := f_divisor (P := R.prog) (w := w) (base := base) W says  
  have h_is_frac := f_is_frac (P := R.prog) (w := w) (base := base) W says h_is_whole h_divisor 
  have h_is_spot := f_is_spot (P := R.prog) (w := w) (base := base) W says h_is_frac 
  have h_is_field := f_is_field (P := R.prog) (w := w) (base := base) W says h_goes_round h_is_spot 
  have h_look_field := f_look_field (P := R.prog) (w := w) (base := base) W says h_is_field 
  have h_is_below := f_is_below (P := R.prog) (w := w) (base := base) W says  
  have h_is_ahead := f_is_ahead (P := R.prog) (w := w) (base := base) W says h_is_below 
  have h_is_amid := f_is_amid (P := R.prog) (w := w) (base := base) W says h_turn_of h_is_ahead 
  have h_place_among := f_place_among (P := R.prog) (w := w) (base := base) W says h_is_amid h_turn_of 
  have h_place_in := f_place_in (P := R.prog) (w := w) (base := base) W says h_look_field h_place_among 
  have h_law_less := f_law_less (P := R.prog) (w := w) (base := base) W says  
  have h_law_twice := f_law_twice (P := R.prog) (w := w) (base := base) W says h_law_less 
  have h_law_turn := f_law_turn (P := R.prog) (w := w) (base := base) W says h_law_twice 
  have h_law_amid_2 := f_law_amid_2 (P := R.prog) (w := w) (base := base) W says h_law_turn 
  have h_law_place := f_law_place (P := R.prog) (w := w) (base := base) W says h_law_amid_2 h_law_turn 
  have h_law_whole := f_law_whole (P := R.prog) (w := w) (base := base) W says  
  exact (List.forall_mem_cons.mpr ⟨h_law_field.up (by decide), (List.forall_mem_cons.mpr ⟨h_law_spots.up (by decide), (List.forall_mem_cons.mpr ⟨h_place_in.up (by decide), (List.forall_mem_cons.mpr ⟨h_law_place.up (by decide), (List.forall_mem_cons.mpr ⟨h_law_take_2.up (by decide), (List.forall_mem_cons.mpr ⟨h_law_whole.up (by decide), (fun p hp => absurd hp List.not_mem_nil)⟩)⟩)⟩)⟩)⟩)⟩)
end K10
open PySem PySem.W PySem.Calls PyProof.Rows in
set_option maxRecDepth 100000 in
set_option maxHeartbeats 8000000 in
theorem PySem.Challenge.cw_likeshards_k10_places_of_spots_holds : PySem.Challenge.rw_likeshards_k10_places_of_spots.Holds := by
  w_on; o_law
  refine HandSHeadRun.head_any (r := K10.R) (q := view K10.R.prog [36]) (H := K10.hk) (ob := K10.ob) (M := 40000) (loose := K10.loose) (d := HandSHeadRun.topDef K10.R.prog 36) (kwd := []) K10.ob_eq
    (by kernel_rfl) (fun s => by kernel_rfl) K10.run (by kernel_rfl) (by kernel_rfl) (by kernel_rfl) (by rfl)
    (by first | assumption | decide +kernel) (by decide +kernel) ⟨rfl, rfl, rfl, rfl, rfl, by decide +kernel⟩ ?hw ?hc
  case hw => w_witness2
  case hc =>
    refine Sd.walk_X (l := PySem.Challenge.rw_likeshards_k10_places_of_spots) (k := 10) (x := "_law_script") rfl (by kernel_rfl) ⟨rfl, by decide, by decide⟩ ?F
    intro w mg fa h Y G hmg0
    obtain ⟨K, KX, says⟩ := Y
    have hmg : mg ("law" : PySem.Str) = some (.ref fa) := by
      have e : (HandSHeadRun.topDef K10.R.prog 36).name = ("law" : PySem.Str) := by kernel_rfl
      rw [← e]
      exact hmg0
    obtain ⟨fd, hb, hF⟩ := K10.facts (w := w) KX G says hmg
    exact ⟨K, fd, K10.c_law, KX, (Sd.look_ok (mg := mg) KX G (Sd.says_ex says)).nol, K10.law_con, hb, hF⟩
