import PyProof.Rows.All
import Wide.All
import OpenK.AllK
import Wide.FinOn
import PyProof.EqAt
import PyProof.EqKinds
import PyProof.TupleCall
import PyProof.NoPylong
import PyProof.Fits
import HandS.Base
import HandS.Call
import HandS.List
import HandS.Comp
import HandS.Ends
import HandS.Iter
import HandS.Exc
import HandS.ExcOwn
import HandS.Flow
import HandS.Wide
import HandS.TupAny
import HandS.Deep
import PyProof.NeKinds
import HandS.Style
import HandS.ExcIs
import HandS.ExcField
import HandS.SortInts
import KE.KExcIs
import HandS.IsInst
import HandS.More
import HandS.Zip
import HandS.TryOnly
import HandS.ExcInit
import HandS.Defaults
import HandS.EndBits
import HandS.Head0
import HandS.Head1
import HandS.Head2
import HandS.HeadHook1
import HandS.HeadHook2
import HandS.Words
import PySem.Challenge.RW_likeshards_k26_whole_two_colours_on_a_li
set_option Elab.async false
set_option linter.all false
set_option maxRecDepth 100000
set_option maxHeartbeats 4000000
namespace Sd
open PySem PySem.Spec PyProof.Rows L2
/-- a datum: what a Python value is worth; tuples by what they hold -/
inductive D where
  | non | bl (b : Bool) | int (i : Int) | str (x : Str) | ty (n : String) | ref (a : Addr) | tup (l : List D)
/-- what stands at an address: a list (w: it may be changed), a caught error (class, field) -/
inductive O where
  | lst (w : Bool) (l : List D)
  | exc (k : Nat) (f : Option D)
abbrev DSt := List (Option D)
abbrev Sto := Addr → Option O
abbrev PD := D → Sto → Prop
abbrev AW := Nat → Option D → DSt → Sto → Prop
abbrev FW := Nat → Option D → Sto → Prop
/-- a def's contract: arguments, store, what is wanted of the answer, of an error -/
abbrev Con := List D → Sto → PD → FW → Prop
def Sto.up (S : Sto) (a : Addr) (o : O) : Sto := fun b => if b = a then some o else S b
theorem up_same {S : Sto} {a : Addr} {o : O} : S.up a o a = some o := by unfold Sto.up; rw [if_pos rfl]
theorem up_ne {S : Sto} {a b : Addr} {o : O} (h : b ≠ a) : S.up a o b = S b := by unfold Sto.up; rw [if_neg h]
theorem sne {S : Sto} {a b : Addr} {o : O} (h : S a = some o) (h' : S b = none) : a ≠ b := by
  intro e; subst e; rw [h] at h'; cases h'
/-- less is known -/
def Sto.le (S S' : Sto) : Prop := ∀ a o, S a = some o → S' a = some o
theorem Sto.le.refl (S : Sto) : Sto.le S S := fun _ _ h => h
theorem Sto.le.trans {S S1 S2 : Sto} (a : Sto.le S S1) (b : Sto.le S1 S2) : Sto.le S S2 := fun x o h => b x o (a x o h)
theorem Sto.le.up {S S' : Sto} {p : Addr} {o : O} (h : Sto.le S S') (n : S p = none) : Sto.le S (S'.up p o) := fun a u e => by
  rw [up_ne (sne e n)]; exact h a u e
/-! ### the classes of the text, by numbers -/
def clsN : Nat → Str
  | 0 => "ShardError" | 1 => "NoNumber" | 2 => "NoPrime" | 3 => "NoField" | 4 => "NoCutting" | 5 => "NoLine" | 6 => "NoFrame" | 7 => "NoDoor" | 8 => "NoPaper"
  | 9 => "NoAreas" | 10 => "NoWay" | 11 => "NoSpot" | 12 => "NoMove" | 13 => "NoBend" | 14 => "TooMany" | 15 => "NoText" | 16 => "NoRow" | _ => "NoName"
/-- the field's name -/
def fldN : Nat → Str
  | 4 => "fault" | 15 => "at" | _ => "name"
def subK (i j : Nat) : Bool := i == j || j == 0
def gaK (K : PySem.W.Frag) (x : Str) : Addr := match PySem.W.nsIn K mainGlobals x with
  | some (some (.ref a)) => a
  | _ => 0
/-- the k-th class stands in the text -/
def Kn (K : PySem.W.Frag) (k : Nat) : Prop := k < 18 ∧ PySem.W.nsIn K mainGlobals (clsN k) = some (some (.ref (gaK K (clsN k))))
/-! ### data and values -/
section
variable (K : PySem.W.Frag)
mutual
def Rp (H : Hp) : D → V → Prop
  | .non, v => v = .non
  | .bl b, v => v = .bl b
  | .int i, v => v = .int i
  | .str x, v => v = .str x
  | .ty n, v => v = .ty n
  | .ref a, v => v = .ref a
  | .tup l, v => ∃ a vs, v = .ref a ∧ SqT K H a vs ∧ Rps H l vs
def Rps (H : Hp) : List D → List V → Prop
  | [], vs => vs = []
  | d :: ds, vs => ∃ v r, vs = v :: r ∧ Rp H d v ∧ Rps H ds r
end
/-- tuples and locked things stay -/
structure Kp (H H' : Hp) : Prop where
  tups : ∀ b xs, H b = some (.tup xs) → H' b = some (.tup xs)
  frzs : ∀ b o u, H b = some (.frz o u) → H' b = some (.frz o u)
end
theorem Kp.refl (H : Hp) : Kp H H := ⟨fun _ _ h => h, fun _ _ _ h => h⟩
theorem Kp.trans {H H1 H2 : Hp} (a : Kp H H1) (b : Kp H1 H2) : Kp H H2 := ⟨fun x xs h => b.tups x xs (a.tups x xs h), fun x o u h => b.frzs x o u (a.frzs x o u h)⟩
theorem Kp.new {H : Hp} {p : Addr} {o : HO} (h : H p = none) : Kp H (upd H p o) := ⟨fun b xs e => by rw [upd_ne (ne_of_none e h)]; exact e, fun b o' u e => by rw [upd_ne (ne_of_none e h)]; exact e⟩
theorem Kp.lst {H : Hp} {p : Addr} {o : HO} {xs : List V} (h : H p = some (.lst xs)) : Kp H (upd H p o) :=
  ⟨fun b ys e => by rw [upd_ne (ne_of e h (by intro z; cases z))]; exact e, fun b o' u e => by rw [upd_ne (ne_of e h (by intro z; cases z))]; exact e⟩
theorem SqT.kp {K : PySem.W.Frag} {H H' : Hp} {a : Addr} {xs : List V} (k : Kp H H') (h : SqT K H a xs) : SqT K H' a xs := by
  rcases h with (h | ⟨o, h⟩) | h
  · exact .inl (.inl (k.tups _ _ h))
  · exact .inl (.inr ⟨o, k.frzs _ _ _ h⟩)
  · exact .inr h
mutual
theorem Rp.kp {K : PySem.W.Frag} {H H' : Hp} (k : Kp H H') : ∀ (d : D) {v : V}, Rp K H d v → Rp K H' d v
  | .non, _, h => h
  | .bl _, _, h => h
  | .int _, _, h => h
  | .str _, _, h => h
  | .ty _, _, h => h
  | .ref _, _, h => h
  | .tup l, _, h => by
    obtain ⟨a, vs, e, q, r⟩ := h
    exact ⟨a, vs, e, SqT.kp k q, Rps.kp k l r⟩
theorem Rps.kp {K : PySem.W.Frag} {H H' : Hp} (k : Kp H H') : ∀ (ds : List D) {vs : List V}, Rps K H ds vs → Rps K H' ds vs
  | [], _, h => h
  | d :: ds, _, h => by
    obtain ⟨v, r, e, q, t⟩ := h
    exact ⟨v, r, e, Rp.kp k d q, Rps.kp k ds t⟩
end
section
variable {K : PySem.W.Frag} {H H' : Hp}
theorem Rps.length : ∀ {ds : List D} {vs : List V}, Rps K H ds vs → vs.length = ds.length
  | [], _, h => by rw [show _ = _ from h]; rfl
  | d :: ds, _, h => by
    obtain ⟨v, r, rfl, _, t⟩ := h
    simp [Rps.length t]
theorem Rps.get : ∀ {ds : List D} {vs : List V} {i : Nat} {d : D}, Rps K H ds vs → ds[i]? = some d → ∃ v, vs[i]? = some v ∧ Rp K H d v
  | [], _, _, _, _, e => by simp at e
  | d :: ds, _, 0, _, h, e => by
    obtain ⟨v, r, rfl, q, t⟩ := h
    simp at e; subst e
    exact ⟨v, rfl, q⟩
  | d :: ds, _, i + 1, x, h, e => by
    obtain ⟨v, r, rfl, q, t⟩ := h
    obtain ⟨u, h1, h2⟩ := Rps.get (i := i) (d := x) t (by simpa using e)
    exact ⟨u, by simpa using h1, h2⟩
theorem Rps.getV : ∀ {ds : List D} {vs : List V} {i : Nat} {v : V}, Rps K H ds vs → vs[i]? = some v → ∃ d, ds[i]? = some d ∧ Rp K H d v
  | [], _, _, _, h, e => by rw [show _ = _ from h] at e; simp at e
  | d :: ds, _, 0, _, h, e => by
    obtain ⟨v, r, rfl, q, t⟩ := h
    simp at e; subst e
    exact ⟨d, rfl, q⟩
  | d :: ds, _, i + 1, x, h, e => by
    obtain ⟨v, r, rfl, q, t⟩ := h
    obtain ⟨u, h1, h2⟩ := Rps.getV (i := i) (v := x) t (by simpa using e)
    exact ⟨u, by simpa using h1, h2⟩
theorem Rps.append : ∀ {ds es : List D} {vs us : List V}, Rps K H ds vs → Rps K H es us → Rps K H (ds ++ es) (vs ++ us)
  | [], _, _, _, h, q => by rw [show _ = _ from h]; exact q
  | d :: ds, _, _, _, h, q => by
    obtain ⟨v, r, rfl, a, t⟩ := h
    exact ⟨v, r ++ _, rfl, a, Rps.append t q⟩
theorem Rps.one {d : D} {v : V} (h : Rp K H d v) : Rps K H [d] [v] := ⟨v, [], rfl, h, rfl⟩
theorem Rps.cons {d : D} {v : V} {ds : List D} {vs : List V} (h : Rp K H d v) (t : Rps K H ds vs) : Rps K H (d :: ds) (v :: vs) := ⟨v, vs, rfl, h, t⟩
theorem Rps.set {d : D} {v : V} (h : Rp K H d v) : ∀ {ds : List D} {vs : List V} (i : Nat), Rps K H ds vs → Rps K H (ds.set i d) (vs.set i v)
  | [], _, _, q => by rw [show _ = _ from q]; exact rfl
  | e :: ds, _, 0, q => by
    obtain ⟨u, r, rfl, a, t⟩ := q
    exact ⟨v, r, rfl, h, t⟩
  | e :: ds, _, i + 1, q => by
    obtain ⟨u, r, rfl, a, t⟩ := q
    exact ⟨u, r.set i v, rfl, a, Rps.set h i t⟩
theorem Rps.take : ∀ {ds : List D} {vs : List V} (n : Nat), Rps K H ds vs → Rps K H (ds.take n) (vs.take n)
  | _, _, 0, _ => rfl
  | [], _, _ + 1, h => by rw [show _ = _ from h]; rfl
  | d :: ds, _, n + 1, h => by
    obtain ⟨v, r, rfl, a, t⟩ := h
    exact ⟨v, r.take n, rfl, a, Rps.take n t⟩
theorem Rps.drop : ∀ {ds : List D} {vs : List V} (n : Nat), Rps K H ds vs → Rps K H (ds.drop n) (vs.drop n)
  | _, _, 0, h => h
  | [], _, _ + 1, h => by rw [show _ = _ from h]; rfl
  | d :: ds, _, n + 1, h => by
    obtain ⟨v, r, rfl, a, t⟩ := h
    exact Rps.drop n t
end
/-! ### the store -/
/-- a caught error at a, of the class cls, its own dict d -/
def ExV (cls : Value) (d : Option Addr) (a : Addr) : HO := .ext fun h => ∃ (oe : Obj) (vs : Array Value), h.get? a = some oe ∧ Zc cls d oe ∧ oe.data = .fields vs
/-- what an error of the k-th class carries -/
def FldOk (K : PySem.W.Frag) (H : Hp) (k : Nat) (d : Option Addr) : Option D → Prop
  | none => Kn K k ∧ d = none
  | some x => Kn K k ∧ ∃ da v, d = some da ∧ H da = some (.xd [(fldN k, v)]) ∧ Rp K H x v
def OkO (K : PySem.W.Frag) (H : Hp) (a : Addr) : O → Prop
  | .lst true l => ∃ vs, H a = some (.lst vs) ∧ Rps K H l vs
  | .lst false l => ∃ o vs, H a = some (.frz o (.lst vs)) ∧ Rps K H l vs
  | .exc k f => ∃ d, H a = some (ExV (.ref (gaK K (clsN k))) d a) ∧ FldOk K H k d f
def StoOk (K : PySem.W.Frag) (H : Hp) (S : Sto) : Prop := ∀ a o, S a = some o → OkO K H a o
structure Sees (K : PySem.W.Frag) (H : Hp) (σ : L2.St) (ρ : DSt) (S : Sto) : Prop where
  len : ρ.length = σ.length
  loc : ∀ (i : Nat) (d : D), ρ[i]? = some (some d) → ∃ v, σ[i]? = some (some v) ∧ Rp K H d v
  sto : StoOk K H S
section
variable {K : PySem.W.Frag} {H H' : Hp} {σ : L2.St} {ρ : DSt} {S S' : Sto}
theorem StoOk.le (h : StoOk K H S') (l : Sto.le S S') : StoOk K H S := fun a o e => h a o (l a o e)
theorem OkO.there {a : Addr} {o : O} (h : OkO K H a o) : H a ≠ none := by
  cases o with
  | lst w l =>
    cases w with
    | true => obtain ⟨vs, e, _⟩ := h; rw [e]; simp
    | false => obtain ⟨ob, vs, e, _⟩ := h; rw [e]; simp
  | exc k f => obtain ⟨d, e, _⟩ := h; rw [e]; simp
theorem StoOk.free (h : StoOk K H S) {a : Addr} (e : H a = none) : S a = none := by
  cases q : S a with
  | none => rfl
  | some o => exact absurd e (h a o q).there
/-- every tracked thing kept -/
def Sm (H H' : Hp) : Prop := ∀ b o, H b = some o → H' b = some o
theorem Sm.kp (s : Sm H H') : Kp H H' := ⟨fun b xs e => s b _ e, fun b o u e => s b _ e⟩
theorem Sm.new {p : Addr} {o : HO} (h : H p = none) : Sm H (upd H p o) := fun b u e => by rw [upd_ne (ne_of_none e h)]; exact e
theorem FldOk.sm {k : Nat} {d : Option Addr} {f : Option D} (s : Sm H H') (h : FldOk K H k d f) : FldOk K H' k d f := by
  cases f with
  | none => exact h
  | some x =>
    obtain ⟨kn, da, v, e, q, r⟩ := h
    exact ⟨kn, da, v, e, s _ _ q, Rp.kp s.kp x r⟩
theorem FldOk.kn {k : Nat} {d : Option Addr} {f : Option D} (h : FldOk K H k d f) : Kn K k := by
  cases f with
  | none => exact h.1
  | some x => exact h.1
theorem OkO.sm {a : Addr} {o : O} (s : Sm H H') (h : OkO K H a o) : OkO K H' a o := by
  cases o with
  | lst w l =>
    cases w with
    | true => obtain ⟨vs, e, q⟩ := h; exact ⟨vs, s _ _ e, Rps.kp s.kp l q⟩
    | false => obtain ⟨ob, vs, e, q⟩ := h; exact ⟨ob, vs, s _ _ e, Rps.kp s.kp l q⟩
  | exc k f => obtain ⟨d, e, q⟩ := h; exact ⟨d, s _ _ e, q.sm s⟩
theorem StoOk.sm (s : Sm H H') (h : StoOk K H S) : StoOk K H' S := fun a o e => (h a o e).sm s
theorem StoOk.new {p : Addr} {o : O} {u : HO} (h : StoOk K H S) (hp : H p = none) (ho : OkO K (upd H p u) p o) : StoOk K (upd H p u) (S.up p o) := fun a o' e => by
  by_cases ha : a = p
  · subst ha; rw [up_same] at e; cases e; exact ho
  · rw [up_ne ha] at e
    exact (h a o' e).sm (Sm.new hp)
theorem FldOk.lst {k : Nat} {d : Option Addr} {f : Option D} {p : Addr} {xs ys : List V} (hp : H p = some (.lst xs)) (h : FldOk K H k d f) : FldOk K (upd H p (.lst ys)) k d f := by
  cases f with
  | none => exact h
  | some x =>
    obtain ⟨kn, da, v, e, q, r⟩ := h
    exact ⟨kn, da, v, e, by rw [upd_ne (ne_of q hp (by intro z; cases z))]; exact q, Rp.kp (Kp.lst hp) x r⟩
/-- a list is changed -/
theorem StoOk.lst {p : Addr} {l l' : List D} {xs ys : List V} (h : StoOk K H S) (hp : H p = some (.lst xs)) (hr : Rps K H l' ys) : StoOk K (upd H p (.lst ys)) (S.up p (.lst true l')) := fun a o e => by
  by_cases ha : a = p
  · subst ha; rw [up_same] at e; cases e
    exact ⟨ys, upd_same, Rps.kp (Kp.lst hp) _ hr⟩
  · rw [up_ne ha] at e
    have q := h a o e
    cases o with
    | lst w l =>
      cases w with
      | true => obtain ⟨vs, e1, q1⟩ := q; exact ⟨vs, by rw [upd_ne ha]; exact e1, Rps.kp (Kp.lst hp) l q1⟩
      | false => obtain ⟨ob, vs, e1, q1⟩ := q; exact ⟨ob, vs, by rw [upd_ne ha]; exact e1, Rps.kp (Kp.lst hp) l q1⟩
    | exc k f => obtain ⟨d, e1, q1⟩ := q; exact ⟨d, by rw [upd_ne ha]; exact e1, q1.lst hp⟩
theorem Sees.at (h : Sees K H σ ρ S) (k : Kp H H') (s : StoOk K H' S') : Sees K H' σ ρ S' := ⟨h.len, fun i d e => let ⟨v, a, b⟩ := h.loc i d e; ⟨v, a, Rp.kp k d b⟩, s⟩
theorem Sees.set (h : Sees K H σ ρ S) (i : Nat) {d : D} {v : V} (r : Rp K H d v) : Sees K H (σ.set i (some v)) (ρ.set i (some d)) S := by
  refine ⟨by simp [h.len], fun j e q => ?_, h.sto⟩
  by_cases hj : i = j
  · subst hj
    by_cases hi : i < ρ.length
    · rw [List.getElem?_set_self hi] at q
      cases q
      exact ⟨v, List.getElem?_set_self (by rw [← h.len]; exact hi), r⟩
    · rw [List.getElem?_eq_none (by simpa using hi)] at q; cases q
  · rw [List.getElem?_set_ne hj] at q
    obtain ⟨u, a, b⟩ := h.loc j e q
    exact ⟨u, by rw [List.getElem?_set_ne hj]; exact a, b⟩
theorem Sees.unset (h : Sees K H σ ρ S) (i : Nat) (o : Option V) : Sees K H (σ.set i o) (ρ.set i none) S := by
  refine ⟨by simp [h.len], fun j e q => ?_, h.sto⟩
  by_cases hj : i = j
  · subst hj
    by_cases hi : i < ρ.length
    · rw [List.getElem?_set_self hi] at q; cases q
    · rw [List.getElem?_eq_none (by simpa using hi)] at q; cases q
  · rw [List.getElem?_set_ne hj] at q
    obtain ⟨u, a, b⟩ := h.loc j e q
    exact ⟨u, by rw [List.getElem?_set_ne hj]; exact a, b⟩
end
/-! ### lifts -/
abbrev AE := DSt → Sto → PD → AW → Prop
abbrev AT := DSt → Sto → (Bool → Sto → Prop) → AW → Prop
abbrev AA := DSt → Sto → (List D → Sto → Prop) → AW → Prop
structure DE where
  nx : DSt → Sto → Prop
  rt : PD
  bk : DSt → Sto → Prop := fun _ _ => False
  ct : DSt → Sto → Prop := fun _ _ => False
abbrev AS := DE → DSt → Sto → AW → Prop
/-- the error's wish, seen from H -/
def WLe (K : PySem.W.Frag) (H : Hp) (W : AW) (Wh : WX) : Prop := ∀ k f ρ S, W k f ρ S → ∀ d σ H', Kp H H' → Sees K H' σ ρ S → FldOk K H' k d f → Wh (.ref (gaK K (clsN k))) d σ H'
def PLe (K : PySem.W.Frag) (H : Hp) (P : PD) (Q : VK) : Prop := ∀ d S, P d S → ∀ v H', Kp H H' → StoOk K H' S → Rp K H' d v → Q v H'
def BLe (K : PySem.W.Frag) (H : Hp) (P : Bool → Sto → Prop) (Q : Bool → Hp → Prop) : Prop := ∀ b S, P b S → ∀ H', Kp H H' → StoOk K H' S → Q b H'
def ALe (K : PySem.W.Frag) (H : Hp) (P : List D → Sto → Prop) (Q : List V → Hp → Prop) : Prop := ∀ ds S, P ds S → ∀ vs H', Kp H H' → StoOk K H' S → Rps K H' ds vs → Q vs H'
def NLe (K : PySem.W.Frag) (H : Hp) (P : DSt → Sto → Prop) (Q : L2.St → Hp → Prop) : Prop := ∀ ρ S, P ρ S → ∀ σ H', Kp H H' → Sees K H' σ ρ S → Q σ H'
structure SLe (K : PySem.W.Frag) (H : Hp) (N : DE) (E : Ends) : Prop where
  nx : NLe K H N.nx E.nx
  rt : PLe K H N.rt E.rt
  bk : NLe K H N.bk E.bk
  ct : NLe K H N.ct E.ct
section
variable {K : PySem.W.Frag} {H H' : Hp}
theorem WLe.at {W : AW} {Wh : WX} (h : WLe K H W Wh) (k : Kp H H') : WLe K H' W Wh := fun c f ρ S w d σ H2 k2 => h c f ρ S w d σ H2 (k.trans k2)
theorem PLe.at {P : PD} {Q : VK} (h : PLe K H P Q) (k : Kp H H') : PLe K H' P Q := fun d S w v H2 k2 => h d S w v H2 (k.trans k2)
theorem BLe.at {P : Bool → Sto → Prop} {Q : Bool → Hp → Prop} (h : BLe K H P Q) (k : Kp H H') : BLe K H' P Q := fun d S w H2 k2 => h d S w H2 (k.trans k2)
theorem ALe.at {P : List D → Sto → Prop} {Q : List V → Hp → Prop} (h : ALe K H P Q) (k : Kp H H') : ALe K H' P Q := fun d S w v H2 k2 => h d S w v H2 (k.trans k2)
theorem NLe.at {P : DSt → Sto → Prop} {Q : L2.St → Hp → Prop} (h : NLe K H P Q) (k : Kp H H') : NLe K H' P Q := fun d S w v H2 k2 => h d S w v H2 (k.trans k2)
theorem SLe.at {N : DE} {E : Ends} (h : SLe K H N E) (k : Kp H H') : SLe K H' N E := ⟨h.nx.at k, h.rt.at k, h.bk.at k, h.ct.at k⟩
end
def LE (K : PySem.W.Frag) (Wh : WX) (A : AE) : TE := fun σ H Q => ∃ ρ S W P, Sees K H σ ρ S ∧ WLe K H W Wh ∧ PLe K H P Q ∧ A ρ S P W
def LT (K : PySem.W.Frag) (Wh : WX) (A : AT) : TT := fun σ H Q => ∃ ρ S W P, Sees K H σ ρ S ∧ WLe K H W Wh ∧ BLe K H P Q ∧ A ρ S P W
def LA (K : PySem.W.Frag) (Wh : WX) (A : AA) : TA := fun σ H Q => ∃ ρ S W P, Sees K H σ ρ S ∧ WLe K H W Wh ∧ ALe K H P Q ∧ A ρ S P W
def LS (K : PySem.W.Frag) (Wh : WX) (A : AS) : TS := fun E σ H => ∃ ρ S W N, Sees K H σ ρ S ∧ WLe K H W Wh ∧ SLe K H N E ∧ A N ρ S W
/-- a stronger reading -/
theorem PE.imp {X : Cx} {e : Expr} {t t' : TE} (h : PE X e t) (i : ∀ σ H Q, t' σ H Q → t σ H Q) : PE X e t' := ⟨fun pins s σ H Q I hw => h.run pins s σ H Q I (i σ H Q hw)⟩
theorem PT.imp {X : Cx} {e : Expr} {t t' : TT} (h : PT X e t) (i : ∀ σ H Q, t' σ H Q → t σ H Q) : PT X e t' := ⟨fun pins s σ H Q I hw => h.run pins s σ H Q I (i σ H Q hw)⟩
theorem PW.imp {X : Cx} {e : Expr} {t t' : TT} (h : PW X e t) (i : ∀ σ H Q, t' σ H Q → t σ H Q) : PW X e t' := ⟨fun wh pins s σ H Q I hw => h.run wh pins s σ H Q I (i σ H Q hw)⟩
theorem PA.imp {X : Cx} {e : List Expr} {t t' : TA} (h : PA X e t) (i : ∀ σ H Q, t' σ H Q → t σ H Q) : PA X e t' := ⟨fun pos pins s σ H Q I hw => h.run pos pins s σ H Q I (i σ H Q hw)⟩
theorem PS.imp {X : Cx} {st : Stmt} {t t' : TS} (h : PS X st t) (i : ∀ D σ H, t' D σ H → t D σ H) : PS X st t' := ⟨fun pins s σ H D I hw => h.run pins s σ H D I (i D σ H hw)⟩
theorem PSs.imp {X : Cx} {st : List Stmt} {t t' : TS} (h : PSs X st t) (i : ∀ D σ H, t' D σ H → t D σ H) : PSs X st t' := ⟨fun pins s σ H D I hw => h.run pins s σ H D I (i D σ H hw)⟩
end Sd
namespace Sd
open PySem PySem.Spec PyProof.Rows L2
/-! ### data for == -/
section
variable (g : Addr → Option PyData)
mutual
def pdW : Nat → D → Option PyData
  | _, .non => some .none
  | _, .bl b => some (.bool b)
  | _, .int i => some (.int i)
  | _, .str x => if PyData.strOk x = true then some (.str x) else none
  | _, .ty _ => none
  | _, .ref a => g a
  | 0, .tup _ => none
  | n + 1, .tup l => match pdWs n l with
    | some ps => some (.tuple ps)
    | none => none
def pdWs : Nat → List D → Option (List PyData)
  | _, [] => some []
  | n, d :: ds => match pdW n d, pdWs n ds with
    | some p, some ps => some (p :: ps)
    | _, _ => none
end
end
def gL (S : Sto) : Nat → Addr → Option PyData
  | 0, _ => none
  | n + 1, a => match S a with
    | some (.lst _ l) => (match pdWs (gL S n) 12 l with
      | some ps => some (.list ps)
      | none => none)
    | _ => none
/-- a datum as == sees it: lists three deep -/
def pdS (S : Sto) (d : D) : Option PyData := pdW (gL S 3) 12 d
/-! ### operators -/
def DivOk (j : Int) : Prop := j ≠ 0 ∧ j.natAbs.log2 < 9000
def opS (o : Operator) (x y : D) (S : Sto) (P : PD) : Prop :=
  match o, x, y with
  | .Add, .int i, .int j => P (.int (i + j)) S
  | .Sub, .int i, .int j => P (.int (i - j)) S
  | .Mult, .int i, .int j => IntMulOk i j ∧ P (.int (i * j)) S
  | .Mult, .ref a, .int k => (match S a with
    | some (.lst true l) => (-(2 ^ 63) ≤ k ∧ k < 2 ^ 63 ∧ l.length * k.toNat ≤ sizeLine) ∧ ∀ p, S p = none → P (.ref p) (S.up p (.lst true (List.replicate k.toNat l).flatten))
    | _ => False)
  | .FloorDiv, .int i, .int j => DivOk j ∧ P (.int (i.fdiv j)) S
  | .Mod, .int i, .int j => j ≠ 0 ∧ P (.int (i.fmod j)) S
  | .Pow, .int i, .int j => CPow i j ∧ P (.int (i ^ j.toNat)) S
  | .Add, .str a, .str b => a.length + b.length ≤ sizeLine ∧ P (.str (a ++ b)) S
  | .Add, .tup a, .tup b => a.length + b.length ≤ sizeLine ∧ P (.tup (a ++ b)) S
  | .Add, .ref a, .ref b => (match S a, S b with
    | some (.lst _ l), some (.lst _ m) => l.length + m.length ≤ sizeLine ∧ ∀ p, S p = none → P (.ref p) (S.up p (.lst true (l ++ m)))
    | _, _ => False)
  | _, _, _ => False
def isNo : D → Bool
  | .non => true
  | _ => false
def anyEq (p : PyData) (l : List PyData) : Bool := l.any fun z => PyData.eqv z p
/-- flat data: no list, no tuple -/
def flD : D → Bool
  | .non => true
  | .bl _ => true
  | .int _ => true
  | .str _ => true
  | _ => false
/-- == of flat data -/
def eqFl : D → D → Bool
  | .non, .non => true
  | .bl a, .bl b => a == b
  | .bl a, .int b => (if a then 1 else 0) == b
  | .int a, .bl b => a == (if b then 1 else 0)
  | .int a, .int b => a == b
  | .str a, .str b => a == b
  | _, _ => false
def inFl (x : D) (l : List D) : Bool := l.any fun y => eqFl y x
/-- two lists of unlike lengths -/
def lenS (b : Bool) (x y : D) (S : Sto) (P : PD) : Prop := match x, y with
  | .ref a, .ref c => (match S a, S c with
    | some (.lst _ l), some (.lst _ m) => l.length ≠ m.length ∧ P (.bl b) S
    | _, _ => False)
  | _, _ => False
def cmpS (o : CmpOp) (x y : D) (S : Sto) (P : PD) : Prop :=
  match o, x, y with
  | .Lt, .int i, .int j => P (.bl (decide (i < j))) S
  | .LtE, .int i, .int j => P (.bl (decide (i ≤ j))) S
  | .Gt, .int i, .int j => P (.bl (decide (j < i))) S
  | .GtE, .int i, .int j => P (.bl (decide (j ≤ i))) S
  | .Eq, .int i, .int j => P (.bl (decide (i = j))) S
  | .NotEq, .int i, .int j => P (.bl (!decide (i = j))) S
  | .Is, x, .non => P (.bl (isNo x)) S
  | .IsNot, x, .non => P (.bl (!isNo x)) S
  | .Is, .bl a, .bl b => P (.bl (decide (a = b))) S
  | .IsNot, .bl a, .bl b => P (.bl (!decide (a = b))) S
  | .In, x, .tup l => flD x = true ∧ l.all flD = true ∧ P (.bl (inFl x l)) S
  | .NotIn, x, .tup l => flD x = true ∧ l.all flD = true ∧ P (.bl (!inFl x l)) S
  | .Eq, x, y => (match pdS S x, pdS S y with
    | some p, some q => P (.bl (PyData.eqv p q)) S
    | _, _ => lenS false x y S P)
  | .NotEq, x, y => (match pdS S x, pdS S y with
    | some p, some q => P (.bl (!PyData.eqv p q)) S
    | _, _ => lenS true x y S P)
  | .In, x, .ref a => (match pdS S x, pdS S (.ref a) with
    | some p, some (.list ps) => P (.bl (anyEq p ps)) S
    | _, _ => False)
  | .NotIn, x, .ref a => (match pdS S x, pdS S (.ref a) with
    | some p, some (.list ps) => P (.bl (!anyEq p ps)) S
    | _, _ => False)
  | _, _, _ => False
def truB (S : Sto) : D → Option Bool
  | .non => some false
  | .bl b => some b
  | .int i => some (i != 0)
  | .str x => if x.length ≤ sizeLine then some (x.length != 0) else none
  | .tup l => some (!l.isEmpty)
  | .ref a => match S a with
    | some (.lst _ l) => some (!l.isEmpty)
    | _ => none
  | .ty _ => none
def ixS (x i : D) (S : Sto) (P : PD) : Prop :=
  match x, i with
  | .tup l, .int i => (match atI l i with
    | some d => P d S
    | none => False)
  | .ref a, .int i => (match S a with
    | some (.lst _ l) => (match atI l i with
      | some d => P d S
      | none => False)
    | _ => False)
  | .str z, .int i => z.length ≤ sizeLine ∧ (match atI z.cps.toList i with
    | some c => P (.str ⟨#[c]⟩) S
    | none => False)
  | _, _ => False
def cutD (l : List D) (lo hi : Option Int) : List D := (l.drop (HT.sIx l.length 0 lo)).take (HT.sIx l.length l.length hi - HT.sIx l.length 0 lo)
def slS (x : D) (lo hi : Option Int) (S : Sto) (P : PD) : Prop :=
  match x with
  | .ref a => (match S a with
    | some (.lst _ l) => ∀ p, S p = none → P (.ref p) (S.up p (.lst true (cutD l lo hi)))
    | _ => False)
  | .tup l => P (.tup (cutD l lo hi)) S
  | _ => False
/-- t[lo::k] -/
def pickT {α : Type} (l : List α) (lo : Option Int) (k : Int) : List α :=
  (List.range (Builtin.Slice.slicePlaces (Builtin.Slice.sliceAdjust lo none k l.length).1 (Builtin.Slice.sliceAdjust lo none k l.length).2 k)).filterMap fun (m : Nat) => l[((Builtin.Slice.sliceAdjust lo none k l.length).1 + (m : Int) * k).toNat]?
/-- x[lo::k] -/
def stS (x : D) (lo : Option Int) (k : Int) (S : Sto) (P : PD) : Prop :=
  match x with
  | .ref a => lo = none ∧ k = -1 ∧ (match S a with
    | some (.lst _ l) => ∀ p, S p = none → P (.ref p) (S.up p (.lst true l.reverse))
    | _ => False)
  | .tup l => k ≠ 0 ∧ k ≠ 1 ∧ (pickT l lo k).length ≤ sizeLine ∧ P (.tup (pickT l lo k)) S
  | _ => False
/-! ### how they meet the layer's rules -/
def OpAbs (K : PySem.W.Frag) (r : R2) (a : D → D → Sto → PD → Prop) : Prop := ∀ x y S P, a x y S P → ∀ H v w Q, StoOk K H S → Rp K H x v → Rp K H y w → PLe K H P Q → r v w H Q
section
variable {X : Cx} {K : PySem.W.Frag} {H : Hp} {S : Sto}
theorem PLe.now {P : PD} {Q : VK} {d : D} {v : V} (h : PLe K H P Q) (p : P d S) (s : StoOk K H S) (r : Rp K H d v) : Q v H := h d S p v H (Kp.refl H) s r
/-- a list that is read -/
theorem StoOk.rd {a : Addr} {w : Bool} {l : List D} (s : StoOk K H S) (e : S a = some (.lst w l)) : ∃ vs, SqL K H a vs ∧ Rps K H l vs := by
  have q := s a _ e
  cases w with
  | true => obtain ⟨vs, h, r⟩ := q; exact ⟨vs, .inl (.inl h), r⟩
  | false => obtain ⟨o, vs, h, r⟩ := q; exact ⟨vs, .inl (.inr ⟨o, h⟩), r⟩
/-- a new list -/
theorem PLe.newL {P : PD} {Q : VK} {p : Addr} {l : List D} {vs : List V} (h : PLe K H P Q) (s : StoOk K H S) (r : Rps K H l vs) (hp : H p = none) (q : ∀ p, S p = none → P (.ref p) (S.up p (.lst true l))) : Q (.ref p) (upd H p (.lst vs)) :=
  h _ _ (q p (s.free hp)) _ _ (Kp.new hp) (s.new hp ⟨vs, upd_same, Rps.kp (Kp.new hp) _ r⟩) rfl
theorem PLe.newT {P : PD} {Q : VK} {p : Addr} {l : List D} {vs : List V} (h : PLe K H P Q) (s : StoOk K H S) (r : Rps K H l vs) (hp : H p = none) (q : P (.tup l) S) : Q (.ref p) (upd H p (.tup vs)) :=
  h _ _ q _ _ (Kp.new hp) (s.sm (Sm.new hp)) ⟨p, vs, rfl, .inl (.inl upd_same), Rps.kp (Kp.new hp) _ r⟩
theorem op_fdivA : OpR X (binaryOp .FloorDiv) (rI (fun _ j => DivOk j) fun i j => .int (i.fdiv j)) := opI fun i j _ _ _ _ _ hc q => floordiv_int hc.1 q (.inl (PyProof.noPylong_of_log2 hc.2))
theorem op_mulA : OpR X (binaryOp .Mult) (rI IntMulOk fun i j => .int (i * j)) := opI fun _ _ _ _ _ _ _ hc q => mul_int q hc
/-- two lists, read -/
def rCatL (K : PySem.W.Frag) : R2 := fun x y H Q => ∃ l b xs zs, x = .ref l ∧ y = .ref b ∧ SqL K H l xs ∧ SqL K H b zs ∧ xs.length + zs.length ≤ sizeLine ∧ ∀ p, H p = none → Q (.ref p) (upd H p (.lst (xs ++ zs)))
end
section
variable {X : Cx} {K : PySem.W.Frag} {H : Hp} {S : Sto}
theorem op_catL : OpR X (binaryOp .Add) (rCatL X.K) := by
  intro pins s σ H x y v u Q I rx ry h
  obtain ⟨l, b, xs, zs, rfl, rfl, hH, hB, hz, q⟩ := h
  cases rx
  cases ry
  obtain ⟨its, r, ⟨⟨c1, d1, dt1, sl1⟩, n, e, hc, hd, hdt⟩, _⟩ := I.list hH
  obtain ⟨its2, r2, ⟨⟨c2, d2, dt2, sl2⟩, n2, e2, hc2, hd2, hdt2⟩, _⟩ := I.list hB
  simp only at hc hd hdt hc2 hd2 hdt2
  subst hc hd hdt hc2 hd2 hdt2
  have hl := r.length
  have hl2 := r2.length
  have ea : its.toArray ++ its2.toArray = (its ++ its2).toArray := by simp
  refine concat_meets ⟨_, e, rfl⟩ ⟨_, e2, rfl⟩ noFill_list_add seq_list_add PySem.F.slot_list_add PySem.F.entry_list_add (PySem.F.args_list_add_2 _ _) (list_addW l b its.toArray its2.toArray n n2 none none sl1 sl2 (by rw [List.size_toArray, List.size_toArray]; omega)) ⟨e, e2, ?_⟩
  rw [ea]
  exact ⟨.ref _, _, I.lnew (t' := s.toks) (r.append r2) (by rw [List.length_append]; omega), rfl, q _ I.fresh⟩
def rAddA (K : PySem.W.Frag) : R2 := fun x y H Q => rI0 (fun i j => .int (i + j)) x y H Q ∨ (∃ i j, x = .str i ∧ y = .str j ∧ i.length + j.length ≤ sizeLine ∧ Q (.str (i ++ j)) H) ∨ rCatA K x y H Q ∨ rCatL K x y H Q
theorem opr_add : OpR X (binaryOp .Add) (rAddA X.K) := op_add.or (op_add_str.or (op_catA.or op_catL))
theorem Rps.nil_iff {l : List D} {vs : List V} (r : Rps K H l vs) : vs = [] ↔ l = [] := by
  have := r.length
  cases vs <;> cases l <;> simp_all
theorem abs_add : OpAbs K (rAddA K) (opS .Add) := by
  intro x y S P h H v w Q s rx ry pl
  cases x <;> cases y <;> (try exact (show False from h).elim)
  · cases rx; cases ry
    exact .inl ⟨_, _, rfl, rfl, pl.now h s rfl⟩
  · cases rx; cases ry
    exact .inr (.inl ⟨_, _, rfl, rfl, h.1, pl.now h.2 s rfl⟩)
  · rename_i a b
    cases rx; cases ry
    have h' : (match S a, S b with
      | some (.lst _ l), some (.lst _ m) => l.length + m.length ≤ sizeLine ∧ ∀ p, S p = none → P (.ref p) (S.up p (.lst true (l ++ m)))
      | _, _ => False) := h
    split at h'
    · rename_i w1 l w2 m e1 e2
      obtain ⟨vs, q1, r1⟩ := s.rd e1
      obtain ⟨us, q2, r2⟩ := s.rd e2
      have z1 := r1.length
      have z2 := r2.length
      exact .inr (.inr (.inr ⟨a, b, vs, us, rfl, rfl, q1, q2, by omega, fun p hp => pl.newL s (r1.append r2) hp h'.2⟩))
    · exact h'.elim
  · obtain ⟨a, vs, rfl, q1, r1⟩ := rx
    obtain ⟨b, us, rfl, q2, r2⟩ := ry
    obtain ⟨h2, h4⟩ := h
    have z1 := r1.length
    have z2 := r2.length
    refine .inr (.inr (.inl ⟨a, b, vs, us, rfl, rfl, q1, q2, by omega, fun z => ?_, fun _ z => ?_, fun _ _ p hp => pl.newT s (r1.append r2) hp h4⟩))
    · rw [r1.nil_iff.mp z, List.nil_append] at h4
      exact pl.now h4 s ⟨b, us, rfl, q2, r2⟩
    · rw [r2.nil_iff.mp z, List.append_nil] at h4
      exact pl.now h4 s ⟨a, vs, rfl, q1, r1⟩
theorem abs_int {C : Int → Int → Prop} {g : Int → Int → D} {gv : Int → Int → V} (hg : ∀ i j H, Rp K H (g i j) (gv i j)) {a : D → D → Sto → PD → Prop} (ha : ∀ x y S P, a x y S P → ∃ i j, x = .int i ∧ y = .int j ∧ C i j ∧ P (g i j) S) : OpAbs K (rI C gv) a := by
  intro x y S P h H v w Q s rx ry pl
  obtain ⟨i, j, rfl, rfl, c, q⟩ := ha x y S P h
  cases rx; cases ry
  exact ⟨i, j, rfl, rfl, c, pl.now q s (hg i j H)⟩
theorem abs_int0 {g : Int → Int → D} {gv : Int → Int → V} (hg : ∀ i j H, Rp K H (g i j) (gv i j)) {a : D → D → Sto → PD → Prop} (ha : ∀ x y S P, a x y S P → ∃ i j, x = .int i ∧ y = .int j ∧ P (g i j) S) : OpAbs K (rI0 gv) a := by
  intro x y S P h H v w Q s rx ry pl
  obtain ⟨i, j, rfl, rfl, q⟩ := ha x y S P h
  cases rx; cases ry
  exact ⟨i, j, rfl, rfl, pl.now q s (hg i j H)⟩
theorem Rps.rep {l : List D} {vs : List V} (r : Rps K H l vs) : ∀ n, Rps K H (List.replicate n l).flatten (List.replicate n vs).flatten
  | 0 => rfl
  | n + 1 => by
    rw [List.replicate_succ, List.replicate_succ, List.flatten_cons, List.flatten_cons]
    exact r.append (Rps.rep r n)
theorem abs_mul : OpAbs K (fun x y H Q => rI IntMulOk (fun i j => .int (i * j)) x y H Q ∨ rRep x y H Q) (opS .Mult) := by
  intro x y S P h H v w Q s rx ry pl
  cases x <;> cases y <;> (try exact (show False from h).elim)
  · cases rx; cases ry
    exact .inl ⟨_, _, rfl, rfl, h.1, pl.now h.2 s rfl⟩
  · rename_i a k
    cases rx; cases ry
    have h' : (match S a with
      | some (.lst true l) => (-(2 ^ 63) ≤ k ∧ k < 2 ^ 63 ∧ l.length * k.toNat ≤ sizeLine) ∧ ∀ p, S p = none → P (.ref p) (S.up p (.lst true (List.replicate k.toNat l).flatten))
      | _ => False) := h
    split at h'
    · rename_i l e1
      obtain ⟨vs, q1, r1⟩ := s a _ e1
      have z1 := r1.length
      exact .inr ⟨a, k, vs, rfl, rfl, q1, h'.1.1, h'.1.2.1, by rw [z1]; exact h'.1.2.2, fun p hp => pl.newL s (r1.rep _) hp h'.2⟩
    · exact h'.elim
/-- every operator that opS serves -/
theorem op_all (o : Operator) : ∃ r, OpR X (binaryOp o) r ∧ OpAbs X.K r (opS o) := by
  cases o
  case Add => exact ⟨_, opr_add, abs_add⟩
  case Sub => exact ⟨_, op_sub, abs_int0 (g := fun i j => .int (i - j)) (fun _ _ _ => rfl) fun x y S P h => by cases x <;> cases y <;> first | exact (show False from h).elim | exact ⟨_, _, rfl, rfl, h⟩⟩
  case Mult => exact ⟨_, op_mulA.or op_rep, abs_mul⟩
  case FloorDiv => exact ⟨_, op_fdivA, abs_int (g := fun i j => .int (i.fdiv j)) (fun _ _ _ => rfl) fun x y S P h => by cases x <;> cases y <;> first | exact (show False from h).elim | exact ⟨_, _, rfl, rfl, h⟩⟩
  case Mod => exact ⟨_, op_modN, abs_int (g := fun i j => .int (i.fmod j)) (fun _ _ _ => rfl) fun x y S P h => by cases x <;> cases y <;> first | exact (show False from h).elim | exact ⟨_, _, rfl, rfl, h⟩⟩
  case Pow => exact ⟨_, op_pow, abs_int (g := fun i j => .int (i ^ j.toNat)) (fun _ _ _ => rfl) fun x y S P h => by cases x <;> cases y <;> first | exact (show False from h).elim | exact ⟨_, _, rfl, rfl, h⟩⟩
  all_goals exact ⟨fun _ _ _ _ => False, fun _ _ _ _ _ _ _ _ _ _ _ _ h => h.elim, fun x y S P h => (show False from by cases x <;> cases y <;> exact h).elim⟩
end
/-! ### == over the store -/
section
variable {K : PySem.W.Frag} {H : Hp} {S : Sto}
mutual
theorem pdW_dp {g : Addr → Option PyData} (hg : ∀ a p, g a = some p → Dp K H (.ref a) p) : ∀ (d : D) (n : Nat) (v : V) (p : PyData), pdW g n d = some p → Rp K H d v → Dp K H v p
  | .non, _, _, _, e, r => by cases r; simp only [pdW, Option.some.injEq] at e; subst e; exact .non
  | .bl b, _, _, _, e, r => by cases r; simp only [pdW, Option.some.injEq] at e; subst e; exact .bl b
  | .int i, _, _, _, e, r => by cases r; simp only [pdW, Option.some.injEq] at e; subst e; exact .int i
  | .str x, _, _, _, e, r => by
    cases r; simp only [pdW] at e
    split at e
    · simp only [Option.some.injEq] at e; subst e; exact .str x
    · cases e
  | .ty _, _, _, _, e, _ => by simp [pdW] at e
  | .ref a, _, _, _, e, r => by cases r; simp only [pdW] at e; exact hg a _ e
  | .tup l, 0, _, _, e, _ => by simp [pdW] at e
  | .tup l, n + 1, _, _, e, r => by
    simp only [pdW] at e
    obtain ⟨a, vs, rfl, q, rs⟩ := r
    cases z : pdWs g n l with
    | none => rw [z] at e; cases e
    | some ps =>
      rw [z] at e
      simp only [Option.some.injEq] at e
      subst e
      exact .tup q (pdWs_dp hg l n vs ps z rs)
theorem pdWs_dp {g : Addr → Option PyData} (hg : ∀ a p, g a = some p → Dp K H (.ref a) p) : ∀ (ds : List D) (n : Nat) (vs : List V) (ps : List PyData), pdWs g n ds = some ps → Rps K H ds vs → DpAll K H vs ps
  | [], _, _, _, e, r => by rw [show _ = _ from r]; simp only [pdWs, Option.some.injEq] at e; subst e; exact .nil
  | d :: ds, n, _, _, e, r => by
    obtain ⟨v, vr, rfl, r1, r2⟩ := r
    simp only [pdWs] at e
    cases z1 : pdW g n d with
    | none => rw [z1] at e; simp at e
    | some p =>
      cases z2 : pdWs g n ds with
      | none => rw [z1, z2] at e; simp at e
      | some ps =>
        rw [z1, z2] at e
        simp only [Option.some.injEq] at e
        subst e
        exact .cons (pdW_dp hg d n v p z1 r1) (pdWs_dp hg ds n vr ps z2 r2)
end
theorem gL_dp (s : StoOk K H S) : ∀ (n : Nat) (a : Addr) (p : PyData), gL S n a = some p → Dp K H (.ref a) p
  | 0, _, _, e => by simp [gL] at e
  | n + 1, a, p, e => by
    simp only [gL] at e
    cases q : S a with
    | none => rw [q] at e; cases e
    | some o =>
      rw [q] at e
      cases o with
      | exc k f => cases e
      | lst w l =>
        dsimp only at e
        cases z : pdWs (gL S n) 12 l with
        | none => rw [z] at e; cases e
        | some ps =>
          rw [z] at e
          simp only [Option.some.injEq] at e
          subst e
          obtain ⟨vs, q1, r1⟩ := s.rd q
          exact .lst q1 (pdWs_dp (gL_dp s n) l 12 vs ps z r1)
mutual
theorem pdW_sh {g : Addr → Option PyData} {m : Nat} (hg : ∀ a p, g a = some p → p.canLay0 = true ∧ p.depth ≤ m) : ∀ (d : D) (n : Nat) (p : PyData), pdW g n d = some p → p.canLay0 = true ∧ p.depth ≤ n + m
  | .non, _, _, e => by simp only [pdW, Option.some.injEq] at e; subst e; simp [PyData.canLay0, PyData.depth]
  | .bl b, _, _, e => by simp only [pdW, Option.some.injEq] at e; subst e; simp [PyData.canLay0, PyData.depth]
  | .int i, _, _, e => by simp only [pdW, Option.some.injEq] at e; subst e; simp [PyData.canLay0, PyData.depth]
  | .str x, _, _, e => by
    simp only [pdW] at e
    split at e
    · rename_i hs
      simp only [Option.some.injEq] at e; subst e; simp [PyData.canLay0, PyData.depth, hs]
    · cases e
  | .ty _, _, _, e => by simp [pdW] at e
  | .ref a, n, p, e => by
    simp only [pdW] at e
    have := hg a p e
    exact ⟨this.1, by omega⟩
  | .tup l, 0, _, e => by simp [pdW] at e
  | .tup l, n + 1, _, e => by
    simp only [pdW] at e
    cases z : pdWs g n l with
    | none => rw [z] at e; cases e
    | some ps =>
      rw [z] at e
      simp only [Option.some.injEq] at e
      subst e
      have q := pdWs_sh hg l n ps z
      exact ⟨by simp only [PyData.canLay0]; exact q.1, by simp only [PyData.depth]; omega⟩
theorem pdWs_sh {g : Addr → Option PyData} {m : Nat} (hg : ∀ a p, g a = some p → p.canLay0 = true ∧ p.depth ≤ m) : ∀ (ds : List D) (n : Nat) (ps : List PyData), pdWs g n ds = some ps → PyData.canLayAll0 ps = true ∧ PyData.depthAll ps ≤ n + m
  | [], _, _, e => by simp only [pdWs, Option.some.injEq] at e; subst e; simp [PyData.canLayAll0, PyData.depthAll]
  | d :: ds, n, _, e => by
    simp only [pdWs] at e
    cases z1 : pdW g n d with
    | none => rw [z1] at e; simp at e
    | some p =>
      cases z2 : pdWs g n ds with
      | none => rw [z1, z2] at e; simp at e
      | some ps =>
        rw [z1, z2] at e
        simp only [Option.some.injEq] at e
        subst e
        have q1 := pdW_sh hg d n p z1
        have q2 := pdWs_sh hg ds n ps z2
        refine ⟨by simp [PyData.canLayAll0, q1.1, q2.1], ?_⟩
        simp only [PyData.depthAll]
        omega
end
theorem gL_sh : ∀ (n : Nat) (a : Addr) (p : PyData), gL S n a = some p → p.canLay0 = true ∧ p.depth ≤ 13 * n
  | 0, _, _, e => by simp [gL] at e
  | n + 1, a, p, e => by
    simp only [gL] at e
    cases q : S a with
    | none => rw [q] at e; cases e
    | some o =>
      rw [q] at e
      cases o with
      | exc k f => cases e
      | lst w l =>
        dsimp only at e
        cases z : pdWs (gL S n) 12 l with
        | none => rw [z] at e; cases e
        | some ps =>
          rw [z] at e
          simp only [Option.some.injEq] at e
          subst e
          have q := pdWs_sh (gL_sh n) l 12 ps z
          exact ⟨by simp only [PyData.canLay0]; exact q.1, by simp only [PyData.depth]; omega⟩
theorem pdS_dp (s : StoOk K H S) {d : D} {v : V} {p : PyData} (e : pdS S d = some p) (r : Rp K H d v) : Dp K H v p := pdW_dp (gL_dp s 3) d 12 v p e r
theorem pdS_sh {d : D} {p : PyData} (e : pdS S d = some p) : SeqAt.shaped p = true := by
  have q := pdW_sh (m := 39) (fun a p e => by have := gL_sh 3 a p e; exact ⟨this.1, by omega⟩) d 12 p e
  unfold SeqAt.shaped
  rw [q.1, Bool.true_and]
  exact decide_eq_true (by omega)
end
end Sd
namespace Sd
open PySem PySem.Spec PyProof.Rows L2
section
variable {X : Cx} {K : PySem.W.Frag} {H : Hp} {S : Sto}
theorem abs_or {r r' : R2} {a : D → D → Sto → PD → Prop} (h : ∀ x y S P, a x y S P → ∀ H v w Q, StoOk K H S → Rp K H x v → Rp K H y w → PLe K H P Q → r v w H Q ∨ r' v w H Q) : OpAbs K (fun x y H Q => r x y H Q ∨ r' x y H Q) a := h
theorem eq_pd {x y : D} {P : PD} {f : Bool → Bool} {k : Bool} (h : match pdS S x, pdS S y with
    | some p, some q => P (.bl (f (PyData.eqv p q))) S
    | _, _ => lenS k x y S P) : (∃ p q, pdS S x = some p ∧ pdS S y = some q ∧ P (.bl (f (PyData.eqv p q))) S) ∨ lenS k x y S P := by
  split at h
  · rename_i p q e1 e2
    exact .inl ⟨p, q, e1, e2, h⟩
  · exact .inr h
theorem cmpS_eq {x y : D} {P : PD} (h : cmpS .Eq x y S P) : (∃ p q, pdS S x = some p ∧ pdS S y = some q ∧ P (.bl (PyData.eqv p q)) S) ∨ lenS false x y S P := by
  by_cases hi : ∃ i j, x = .int i ∧ y = .int j
  · obtain ⟨i, j, rfl, rfl⟩ := hi
    have h' : P (.bl (decide (i = j))) S := h
    refine .inl ⟨.int i, .int j, rfl, rfl, ?_⟩
    have e : PyData.eqv (.int i) (.int j) = decide (i = j) := by
      simp only [PyData.eqv]
      by_cases z : i = j <;> simp [z]
    rw [e]; exact h'
  · have h' : match pdS S x, pdS S y with
      | some p, some q => P (.bl (PyData.eqv p q)) S
      | _, _ => lenS false x y S P := by
      cases x <;> cases y <;> first | exact h | exact (hi ⟨_, _, rfl, rfl⟩).elim
    exact eq_pd (f := id) h'
theorem cmpS_ne {x y : D} {P : PD} (h : cmpS .NotEq x y S P) : (∃ p q, pdS S x = some p ∧ pdS S y = some q ∧ P (.bl (!PyData.eqv p q)) S) ∨ lenS true x y S P := by
  by_cases hi : ∃ i j, x = .int i ∧ y = .int j
  · obtain ⟨i, j, rfl, rfl⟩ := hi
    have h' : P (.bl (!decide (i = j))) S := h
    refine .inl ⟨.int i, .int j, rfl, rfl, ?_⟩
    have e : PyData.eqv (.int i) (.int j) = decide (i = j) := by
      simp only [PyData.eqv]
      by_cases z : i = j <;> simp [z]
    rw [e]; exact h'
  · have h' : match pdS S x, pdS S y with
      | some p, some q => P (.bl (!PyData.eqv p q)) S
      | _, _ => lenS true x y S P := by
      cases x <;> cases y <;> first | exact h | exact (hi ⟨_, _, rfl, rfl⟩).elim
    exact eq_pd (f := fun b => !b) h'
/-- lists of unlike lengths, held against each other -/
def rLenE (K : PySem.W.Frag) (b : Bool) : R2 := fun x y H Q => ∃ l c xs ys, x = .ref l ∧ y = .ref c ∧ SqL K H l xs ∧ SqL K H c ys ∧ xs.length ≠ ys.length ∧ Q (.bl b) H
theorem op_lenEq (hu : X.A.units < cLine) : OpR X (compareOp .Eq) (rLenE X.K false) := by
  intro pins s σ H x y v u Q I rx ry h
  obtain ⟨l, c, xs, ys, rfl, rfl, h1, h2, hn, q⟩ := h
  cases rx
  cases ry
  obtain ⟨its, r1, p1, _⟩ := I.list h1
  obtain ⟨its2, r2, p2, _⟩ := I.list h2
  refine SeqAt.RcAt.lists_lengths p1.isList p2.isList ?_ hu _ _ _ _ ⟨.bl false, H, I, rfl, q⟩
  rw [List.size_toArray, List.size_toArray, ← r1.length, ← r2.length]
  exact bne_iff_ne.mpr hn
theorem op_lenNe (hu : X.A.units < cLine) : OpR X (compareOp .NotEq) (rLenE X.K true) := by
  intro pins s σ H x y v u Q I rx ry h
  obtain ⟨l, c, xs, ys, rfl, rfl, h1, h2, hn, q⟩ := h
  cases rx
  cases ry
  obtain ⟨its, r1, p1, _⟩ := I.list h1
  obtain ⟨its2, r2, p2, _⟩ := I.list h2
  refine SeqAt.RcNeAt.lists_lengths p1.isList p2.isList ?_ hu _ _ _ _ ⟨.bl true, H, I, rfl, q⟩
  rw [List.size_toArray, List.size_toArray, ← r1.length, ← r2.length]
  exact bne_iff_ne.mpr hn
theorem len_abs {x y : D} {P : PD} {Q : VK} {v w : V} {b : Bool} (h : lenS b x y S P) (s : StoOk K H S) (rx : Rp K H x v) (ry : Rp K H y w) (pl : PLe K H P Q) : rLenE K b v w H Q := by
  cases x <;> (try exact (show False from h).elim)
  cases y <;> (try exact (show False from h).elim)
  rename_i a c
  cases rx
  cases ry
  have h' : (match S a, S c with
    | some (.lst _ l), some (.lst _ m) => l.length ≠ m.length ∧ P (.bl b) S
    | _, _ => False) := h
  split at h'
  · rename_i w1 l w2 m e1 e2
    obtain ⟨vs, q1, r1⟩ := s.rd e1
    obtain ⟨us, q2, r2⟩ := s.rd e2
    exact ⟨a, c, vs, us, rfl, rfl, q1, q2, by rw [r1.length, r2.length]; exact h'.1, pl.now h'.2 s rfl⟩
  · exact h'.elim
theorem rp_non {d : D} {v : V} (r : Rp K H d v) : decide (v = .non) = isNo d := by
  cases d with
  | non => cases r; rfl
  | tup l => obtain ⟨a, vs, rfl, _⟩ := r; rfl
  | _ => cases r; rfl
/-- the value of flat data -/
def flVal : D → V
  | .bl b => .bl b
  | .int i => .int i
  | .str s => .str s
  | _ => .non
theorem fl_rp {d : D} {v : V} (r : Rp K H d v) (h : flD d = true) : v = flVal d ∧ flatV v = true := by
  cases d <;> (try (cases h; done)) <;> (cases r; exact ⟨rfl, rfl⟩)
theorem fl_rps : ∀ {l : List D} {vs : List V}, Rps K H l vs → l.all flD = true → vs = l.map flVal ∧ vs.all flatV = true
  | [], vs, r, _ => by
    cases (show vs = [] from r)
    exact ⟨rfl, rfl⟩
  | d :: l, vs, r, h => by
    obtain ⟨v, vr, rfl, r1, r2⟩ := r
    rw [List.all_cons, Bool.and_eq_true] at h
    obtain ⟨e1, f1⟩ := fl_rp r1 h.1
    obtain ⟨e2, f2⟩ := fl_rps r2 h.2
    exact ⟨by rw [e1, e2]; rfl, by rw [List.all_cons, f1, f2]; rfl⟩
theorem eq_fl {d e : D} (h1 : flD d = true) (h2 : flD e = true) : eqV (flVal d) (flVal e) = eqFl d e := by
  cases d <;> (try (cases h1; done)) <;> cases e <;> (try (cases h2; done)) <;> rfl
theorem in_fl {x : D} (hx : flD x = true) : ∀ {l : List D}, l.all flD = true → inV (flVal x) (l.map flVal) = inFl x l
  | [], _ => rfl
  | d :: l, h => by
    rw [List.all_cons, Bool.and_eq_true] at h
    have ih := in_fl hx h.2
    unfold inV inFl at ih ⊢
    rw [List.map_cons, List.any_cons, List.any_cons, ih, eq_fl h.1 hx]
theorem cmp_all (hu : X.A.units + 65 < cLine) (o : CmpOp) : ∃ r, OpR X (compareOp o) r ∧ OpAbs X.K r (cmpS o) := by
  cases o
  case Lt => exact ⟨_, op_lt, abs_int0 (g := fun i j => .bl (decide (i < j))) (fun _ _ _ => rfl) fun x y S P h => by cases x <;> cases y <;> first | exact (show False from h).elim | exact ⟨_, _, rfl, rfl, h⟩⟩
  case LtE => exact ⟨_, op_le, abs_int0 (g := fun i j => .bl (decide (i ≤ j))) (fun _ _ _ => rfl) fun x y S P h => by cases x <;> cases y <;> first | exact (show False from h).elim | exact ⟨_, _, rfl, rfl, h⟩⟩
  case Gt => exact ⟨_, op_gt, abs_int0 (g := fun i j => .bl (decide (j < i))) (fun _ _ _ => rfl) fun x y S P h => by cases x <;> cases y <;> first | exact (show False from h).elim | exact ⟨_, _, rfl, rfl, h⟩⟩
  case GtE => exact ⟨_, op_ge, abs_int0 (g := fun i j => .bl (decide (j ≤ i))) (fun _ _ _ => rfl) fun x y S P h => by cases x <;> cases y <;> first | exact (show False from h).elim | exact ⟨_, _, rfl, rfl, h⟩⟩
  case Eq =>
    refine ⟨_, (op_eqD (by omega)).or (op_lenEq (by omega)), fun x y S P h H v w Q s rx ry pl => ?_⟩
    rcases cmpS_eq h with ⟨p, q, e1, e2, h⟩ | h
    · exact .inl ⟨p, q, pdS_dp s e1 rx, pdS_dp s e2 ry, pdS_sh e1, pdS_sh e2, pl.now h s rfl⟩
    · exact .inr (len_abs h s rx ry pl)
  case NotEq =>
    refine ⟨_, (op_neD (by omega)).or (op_lenNe (by omega)), fun x y S P h H v w Q s rx ry pl => ?_⟩
    rcases cmpS_ne h with ⟨p, q, e1, e2, h⟩ | h
    · exact .inl ⟨p, q, pdS_dp s e1 rx, pdS_dp s e2 ry, pdS_sh e1, pdS_sh e2, pl.now h s rfl⟩
    · exact .inr (len_abs h s rx ry pl)
  case Is =>
    refine ⟨_, op_isN.or op_isBl, fun x y S P h H v w Q s rx ry pl => ?_⟩
    cases y <;> (try (cases x <;> exact (show False from h).elim))
    · cases ry
      have h' : P (.bl (isNo x)) S := by cases x <;> exact h
      exact .inl ⟨rfl, by rw [rp_non rx]; exact pl.now h' s rfl⟩
    · cases x <;> (try exact (show False from h).elim)
      cases rx; cases ry
      exact .inr ⟨_, _, rfl, rfl, pl.now h s rfl⟩
  case IsNot =>
    refine ⟨_, op_notN.or op_notBl, fun x y S P h H v w Q s rx ry pl => ?_⟩
    cases y <;> (try (cases x <;> exact (show False from h).elim))
    · cases ry
      have h' : P (.bl (!isNo x)) S := by cases x <;> exact h
      exact .inl ⟨rfl, by rw [rp_non rx]; exact pl.now h' s rfl⟩
    · cases x <;> (try exact (show False from h).elim)
      cases rx; cases ry
      exact .inr ⟨_, _, rfl, rfl, pl.now h s rfl⟩
  case In =>
    refine ⟨_, (op_inD hu).or op_in_seq, fun x y S P h H v w Q s rx ry pl => ?_⟩
    cases y <;> (try (cases x <;> exact (show False from h).elim))
    · rename_i a
      have h' : match pdS S x, pdS S (.ref a) with
        | some p, some (.list ps) => P (.bl (anyEq p ps)) S
        | _, _ => False := by cases x <;> exact h
      split at h'
      · rename_i p ps e1 e2
        exact .inl ⟨p, ps, pdS_dp s e1 rx, pdS_dp s e2 ry, pdS_sh e1, pdS_sh e2, pl.now h' s rfl⟩
      · exact h'.elim
    · rename_i l
      obtain ⟨h1, h2, h3⟩ : flD x = true ∧ l.all flD = true ∧ P (.bl (inFl x l)) S := by cases x <;> exact h
      obtain ⟨p, vs, rfl, q, rs⟩ := ry
      obtain ⟨e1, f1⟩ := fl_rp rx h1
      obtain ⟨e2, f2⟩ := fl_rps rs h2
      refine .inr ⟨p, vs, rfl, .inr q, f1, f2, ?_⟩
      rw [e1, e2, in_fl h1 h2]
      exact pl.now h3 s rfl
  case NotIn =>
    refine ⟨_, (op_notInD hu).or op_notIn_seq, fun x y S P h H v w Q s rx ry pl => ?_⟩
    cases y <;> (try (cases x <;> exact (show False from h).elim))
    · rename_i a
      have h' : match pdS S x, pdS S (.ref a) with
        | some p, some (.list ps) => P (.bl (!anyEq p ps)) S
        | _, _ => False := by cases x <;> exact h
      split at h'
      · rename_i p ps e1 e2
        exact .inl ⟨p, ps, pdS_dp s e1 rx, pdS_dp s e2 ry, pdS_sh e1, pdS_sh e2, pl.now h' s rfl⟩
      · exact h'.elim
    · rename_i l
      obtain ⟨h1, h2, h3⟩ : flD x = true ∧ l.all flD = true ∧ P (.bl (!inFl x l)) S := by cases x <;> exact h
      obtain ⟨p, vs, rfl, q, rs⟩ := ry
      obtain ⟨e1, f1⟩ := fl_rp rx h1
      obtain ⟨e2, f2⟩ := fl_rps rs h2
      refine .inr ⟨p, vs, rfl, .inr q, f1, f2, ?_⟩
      rw [e1, e2, in_fl h1 h2]
      exact pl.now h3 s rfl
theorem tru_abs {d : D} {v : V} {b : Bool} (s : StoOk K H S) (r : Rp K H d v) (e : truB S d = some b) : TruV K v H b := by
  cases d with
  | non => cases r; exact (Option.some.inj e).symm
  | bl c => cases r; exact (Option.some.inj e).symm
  | int i => cases r; exact (Option.some.inj e).symm
  | str x =>
    cases r
    simp only [truB] at e
    split at e
    · rename_i hx
      have e' := Option.some.inj e
      refine ⟨hx, ?_⟩
      rw [← e']
      cases x.length with
      | zero => rfl
      | succ n => simp [bne]; omega
    · cases e
  | tup l =>
    obtain ⟨a, vs, rfl, q, rs⟩ := r
    refine .inr (.inl ⟨vs, q, ?_⟩)
    rw [← Option.some.inj e]
    have := rs.length
    cases l <;> cases vs <;> simp_all
  | ref a =>
    cases r
    simp only [truB] at e
    cases q : S a with
    | none => rw [q] at e; cases e
    | some o =>
      rw [q] at e
      cases o with
      | exc k f => cases e
      | lst w l =>
        obtain ⟨vs, q1, r1⟩ := s.rd q
        refine .inl ⟨vs, q1, ?_⟩
        rw [← Option.some.inj e]
        have := r1.length
        cases l <;> cases vs <;> simp_all
  | ty n => cases e
theorem atI_rps {l : List D} {vs : List V} {i : Int} {d : D} (r : Rps K H l vs) (e : atI l i = some d) : ∃ v, atI vs i = some v ∧ Rp K H d v := by
  have hl := r.length
  unfold atI at e ⊢
  rw [hl]
  cases q : ixN l.length i with
  | none => rw [q] at e; cases e
  | some j =>
    rw [q] at e
    have e' : l[j]? = some d := e
    obtain ⟨v, h1, h2⟩ := r.get e'
    exact ⟨v, h1, h2⟩
theorem ix_abs : OpAbs K (rIx K) ixS := by
  intro x y S P h H v w Q s rx ry pl
  cases x <;> cases y <;> (try exact (show False from h).elim)
  · rename_i z i
    cases rx; cases ry
    obtain ⟨h1, h2⟩ := (show z.length ≤ sizeLine ∧ (match atI z.cps.toList i with
      | some c => P (.str ⟨#[c]⟩) S
      | none => False) from h)
    split at h2
    · rename_i c e
      exact .inr (.inr ⟨z, i, c, rfl, rfl, h1, e, pl.now h2 s rfl⟩)
    · exact h2.elim
  · rename_i a i
    cases rx; cases ry
    have h' : (match S a with
      | some (.lst _ l) => (match atI l i with
        | some d => P d S
        | none => False)
      | _ => False) := h
    split at h'
    · rename_i w1 l e
      obtain ⟨vs, q1, r1⟩ := s.rd e
      split at h'
      · rename_i d e2
        obtain ⟨u, e3, r3⟩ := atI_rps r1 e2
        exact .inl ⟨a, vs, i, u, rfl, rfl, q1, e3, pl.now h' s r3⟩
      · exact h'.elim
    · exact h'.elim
  · rename_i l i
    cases ry
    obtain ⟨a, vs, rfl, q1, r1⟩ := rx
    have h' : (match atI l i with
      | some d => P d S
      | none => False) := h
    split at h'
    · rename_i d e2
      obtain ⟨u, e3, r3⟩ := atI_rps r1 e2
      exact .inr (.inl ⟨a, vs, i, u, rfl, rfl, q1, e3, pl.now h' s r3⟩)
    · exact h'.elim
theorem cut_rps {l : List D} {vs : List V} (r : Rps K H l vs) (lo hi : Option Int) : Rps K H (cutD l lo hi) (cutV vs lo hi) := by
  unfold cutD cutV
  rw [r.length]
  exact (r.drop _).take _
end
end Sd
namespace Sd
open PySem PySem.Spec PyProof.Rows L2
/-- built-in functions by values -/
inductive BI where
  | abs | len | int | min2 | max2 | min1 | max1 | sum | all | any | list | tuple | str | sorted
  deriving DecidableEq
/-- classes that isinstance asks: a built-in one, one of the text's -/
inductive TyN where
  | bt (n : String)
  | cl (k : Nat)
  deriving DecidableEq
/-- methods of lists -/
inductive ME where
  | append | pop0 | pop1 | reverse | clear | extend | insert
  deriving DecidableEq
mutual
/-- expressions -/
inductive X where
  | var (i : Nat)
  | c (d : D)
  | g (k : Nat)
  | op (o : Operator) (a b : X)
  | cmp (o : CmpOp) (a b : X)
  | chain (o o' : CmpOp) (a b c : X)
  | neg (a : X)
  | no (a : X)
  | an (a b : X)
  | ro (a b : X)
  | ite (t a b : X)
  | tp (es : List X)
  | ls (es : List X)
  | ix (a i : X)
  | sl (a lo hi : X)
  | st (a : X) (lo : Option Int) (k : Int)
  | aI (a : X)
  | fn (k : Nat) (es : List X)
  | bi (b : BI) (es : List X)
  | isi (a : X) (ts : List TyN)
  | me (m : ME) (o : X) (es : List X)
  | fld (f : Str) (o : X)
  | sz (a : X)
  | lc (e : X) (t : T) (it : I) (cond : X) (own : List Nat)
/-- targets -/
inductive T where
  | nm (i : Nat)
  | tp (ts : List T)
  | ix (o i : X)
/-- what is walked -/
inductive I where
  | e (x : X)
  | rng1 (b : X)
  | rng2 (a b : X)
  | zip (a b : X)
end
/-- statements -/
inductive Z where
  | asg (t : T) (e : X)
  | aug (i : Nat) (o : Operator) (e : X)
  | ex (e : X)
  | ret (e : X)
  | iff (t : X) (a b : List Z)
  | whl (t : X) (b : List Z)
  | for_ (t : T) (it : I) (b : List Z)
  | rz (k : Nat)
  | rzf (k : Nat) (e : X)
  | tr (b : List Z) (k n y : Nat)
  | tr2 (b : List Z) (k n y z : Nat)
  | tr3 (b : List Z) (k n y z : Nat) (t : Str)
  | pass | cont | brk
/-- the contracts of the text's defs (by number; how many arguments), the module's constants -/
structure Gam where
  ar : Nat → Nat
  fn : Nat → Con
  cst : Nat → Option D
/-! ### semantics -/
def lk : DSt → Nat → Option D
  | [], _ => none
  | d :: _, 0 => d
  | _ :: r, i + 1 => lk r i
def intL : List D → Option (List Int)
  | [] => some []
  | .int i :: r => (match intL r with
    | some l => some (i :: l)
    | none => none)
  | _ => none
def boolL : List D → Option (List Bool)
  | [] => some []
  | .bl b :: r => (match boolL r with
    | some l => some (b :: l)
    | none => none)
  | _ => none
/-- a sequence: a list's or a tuple's items -/
def seqD (S : Sto) : D → Option (List D)
  | .tup l => some l
  | .ref a => (match S a with
    | some (.lst _ l) => some l
    | _ => none)
  | _ => none
def lstD (S : Sto) : D → Option (List D)
  | .ref a => (match S a with
    | some (.lst _ l) => some l
    | _ => none)
  | _ => none
def biS (b : BI) (ds : List D) (S : Sto) (P : PD) : Prop :=
  match b, ds with
  | .abs, [.int i] => P (.int (if i < 0 then -i else i)) S
  | .int, [.int i] => P (.int i) S
  | .int, [.bl k] => P (.int (if k then 1 else 0)) S
  | .len, [d] => (match seqD S d with
    | some l => P (.int l.length) S
    | none => (match d with
      | .str z => z.length ≤ sizeLine ∧ P (.int z.length) S
      | _ => False))
  | .min2, [.int i, .int j] => P (.int (if j < i then j else i)) S
  | .max2, [.int i, .int j] => P (.int (if j > i then j else i)) S
  | .sum, [d] => (match lstD S d with
    | some l => (match intL l with
      | some ns => P (.int ns.sum) S
      | none => False)
    | none => False)
  | .min1, [d] => (match lstD S d with
    | some l => (match intL l with
      | some ns => 0 < ns.length ∧ ∀ m, m ∈ ns → (∀ y, y ∈ ns → m ≤ y) → P (.int m) S
      | none => False)
    | none => False)
  | .max1, [d] => (match lstD S d with
    | some l => (match intL l with
      | some ns => 0 < ns.length ∧ ∀ m, m ∈ ns → (∀ y, y ∈ ns → y ≤ m) → P (.int m) S
      | none => False)
    | none => False)
  | .all, [d] => (match lstD S d with
    | some l => (match boolL l with
      | some bs => P (.bl (bs.all id)) S
      | none => False)
    | none => False)
  | .any, [d] => (match lstD S d with
    | some l => (match boolL l with
      | some bs => P (.bl (bs.any id)) S
      | none => False)
    | none => False)
  | .list, [d] => (match seqD S d with
    | some l => ∀ p, S p = none → P (.ref p) (S.up p (.lst true l))
    | none => False)
  | .tuple, [d] => (match seqD S d with
    | some l => P (.tup l) S
    | none => False)
  | .str, [.int i] => i.natAbs.log2 < 1920 ∧ P (.str (toString i)) S
  | .sorted, [d] => (match lstD S d with
    | some l => (match intL l with
      | some ns => ∀ (ns' : List Int) (p : Addr), ns'.Perm ns → ns'.Pairwise (· ≤ ·) → S p = none → P (.ref p) (S.up p (.lst true (ns'.map D.int)))
      | none => False)
    | none => False)
  | _, _ => False
/-- how many unlike ints -/
def lensS (d : D) (S : Sto) (P : PD) : Prop := match lstD S d with
  | some l => (match intL l with
    | some ns => ns.length ≤ 4000 ∧ ∀ ks : List Int, ks.Nodup → (∀ i, i ∈ ks ↔ i ∈ ns) → P (.int ks.length) S
    | none => False)
  | none => False
/-- a list of one's own -/
def isL (S : Sto) : D → Prop
  | .ref a => (match S a with
    | some (.lst true _) => True
    | _ => False)
  | _ => False
def meS (m : ME) (o : D) (ds : List D) (S : Sto) (P : PD) : Prop :=
  match o with
  | .ref a => (match S a with
    | some (.lst true l) => (match m, ds with
      | .append, [y] => l.length < sizeLine ∧ P .non (S.up a (.lst true (l ++ [y])))
      | .pop0, [] => (match l[l.length - 1]? with
        | some y => P y (S.up a (.lst true l.dropLast))
        | none => False)
      | .reverse, [] => P .non (S.up a (.lst true l.reverse))
      | .clear, [] => P .non (S.up a (.lst true []))
      | .insert, [.int i, y] => l.length < sizeLine ∧ 0 ≤ i ∧ i < 2 ^ 63 ∧ P .non (S.up a (.lst true (l.take i.toNat ++ [y] ++ l.drop i.toNat)))
      | .extend, [.ref b] => (match S b with
        | some (.lst true m) => l.length + m.length ≤ sizeLine ∧ P .non (S.up a (.lst true (l ++ m)))
        | _ => False)
      | _, _ => False)
    | _ => False)
  | _ => False
/-- the kinds of errors and data -/
def btOf (S : Sto) : D → Option String
  | .non => some "NoneType"
  | .bl _ => some "bool"
  | .int _ => some "int"
  | .str _ => some "str"
  | .tup _ => some "tuple"
  | .ref a => (match S a with
    | some (.lst _ _) => some "list"
    | _ => none)
  | .ty _ => none
/-- what isinstance tells of built-in kinds -/
def btSub (t n : String) : Bool := t == n || (t == "bool" && n == "int")
def isiOne (S : Sto) (d : D) (t : TyN) : Option Bool :=
  match btOf S d with
  | some b => (match t with
    | .bt n => some (btSub b n)
    | .cl _ => some false)
  | none => (match d with
    | .ref a => (match S a with
      | some (.exc k _) => (match t with
        | .bt n => some (n == "ValueError")
        | .cl j => some (subK k j))
      | _ => none)
    | _ => none)
def isiAny (S : Sto) (d : D) : List TyN → Option Bool
  | [] => some false
  | t :: r => (match isiOne S d t with
    | some true => some true
    | some false => isiAny S d r
    | none => none)
/-- where a walk's items come from: a list must stand as it is -/
inductive Src where
  | free
  | lst (a : Addr) (w : Bool) (l : List D)
  | two (a : Addr) (w : Bool) (l : List D) (b : Addr) (v : Bool) (m : List D)
def Src.ok (S : Sto) : Src → Prop
  | .free => True
  | .lst a w l => S a = some (.lst w l)
  | .two a w l b v m => S a = some (.lst w l) ∧ S b = some (.lst v m)
abbrev ATg := D → DSt → Sto → (DSt → Sto → Prop) → AW → Prop
abbrev ATgs := List D → DSt → Sto → (DSt → Sto → Prop) → AW → Prop
abbrev AI := DSt → Sto → (List D → Src → Sto → Prop) → AW → Prop
def aTru (A : AE) : AT := fun ρ S P W => A ρ S (fun d S1 => match truB S1 d with
  | some b => P b S1
  | none => False) W
def wipeD (ρ : DSt) : List Nat → DSt
  | [] => ρ
  | v :: vs => (wipeD ρ vs).set v none
def lcS (t : ATg) (cond : AT) (e : AE) (src : Src) (p : Addr) (ρ : DSt) (Pd : Sto → Prop) : List D → Sto → Prop
  | [], S => src.ok S ∧ Pd S
  | d :: ds, S => src.ok S ∧ t d ρ S (fun ρ1 S1 => cond ρ1 S1 (fun b S2 => if b = true then
      e ρ1 S2 (fun y S3 => match S3 p with
        | some (.lst true acc) => acc.length < sizeLine ∧ lcS t cond e src p ρ Pd ds (S3.up p (.lst true (acc ++ [y])))
        | _ => False) (fun _ _ _ _ => False)
      else lcS t cond e src p ρ Pd ds S2) (fun _ _ _ _ => False)) (fun _ _ _ _ => False)
def partS (d : D) (P : Option Int → Prop) : Prop := match d with
  | .non => P none
  | .int i => P (some i)
  | _ => False
/-- pairs of two rows -/
def zipD (l m : List D) : List D := (l.zip m).map fun p => .tup [p.1, p.2]
def rngItems (lo : Int) (n : Nat) : List D := (List.range n).map fun (i : Nat) => D.int (lo + (i : Int))
section
variable (Γ : Gam)
mutual
def wE : X → AE
  | .var i => fun ρ S P _ => match lk ρ i with
    | some d => P d S
    | none => False
  | .c d => fun _ S P _ => P d S
  | .g k => fun _ S P _ => match Γ.cst k with
    | some d => P d S
    | none => False
  | .op o a b => fun ρ S P W => wE a ρ S (fun x S1 => wE b ρ S1 (fun y S2 => opS o x y S2 P) W) W
  | .cmp o a b => fun ρ S P W => wE a ρ S (fun x S1 => wE b ρ S1 (fun y S2 => cmpS o x y S2 P) W) W
  | .chain o o' a b c => fun ρ S P W => wE a ρ S (fun x S1 => wE b ρ S1 (fun y S2 => cmpS o x y S2 (fun z S3 => match z with
    | .bl true => wE c ρ S3 (fun u S4 => cmpS o' y u S4 P) W
    | .bl false => P (.bl false) S3
    | _ => False)) W) W
  | .neg a => fun ρ S P W => wE a ρ S (fun x S1 => match x with
    | .int i => P (.int (-i)) S1
    | _ => False) W
  | .no a => fun ρ S P W => aTru (wE a) ρ S (fun b S1 => P (.bl (!b)) S1) W
  | .an a b => fun ρ S P W => wE a ρ S (fun x S1 => match truB S1 x with
    | some true => wE b ρ S1 P W
    | some false => P x S1
    | none => False) W
  | .ro a b => fun ρ S P W => wE a ρ S (fun x S1 => match truB S1 x with
    | some true => P x S1
    | some false => wE b ρ S1 P W
    | none => False) W
  | .ite t a b => fun ρ S P W => aTru (wE t) ρ S (fun c S1 => if c = true then wE a ρ S1 P W else wE b ρ S1 P W) W
  | .tp es => fun ρ S P W => wEs es ρ S (fun ds S1 => ds.length ≤ sizeLine ∧ P (.tup ds) S1) W
  | .ls es => fun ρ S P W => wEs es ρ S (fun ds S1 => ds.length ≤ sizeLine ∧ ∀ p, S1 p = none → P (.ref p) (S1.up p (.lst true ds))) W
  | .ix a i => fun ρ S P W => wE a ρ S (fun x S1 => wE i ρ S1 (fun y S2 => ixS x y S2 P) W) W
  | .sl a lo hi => fun ρ S P W => wE a ρ S (fun x S1 => wE lo ρ S1 (fun l S2 => partS l fun l => wE hi ρ S2 (fun h S3 => partS h fun h => slS x l h S3 P) W) W) W
  | .st a lo k => fun ρ S P W => wE a ρ S (fun x S1 => stS x lo k S1 P) W
  | .aI a => fun ρ S P W => wE a ρ S (fun d S1 => match d with
    | .int i => P (.int i) S1
    | _ => False) W
  | .fn k es => fun ρ S P W => wEs es ρ S (fun ds S1 => ds.length = Γ.ar k ∧ Γ.fn k ds S1 P (fun c f S2 => W c f ρ S2)) W
  | .bi b es => fun ρ S P W => wEs es ρ S (fun ds S1 => biS b ds S1 P) W
  | .isi a ts => fun ρ S P W => wE a ρ S (fun x S1 => match isiAny S1 x ts with
    | some b => P (.bl b) S1
    | none => False) W
  | .me m o es => fun ρ S P W => wE o ρ S (fun x S1 => isL S1 x ∧ wEs es ρ S1 (fun ds S2 => meS m x ds S2 P) W) W
  | .sz a => fun ρ S P W => wE a ρ S (fun d S1 => lensS d S1 P) W
  | .fld f o => fun ρ S P W => wE o ρ S (fun x S1 => match x with
    | .ref a => (match S1 a with
      | some (.exc k (some d)) => fldN k = f ∧ P d S1
      | _ => False)
    | _ => False) W
  | .lc e t it cond own => fun ρ S P W => wI it ρ S (fun ds src S1 => ∀ p, S1 p = none → lcS (wT t) (aTru (wE cond)) (wE e) src p (wipeD ρ own) (fun S2 => P (.ref p) S2) ds (S1.up p (.lst true []))) W
def wEs : List X → AA
  | [] => fun _ S P _ => P [] S
  | e :: es => fun ρ S P W => wE e ρ S (fun x S1 => wEs es ρ S1 (fun xs S2 => P (x :: xs) S2) W) W
def wT : T → ATg
  | .nm i => fun d ρ S P _ => P (ρ.set i (some d)) S
  | .tp ts => fun d ρ S P W => match d with
    | .tup l => l.length = ts.length ∧ wTs ts l ρ S P W
    | .ref a => (match S a with
      | some (.lst _ l) => l.length = ts.length ∧ wTs ts l ρ S P W
      | _ => False)
    | _ => False
  | .ix o i => fun d ρ S P W => wE o ρ S (fun x S1 => wE i ρ S1 (fun y S2 => match x, y with
    | .ref a, .int k => (match S2 a with
      | some (.lst true l) => (match ixN l.length k with
        | some j => P ρ (S2.up a (.lst true (l.set j d)))
        | none => False)
      | _ => False)
    | _, _ => False) W) W
def wTs : List T → ATgs
  | [] => fun ds ρ S P _ => match ds with
    | [] => P ρ S
    | _ => False
  | t :: ts => fun ds ρ S P W => match ds with
    | d :: r => wT t d ρ S (fun ρ1 S1 => wTs ts r ρ1 S1 P W) W
    | _ => False
def wI : I → AI
  | .e x => fun ρ S P W => wE x ρ S (fun d S1 => match d with
    | .tup l => P l .free S1
    | .ref a => (match S1 a with
      | some (.lst w l) => P l (.lst a w l) S1
      | _ => False)
    | _ => False) W
  | .rng1 b => fun ρ S P W => wE b ρ S (fun d S1 => match d with
    | .int j => (-(2 ^ 62) ≤ j ∧ j < 2 ^ 62) ∧ P (rngItems 0 j.toNat) .free S1
    | _ => False) W
  | .rng2 a b => fun ρ S P W => wE a ρ S (fun d S1 => wE b ρ S1 (fun e S2 => match d, e with
    | .int i, .int j => (-(2 ^ 62) ≤ i ∧ i < 2 ^ 62 ∧ -(2 ^ 62) ≤ j ∧ j < 2 ^ 62) ∧ P (rngItems i (j - i).toNat) .free S2
    | _, _ => False) W) W
  | .zip a b => fun ρ S P W => wE a ρ S (fun x S1 => wE b ρ S1 (fun y S2 => match x, y with
    | .ref p, .ref q => (match S2 p, S2 q with
      | some (.lst w l), some (.lst v m) => P (zipD l m) (.two p w l q v m) S2
      | _, _ => False)
    | _, _ => False) W) W
end
def augS (o : Operator) (x y : D) (P : D → Prop) : Prop := match o, x, y with
  | .Add, .int a, .int b => P (.int (a + b))
  | .Sub, .int a, .int b => P (.int (a - b))
  | _, _, _ => False
def forS (t : ATg) (b : AS) (src : Src) (N : DE) (W : AW) : List D → DSt → Sto → Prop
  | [], ρ, S => src.ok S ∧ N.nx ρ S
  | d :: ds, ρ, S => src.ok S ∧ t d ρ S (fun ρ1 S1 => b { nx := fun ρ2 S2 => forS t b src N W ds ρ2 S2, rt := N.rt, bk := N.nx, ct := fun ρ2 S2 => forS t b src N W ds ρ2 S2 } ρ1 S1 W) W
mutual
def wZ : Z → AS
  | .asg t e => fun N ρ S W => wE Γ e ρ S (fun d S1 => wT Γ t d ρ S1 N.nx W) W
  | .aug i o e => fun N ρ S W => match lk ρ i with
    | some x => wE Γ e ρ S (fun y S1 => augS o x y fun d => N.nx (ρ.set i (some d)) S1) W
    | none => False
  | .ex e => fun N ρ S W => wE Γ e ρ S (fun _ S1 => N.nx ρ S1) W
  | .ret e => fun N ρ S W => wE Γ e ρ S N.rt W
  | .iff t a b => fun N ρ S W => aTru (wE Γ t) ρ S (fun c S1 => if c = true then wZs a N ρ S1 W else wZs b N ρ S1 W) W
  | .whl t b => fun N ρ S W => ∃ J : Nat → DSt → Sto → Prop, (∃ m, J m ρ S) ∧ ∀ m ρ S, J m ρ S → aTru (wE Γ t) ρ S (fun c S1 => if c = true then
      wZs b { nx := fun ρ2 S2 => ∃ m', m' < m ∧ J m' ρ2 S2, rt := N.rt, bk := N.nx, ct := fun ρ2 S2 => ∃ m', m' < m ∧ J m' ρ2 S2 } ρ S1 W else N.nx ρ S1) W
  | .for_ t it b => fun N ρ S W => wI Γ it ρ S (fun ds src S1 => forS (wT Γ t) (wZs b) src N W ds ρ S1) W
  | .rz k => fun _ ρ S W => W k none ρ S
  | .rzf k e => fun _ ρ S W => wE Γ e ρ S (fun d S1 => W k (some d) ρ S1) W
  | .tr b k n y => fun N ρ S W => wZs b N ρ S (fun j f ρ1 S1 => if subK j k = true then ∀ a, S1 a = none → N.nx ((ρ1.set y (some (.ref a))).set n none) (S1.up a (.exc j f)) else W j f ρ1 S1)
  | .tr2 b k n y z => fun N ρ S W => wZs b N ρ S (fun j f ρ1 S1 => if subK j k = true then ∀ a, S1 a = none → N.nx (((ρ1.set y (some (.ref a))).set z (some .non)).set n none) (S1.up a (.exc j f)) else W j f ρ1 S1)
  | .tr3 b k n y z t => fun N ρ S W => wZs b N ρ S (fun j f ρ1 S1 => if subK j k = true then ∀ a, S1 a = none → N.nx (((ρ1.set y (some (.ref a))).set z (some (.tup [.str t]))).set n none) (S1.up a (.exc j f)) else W j f ρ1 S1)
  | .pass => fun N ρ S _ => N.nx ρ S
  | .cont => fun N ρ S _ => N.ct ρ S
  | .brk => fun N ρ S _ => N.bk ρ S
def wZs : List Z → AS
  | [] => fun N ρ S _ => N.nx ρ S
  | z :: zs => fun N ρ S W => wZ z { N with nx := fun ρ1 S1 => wZs zs N ρ1 S1 W } ρ S W
end
end
end Sd
namespace Sd
open PySem PySem.Spec PyProof.Rows L2
section
variable {X : Cx} {Wh : WX} {Γ : Gam} {A B C : AE} {As : AA} {a b e : Expr} {es : List Expr} {pos : Pos}
theorem lk_some : ∀ {ρ : DSt} {i : Nat} {d : D}, lk ρ i = some d → ρ[i]? = some (some d)
  | [], _, _, h => by cases h
  | x :: _, 0, d, h => by
    have h' : x = some d := h
    rw [h']
    rfl
  | _ :: r, i + 1, d, h => by
    have h' : lk r i = some d := h
    simpa using lk_some h'
theorem l_var {i : Nat} {x : Str} (hN : X.N[i]? = some x) (hv : Vis X.env.scope x) (hd : (x == ("__debug__" : Str)) = false) (hcd : (x == ("__classdict__" : Str)) = false) : PE X (.Name x pos) (LE X.K Wh (wE Γ (.var i))) :=
  PE.imp (pe_var hN hv hd hcd) fun σ H Q ⟨ρ, S, W, P, se, wl, pl, h⟩ => by
    simp only [wE] at h
    split at h
    · rename_i d e
      obtain ⟨v, h1, h2⟩ := se.loc i d (lk_some e)
      exact ⟨v, h1, pl.now h se.sto h2⟩
    · exact h.elim
theorem l_c {d : D} {v : V} (hp : PE X e (tC v)) (hr : ∀ H, Rp X.K H d v) : PE X e (LE X.K Wh (wE Γ (.c d))) :=
  PE.imp hp fun σ H Q ⟨ρ, S, W, P, se, wl, pl, h⟩ => pl.now (by simpa only [wE] using h) se.sto (hr H)
theorem l_op {o : Operator} (ha : PE X a (LE X.K Wh A)) (hb : PE X b (LE X.K Wh B)) : PE X (.BinOp a o b pos) (LE X.K Wh fun ρ S P W => A ρ S (fun x S1 => B ρ S1 (fun y S2 => opS o x y S2 P) W) W) := by
  obtain ⟨r, hr, har⟩ := op_all (X := X) o
  refine PE.imp (pe_op hr ha hb) fun σ H Q ⟨ρ, S, W, P, se, wl, pl, h⟩ => ?_
  exact ⟨ρ, S, W, _, se, wl, fun x S1 h1 v H1 k1 s1 r1 => ⟨ρ, S1, W, _, se.at k1 s1, wl.at k1, fun y S2 h2 u H2 k2 s2 r2 => har _ _ _ _ h2 _ _ _ _ s2 (Rp.kp k2 _ r1) r2 (pl.at (k1.trans k2)), h1⟩, h⟩
theorem l_cmp {o : CmpOp} (hu : X.A.units + 65 < cLine) (ha : PE X a (LE X.K Wh A)) (hb : PE X b (LE X.K Wh B)) (hm : behindInMarks o b = false) : PE X (.Compare a [o] [b] pos) (LE X.K Wh fun ρ S P W => A ρ S (fun x S1 => B ρ S1 (fun y S2 => cmpS o x y S2 P) W) W) := by
  obtain ⟨r, hr, har⟩ := cmp_all (X := X) hu o
  refine PE.imp (pe_cmpR hr ha hb hm) fun σ H Q ⟨ρ, S, W, P, se, wl, pl, h⟩ => ?_
  exact ⟨ρ, S, W, _, se, wl, fun x S1 h1 v H1 k1 s1 r1 => ⟨ρ, S1, W, _, se.at k1 s1, wl.at k1, fun y S2 h2 u H2 k2 s2 r2 => har _ _ _ _ h2 _ _ _ _ s2 (Rp.kp k2 _ r1) r2 (pl.at (k1.trans k2)), h1⟩, h⟩
/-- a test by its value -/
theorem truB_bl {S : Sto} {d : D} {v : V} {K : PySem.W.Frag} {H : Hp} {b : Bool} (s : StoOk K H S) (r : Rp K H d v) (e : truB S d = some b) : TruV K v H b := tru_abs s r e
theorem l_test (ha : PE X a (LE X.K Wh A)) (he : ∀ whole, isTrue a X.env whole = (do let v ← whole; standAt a.pos; holding [v] (truthy v))) : PT X a (LT X.K Wh (aTru A)) :=
  PT.imp (pt_truth ha he) fun σ H Q ⟨ρ, S, W, P, se, wl, pl, h⟩ => ⟨ρ, S, W, _, se, wl, fun d S1 h1 v H1 k1 s1 r1 => by
    split at h1
    · rename_i b eb
      exact ⟨b, tru_abs s1 r1 eb, pl b S1 h1 H1 k1 s1⟩
    · exact h1.elim, h⟩
/-- a comparison gives a truth -/
theorem cmpS_bl {o : CmpOp} {x y : D} {S : Sto} {P : PD} (h : cmpS o x y S P) : ∃ b, P (.bl b) S ∧ ∀ P' : PD, P' (.bl b) S → cmpS o x y S P' := by
  cases o <;> cases x <;> cases y <;> first
    | exact (show False from h).elim
    | exact ⟨_, h, fun _ q => q⟩
    | exact ⟨_, h.2.2, fun _ q => ⟨h.1, h.2.1, q⟩⟩
    | (simp only [cmpS] at h ⊢
       split at h
       · exact ⟨_, h, fun _ q => q⟩
       · first
         | exact h.elim
         | (simp only [lenS] at h ⊢
            split at h
            · exact ⟨_, h.2, fun _ q => ⟨h.1, q⟩⟩
            · exact h.elim))
/-- a comparison as a test -/
theorem l_cmpT {o : CmpOp} (hu : X.A.units + 65 < cLine) (ha : PE X a (LE X.K Wh A)) (hb : PE X b (LE X.K Wh B)) (hm : behindInMarks o b = false) : PT X (.Compare a [o] [b] pos) (LT X.K Wh (aTru fun ρ S P W => A ρ S (fun x S1 => B ρ S1 (fun y S2 => cmpS o x y S2 P) W) W)) := by
  obtain ⟨r, hr, har⟩ := cmp_all (X := X) hu o
  refine PT.imp (pt_cmpR hr ha hb hm) fun σ H Q ⟨ρ, S, W, P, se, wl, pl, h⟩ => ?_
  refine ⟨ρ, S, W, _, se, wl, fun x S1 h1 v H1 k1 s1 r1 => ⟨ρ, S1, W, _, se.at k1 s1, wl.at k1, fun y S2 h2 u H2 k2 s2 r2 => ?_, h1⟩, h⟩
  obtain ⟨b, q1, q2⟩ := cmpS_bl h2
  refine har _ _ _ (fun d S3 => d = .bl b ∧ P b S3) (q2 _ ⟨rfl, q1⟩) _ _ _ _ s2 (Rp.kp k2 _ r1) r2 fun d S3 h3 z H3 k3 s3 r3 => ?_
  obtain ⟨rfl, h3⟩ := h3
  cases r3
  exact ⟨b, rfl, pl b S3 h3 H3 ((k1.trans k2).trans k3) s3⟩
end
end Sd
namespace Sd
open PySem PySem.Spec PyProof.Rows L2
section
variable {X : Cx} {Wh : WX} {Γ : Gam} {A B C : AE} {As : AA} {a b c e : Expr} {es rest : List Expr} {pos : Pos}
def aAn (A B : AE) : AE := fun ρ S P W => A ρ S (fun x S1 => match truB S1 x with
    | some true => B ρ S1 P W
    | some false => P x S1
    | none => False) W
def aRo (A B : AE) : AE := fun ρ S P W => A ρ S (fun x S1 => match truB S1 x with
    | some true => P x S1
    | some false => B ρ S1 P W
    | none => False) W
def aNo (A : AE) : AE := fun ρ S P W => aTru A ρ S (fun b S1 => P (.bl (!b)) S1) W
def aIte (T A B : AE) : AE := fun ρ S P W => aTru T ρ S (fun c S1 => if c = true then A ρ S1 P W else B ρ S1 P W) W
theorem l_an (ha : PE X a (LE X.K Wh A)) (hb : PE X (.BoolOp .And (b :: rest) pos) (LE X.K Wh B)) : PE X (.BoolOp .And (a :: b :: rest) pos) (LE X.K Wh (aAn A B)) :=
  PE.imp (pe_andT ha hb) fun σ H Q ⟨ρ, S, W, P, se, wl, pl, h⟩ => ⟨ρ, S, W, _, se, wl, fun x S1 h1 v H1 k1 s1 r1 => by
    split at h1
    · rename_i e1
      exact ⟨true, tru_abs s1 r1 e1, ρ, S1, W, P, se.at k1 s1, wl.at k1, pl.at k1, h1⟩
    · rename_i e1
      exact ⟨false, tru_abs s1 r1 e1, pl _ _ h1 v H1 k1 s1 r1⟩
    · exact h1.elim, h⟩
theorem l_ro (ha : PE X a (LE X.K Wh A)) (hb : PE X (.BoolOp .Or (b :: rest) pos) (LE X.K Wh B)) : PE X (.BoolOp .Or (a :: b :: rest) pos) (LE X.K Wh (aRo A B)) :=
  PE.imp (pe_orT ha hb) fun σ H Q ⟨ρ, S, W, P, se, wl, pl, h⟩ => ⟨ρ, S, W, _, se, wl, fun x S1 h1 v H1 k1 s1 r1 => by
    split at h1
    · rename_i e1
      exact ⟨true, tru_abs s1 r1 e1, pl _ _ h1 v H1 k1 s1 r1⟩
    · rename_i e1
      exact ⟨false, tru_abs s1 r1 e1, ρ, S1, W, P, se.at k1 s1, wl.at k1, pl.at k1, h1⟩
    · exact h1.elim, h⟩
theorem l_anT (ha : PT X a (LT X.K Wh (aTru A))) (hb : PW X (.BoolOp .And (b :: rest) pos) (LT X.K Wh (aTru B))) : PW X (.BoolOp .And (a :: b :: rest) pos) (LT X.K Wh (aTru (aAn A B))) :=
  PW.imp (pw_and ha hb) fun σ H Q ⟨ρ, S, W, P, se, wl, pl, h⟩ => by
    refine ⟨ρ, S, W, fun b S1 => if b = true then aTru B ρ S1 P W else P false S1, se, wl, fun b S1 h1 H1 k1 s1 => ?_, ?_⟩
    · cases b with
      | true => exact ⟨ρ, S1, W, P, se.at k1 s1, wl.at k1, pl.at k1, h1⟩
      | false => exact pl _ _ h1 H1 k1 s1
    · unfold aTru aAn at h
      unfold aTru
      have e : (fun (d : D) (S1 : Sto) => match truB S1 d with
        | some b => if b = true then B ρ S1 (fun d S1 => match truB S1 d with
            | some b => P b S1
            | none => False) W else P false S1
        | none => False) = (fun x S1 => match truB S1 x with
        | some true => B ρ S1 (fun d S1 => match truB S1 d with
          | some b => P b S1
          | none => False) W
        | some false => (match truB S1 x with
          | some b => P b S1
          | none => False)
        | none => False) := funext fun x => funext fun S1 => by
          cases q : truB S1 x with
          | none => rfl
          | some b => cases b <;> rfl
      exact (congrArg (fun q => A ρ S q W) e).mpr h
theorem l_roT (ha : PT X a (LT X.K Wh (aTru A))) (hb : PW X (.BoolOp .Or (b :: rest) pos) (LT X.K Wh (aTru B))) : PW X (.BoolOp .Or (a :: b :: rest) pos) (LT X.K Wh (aTru (aRo A B))) :=
  PW.imp (pw_or ha hb) fun σ H Q ⟨ρ, S, W, P, se, wl, pl, h⟩ => by
    refine ⟨ρ, S, W, fun b S1 => if b = true then P true S1 else aTru B ρ S1 P W, se, wl, fun b S1 h1 H1 k1 s1 => ?_, ?_⟩
    · cases b with
      | false => exact ⟨ρ, S1, W, P, se.at k1 s1, wl.at k1, pl.at k1, h1⟩
      | true => exact pl _ _ h1 H1 k1 s1
    · unfold aTru aRo at h
      unfold aTru
      have e : (fun (d : D) (S1 : Sto) => match truB S1 d with
        | some b => if b = true then P true S1 else B ρ S1 (fun d S1 => match truB S1 d with
            | some b => P b S1
            | none => False) W
        | none => False) = (fun x S1 => match truB S1 x with
        | some true => (match truB S1 x with
          | some b => P b S1
          | none => False)
        | some false => B ρ S1 (fun d S1 => match truB S1 d with
          | some b => P b S1
          | none => False) W
        | none => False) := funext fun x => funext fun S1 => by
          cases q : truB S1 x with
          | none => rfl
          | some b => cases b <;> rfl
      exact (congrArg (fun q => A ρ S q W) e).mpr h
theorem l_no (ha : PE X a (LE X.K Wh A)) : PE X (.UnaryOp .Not a pos) (LE X.K Wh (aNo A)) :=
  PE.imp (pe_notT ha) fun σ H Q ⟨ρ, S, W, P, se, wl, pl, h⟩ => ⟨ρ, S, W, _, se, wl, fun x S1 h1 v H1 k1 s1 r1 => by
    split at h1
    · rename_i b e1
      exact ⟨b, tru_abs s1 r1 e1, pl _ _ h1 _ H1 k1 s1 rfl⟩
    · exact h1.elim, h⟩
theorem l_noT (ha : PT X a (LT X.K Wh (aTru A))) : PT X (.UnaryOp .Not a pos) (LT X.K Wh (aTru (aNo A))) :=
  PT.imp (pt_not ha) fun σ H Q ⟨ρ, S, W, P, se, wl, pl, h⟩ => ⟨ρ, S, W, fun b S1 => P (!b) S1, se, wl, fun b S1 h1 H1 k1 s1 => pl _ _ h1 H1 k1 s1, h⟩
theorem l_ite (hc : PT X c (LT X.K Wh (aTru C))) (ha : PE X a (LE X.K Wh A)) (hb : PE X b (LE X.K Wh B)) : PE X (.IfExp c a b pos) (LE X.K Wh (aIte C A B)) :=
  PE.imp (pe_ifExp hc ha hb) fun σ H Q ⟨ρ, S, W, P, se, wl, pl, h⟩ => ⟨ρ, S, W, _, se, wl, fun b S1 h1 H1 k1 s1 => by
    cases b with
    | true => exact ⟨ρ, S1, W, P, se.at k1 s1, wl.at k1, pl.at k1, h1⟩
    | false => exact ⟨ρ, S1, W, P, se.at k1 s1, wl.at k1, pl.at k1, h1⟩, h⟩
theorem l_iteT (hc : PT X c (LT X.K Wh (aTru C))) (ha : PT X a (LT X.K Wh (aTru A))) (hb : PT X b (LT X.K Wh (aTru B))) : PT X (.IfExp c a b pos) (LT X.K Wh (aTru (aIte C A B))) := by
  refine PT.imp (t := fun σ H Q => LT X.K Wh (aTru C) σ H fun k H1 => if k = true then LT X.K Wh (aTru A) σ H1 Q else LT X.K Wh (aTru B) σ H1 Q) ⟨fun pins s σ H Q I h => ?_⟩ fun σ H Q ⟨ρ, S, W, P, se, wl, pl, h⟩ => ⟨ρ, S, W, _, se, wl, fun b S1 h1 H1 k1 s1 => by
    cases b with
    | true => exact ⟨ρ, S1, W, P, se.at k1 s1, wl.at k1, pl.at k1, h1⟩
    | false => exact ⟨ρ, S1, W, P, se.at k1 s1, wl.at k1, pl.at k1, h1⟩, h⟩
  show wpAny _ _ (isTrue (.IfExp c a b pos) X.env _) _ _ _
  unfold PySem.isTrue
  refine wpAny_bind (thn (hc.run pins s σ H _ I h) fun k s1 ⟨H1, I1, q1⟩ => ?_)
  cases k with
  | true => exact ha.run pins s1 σ H1 Q I1 q1
  | false => exact hb.run pins s1 σ H1 Q I1 q1
theorem l_neg (ha : PE X a (LE X.K Wh A)) : PE X (.UnaryOp .USub a pos) (LE X.K Wh fun ρ S P W => A ρ S (fun x S1 => match x with
    | .int i => P (.int (-i)) S1
    | _ => False) W) :=
  PE.imp (pe_un un_neg ha) fun σ H Q ⟨ρ, S, W, P, se, wl, pl, h⟩ => ⟨ρ, S, W, _, se, wl, fun x S1 h1 v H1 k1 s1 r1 => by
    cases x <;> (try exact (show False from h1).elim)
    cases r1
    exact ⟨_, rfl, pl _ _ h1 _ H1 k1 s1 rfl⟩, h⟩
def aChain (o o' : CmpOp) (A B C : AE) : AE := fun ρ S P W => A ρ S (fun x S1 => B ρ S1 (fun y S2 => cmpS o x y S2 (fun z S3 => match z with
    | .bl true => C ρ S3 (fun u S4 => cmpS o' y u S4 P) W
    | .bl false => P (.bl false) S3
    | _ => False)) W) W
theorem l_chain {o o' : CmpOp} (hu : X.A.units + 65 < cLine) (ha : PE X a (LE X.K Wh A)) (hb : PE X b (LE X.K Wh B)) (hc : PE X c (LE X.K Wh C)) (hm : behindInMarks o b = false) (hm' : behindInMarks o' c = false) :
    PE X (.Compare a [o, o'] [b, c] pos) (LE X.K Wh (aChain o o' A B C)) := by
  obtain ⟨r, hr, har⟩ := cmp_all (X := X) hu o
  obtain ⟨r', hr', har'⟩ := cmp_all (X := X) hu o'
  refine PE.imp (pe_chain hr hr' ha hb hc (hm := hm')) fun σ H Q ⟨ρ, S, W, P, se, wl, pl, h⟩ => ?_
  refine ⟨ρ, S, W, _, se, wl, fun x S1 h1 v H1 k1 s1 r1 => ⟨ρ, S1, W, _, se.at k1 s1, wl.at k1, fun y S2 h2 u H2 k2 s2 r2 => ?_, h1⟩, h⟩
  refine har _ _ _ _ h2 _ _ _ _ s2 (Rp.kp k2 _ r1) r2 fun z S3 h3 zv H3 k3 s3 r3 => ?_
  cases z <;> (try exact (show False from h3).elim)
  rename_i bb
  cases r3
  have k13 := (k1.trans k2).trans k3
  cases bb with
  | true => exact ⟨true, rfl, ρ, S3, W, _, se.at k13 s3, wl.at k13, fun t S4 h4 tv H4 k4 s4 r4 => har' _ _ _ _ h4 _ _ _ _ s4 (Rp.kp (k3.trans k4) _ r2) r4 (pl.at (k13.trans k4)), h3⟩
  | false => exact ⟨false, rfl, pl _ _ h3 _ H3 k13 s3 rfl⟩
theorem l_chainT {o o' : CmpOp} (hu : X.A.units + 65 < cLine) (ha : PE X a (LE X.K Wh A)) (hb : PE X b (LE X.K Wh B)) (hc : PE X c (LE X.K Wh C)) (hm : behindInMarks o b = false) (hm' : behindInMarks o' c = false) :
    PT X (.Compare a [o, o'] [b, c] pos) (LT X.K Wh (aTru (aChain o o' A B C))) := by
  obtain ⟨r, hr, har⟩ := cmp_all (X := X) hu o
  obtain ⟨r', hr', har'⟩ := cmp_all (X := X) hu o'
  refine PT.imp (pt_chain hr hr' ha hb hc (hm := hm')) fun σ H Q ⟨ρ, S, W, P, se, wl, pl, h⟩ => ?_
  refine ⟨ρ, S, W, _, se, wl, fun x S1 h1 v H1 k1 s1 r1 => ⟨ρ, S1, W, _, se.at k1 s1, wl.at k1, fun y S2 h2 u H2 k2 s2 r2 => ?_, h1⟩, h⟩
  refine har _ _ _ _ h2 _ _ _ _ s2 (Rp.kp k2 _ r1) r2 fun z S3 h3 zv H3 k3 s3 r3 => ?_
  cases z <;> (try exact (show False from h3).elim)
  rename_i bb
  cases r3
  have k13 := (k1.trans k2).trans k3
  cases bb with
  | true =>
    refine ⟨true, rfl, ρ, S3, W, _, se.at k13 s3, wl.at k13, fun t S4 h4 tv H4 k4 s4 r4 => ?_, h3⟩
    obtain ⟨b, q1, q2⟩ := cmpS_bl h4
    refine har' _ _ _ (fun d S5 => d = .bl b ∧ P b S5) (q2 _ ⟨rfl, q1⟩) _ _ _ _ s4 (Rp.kp (k3.trans k4) _ r2) r4 fun d S5 h5 zz H5 k5 s5 r5 => ?_
    obtain ⟨rfl, h5⟩ := h5
    cases r5
    exact ⟨b, rfl, pl b S5 h5 H5 ((k13.trans k4).trans k5) s5⟩
  | false => exact ⟨false, rfl, false, rfl, pl _ _ h3 H3 k13 s3⟩
/-! ### arguments, displays, subscripts -/
theorem l_nil : PA X [] (LA X.K Wh fun _ S P _ => P [] S) := PA.imp pa_nil fun σ H Q ⟨ρ, S, W, P, se, wl, pl, h⟩ => pl _ _ h _ H (Kp.refl H) se.sto rfl
theorem l_cons (ha : PE X e (LE X.K Wh A)) (hr : PA X es (LA X.K Wh As)) (hs : starEach (e :: es) X.env = (false, eval e X.env) :: starEach es X.env) :
    PA X (e :: es) (LA X.K Wh fun ρ S P W => A ρ S (fun x S1 => As ρ S1 (fun xs S2 => P (x :: xs) S2) W) W) :=
  PA.imp (pa_cons ha hr hs) fun σ H Q ⟨ρ, S, W, P, se, wl, pl, h⟩ => ⟨ρ, S, W, _, se, wl, fun x S1 h1 v H1 k1 s1 r1 => ⟨ρ, S1, W, _, se.at k1 s1, wl.at k1, fun xs S2 h2 vs H2 k2 s2 r2 => pl _ _ h2 _ H2 (k1.trans k2) s2 (Rps.cons (Rp.kp k2 _ r1) r2), h1⟩, h⟩
theorem l_tp {x1} (h : PA X es (LA X.K Wh As)) : PE X (.Tuple es x1 pos) (LE X.K Wh fun ρ S P W => As ρ S (fun ds S1 => ds.length ≤ sizeLine ∧ P (.tup ds) S1) W) :=
  PE.imp (pe_tup h) fun σ H Q ⟨ρ, S, W, P, se, wl, pl, h⟩ => ⟨ρ, S, W, _, se, wl, fun ds S1 h1 vs H1 k1 s1 r1 => ⟨by rw [r1.length]; exact h1.1, fun p hp => (pl.at k1).newT s1 r1 hp h1.2⟩, h⟩
theorem l_ls (h : PA X es (LA X.K Wh As)) : PE X (.List es pos) (LE X.K Wh fun ρ S P W => As ρ S (fun ds S1 => ds.length ≤ sizeLine ∧ ∀ p, S1 p = none → P (.ref p) (S1.up p (.lst true ds))) W) :=
  PE.imp (pe_lst h) fun σ H Q ⟨ρ, S, W, P, se, wl, pl, h⟩ => ⟨ρ, S, W, _, se, wl, fun ds S1 h1 vs H1 k1 s1 r1 => ⟨by rw [r1.length]; exact h1.1, fun p hp => (pl.at k1).newL s1 r1 hp h1.2⟩, h⟩
theorem l_ix (ha : PE X a (LE X.K Wh A)) (hb : PE X b (LE X.K Wh B)) (hs : PlainIx b) : PE X (.Subscript a b pos) (LE X.K Wh fun ρ S P W => A ρ S (fun x S1 => B ρ S1 (fun y S2 => ixS x y S2 P) W) W) :=
  PE.imp (pe_ix ix_seq ha hb hs) fun σ H Q ⟨ρ, S, W, P, se, wl, pl, h⟩ =>
    ⟨ρ, S, W, _, se, wl, fun x S1 h1 v H1 k1 s1 r1 => ⟨ρ, S1, W, _, se.at k1 s1, wl.at k1, fun y S2 h2 u H2 k2 s2 r2 => ix_abs _ _ _ _ h2 _ _ _ _ s2 (Rp.kp k2 _ r1) r2 (pl.at (k1.trans k2)), h1⟩, h⟩
/-- a slice's part -/
def LO (K : PySem.W.Frag) (Wh : WX) (A : AE) : TO := fun σ H Q => ∃ ρ S W P, Sees K H σ ρ S ∧ WLe K H W Wh ∧ (∀ d S1, P d S1 → ∀ H1, Kp H H1 → StoOk K H1 S1 → partS d fun o => Q o H1) ∧ A ρ S P W
theorem l_part {o : Expr} (ha : PE X o (LE X.K Wh A)) : PO X (some o) (fun σ H Q => LO X.K Wh (fun ρ S P W => A ρ S (fun d S1 => match d with
    | .int i => P (.int i) S1
    | _ => False) W) σ H Q) := by
  have h := po_some ha
  refine ⟨fun pins s σ H Q I hw => h.run pins s σ H Q I ?_⟩
  obtain ⟨ρ, S, W, P, se, wl, pl, hw⟩ := hw
  refine ⟨ρ, S, W, _, se, wl, fun d S1 h1 v H1 k1 s1 r1 => ?_, hw⟩
  cases d <;> (try exact (show False from h1).elim)
  cases r1
  exact ⟨_, rfl, pl _ _ h1 H1 k1 s1⟩
theorem l_nopart {d : D} (hd : d = .non) : PO X none (LO X.K Wh fun _ S P _ => P d S) := by
  have h := po_none (X := X)
  refine ⟨fun pins s σ H Q I hw => h.run pins s σ H Q I ?_⟩
  obtain ⟨ρ, S, W, P, se, wl, pl, hw⟩ := hw
  subst hd
  exact pl _ _ hw H (Kp.refl H) se.sto
end
end Sd
namespace Sd
open PySem PySem.Spec PyProof.Rows L2 HT
section
variable {prog : Program} {w : World} {A : Around} {E : Value → Shared → Prop} {s : Shared}
theorem sliceApplied_st {sl : Addr} {vl vu vs : Value} {lo : Option Int} {k : Int} {n : Nat} {Q : Int × Int × Nat → Shared → Prop} (hs : s.heap.IsSliceOf sl vl vu vs) (pl : IsPart vl lo) (pu : IsPart vu none) (ps : IsPart vs (some k)) (hk : k ≠ 0)
    (h : Q ((Builtin.Slice.sliceAdjust lo none k n).1, k, Builtin.Slice.slicePlaces (Builtin.Slice.sliceAdjust lo none k n).1 (Builtin.Slice.sliceAdjust lo none k n).2 k) s) : wpAny (model prog w) A (Builtin.Slice.sliceApplied (.ref sl) (pure (n : Int))) Q E s := by
  obtain ⟨os, hos, hcs, hds⟩ := id hs
  unfold Builtin.Slice.sliceApplied Builtin.Slice.sliceFields
  refine wpAny_bind (wpAny_bind (wpAny_field hos hds (x := vl) rfl (wpAny_bind (wpAny_field hos hds (x := vu) rfl (wpAny_bind (wpAny_field hos hds (x := vs) rfl (wpAny_pure ?_)))))))
  refine wpAny_bind (slicePart_ ps ?_)
  show wpAny _ _ (if (k == 0) = true then _ else _) _ _ s
  rw [if_neg (by simpa using hk)]
  exact wpAny_bind (slicePart_ pl (wpAny_bind (slicePart_ pu (wpAny_bind (wpAny_pure (wpAny_pure h))))))
theorem getItem_tuple_st {t sl : Addr} {items : Array Value} {vl vu vs : Value} {lo : Option Int} {k : Int} {Q : Value → Shared → Prop} (ht : IsTup s.heap t items) (hs : s.heap.IsSliceOf sl vl vu vs) (pl : IsPart vl lo) (pu : IsPart vu none) (ps : IsPart vs (some k)) (hk : k ≠ 0) (hk1 : k ≠ 1)
    (h : Q (.ref s.heap.objs.size) { s with heap := s.heap.push { cls := .type "tuple", data := .seq (pickT items.toList lo k).toArray } })
    (hsz : (pickT items.toList lo k).length ≤ sizeLine) : wpAny (model prog w) A (getItem (.ref t) (.ref sl)) Q E s := by
  have htake : sizeOk (.seq (pickT items.toList lo k).toArray) := by
    show (pickT items.toList lo k).toArray.size ≤ sizeLine
    rw [List.size_toArray]
    exact hsz
  obtain ⟨os, hos, hcs, hds⟩ := id hs
  have hTs : s.TypeIs (.ref sl) "slice" := ⟨os, hos, hcs⟩
  unfold getItem
  try with_reducible refine wpAny_holding ?_
  first | refine wpAny_bind (wpAny_pure ?_) | skip
  refine wpAny_bind (wpAny_sequenceKey ht.typeIs (by decide) ?_)
  refine wpAny_bind (wpAny_callSpecial?_slot (name := Str.ofString "__getitem__") ht.typeIs PyProof.Rows.slot_tuple_getitem
    (wpAny_call_entry PyProof.Rows.slot_tuple_getitem ht.typeIs entry_tuple_getitem ?_ (args_tuple_getitem _ _)))
  show wpAny _ _ (Builtin.Tuple.tupleItemsOf (.ref t) >>= _) _ _ s
  refine wpAny_bind (tupleItemsOf_ ht ?_)
  refine wpAny_bind (wpAny_typeOf hTs ?_)
  rw [if_pos (by decide)]
  refine wpAny_bind (sliceApplied_st hs pl pu ps hk ?_)
  have hno : ¬ (((Builtin.Slice.sliceAdjust lo none k items.size).1 == 0 && k == 1 && (Builtin.Slice.slicePlaces (Builtin.Slice.sliceAdjust lo none k items.size).1 (Builtin.Slice.sliceAdjust lo none k items.size).2 k) == items.size) = true) := by
    intro q
    rw [Bool.and_eq_true, Bool.and_eq_true] at q
    exact hk1 (eq_of_beq q.1.2)
  have hp : ((List.range (Builtin.Slice.slicePlaces (Builtin.Slice.sliceAdjust lo none k items.size).1 (Builtin.Slice.sliceAdjust lo none k items.size).2 k)).filterMap fun (m : Nat) => items[((Builtin.Slice.sliceAdjust lo none k items.size).1 + (m : Int) * k).toNat]?) = pickT items.toList lo k := by
    unfold pickT
    rw [Array.length_toList]
    congr 1
    funext m
    rw [Array.getElem?_toList]
  show wpAny _ _ (if ((Builtin.Slice.sliceAdjust lo none k items.size).1 == 0 && k == 1 && (Builtin.Slice.slicePlaces (Builtin.Slice.sliceAdjust lo none k items.size).1 (Builtin.Slice.sliceAdjust lo none k items.size).2 k) == items.size) = true then _ else _) _ _ s
  rw [if_neg hno, hp]
  first
    | exact wpAny_bind (m := Builtin.Tuple.tupleExact _) (wpAny_newObj_type (wpAny_pure ⟨_, rfl, wpAny_pure h⟩) htake)
    | exact wpAny_bind (m := Builtin.Tuple.tupleExact _) (wpAny_newObj_type (wpAny_bind (wpAny_pure (wpAny_pure ⟨_, rfl, wpAny_pure h⟩))) htake)
    | exact wpAny_bind (wpAny_bind (m := Builtin.Tuple.tupleExact _) (wpAny_newObj_type (wpAny_pure (wpAny_pure ⟨_, rfl, wpAny_pure h⟩)) htake))
    | exact wpAny_bind (wpAny_bind (m := Builtin.Tuple.tupleExact _) (wpAny_newObj_type (wpAny_pure ⟨_, rfl, wpAny_pure h⟩) htake))
end
theorem pick_vals_aux {xs : List V} {us : List Value} (r : Vals xs us) (f : Nat → Nat) : ∀ ms : List Nat, Vals (ms.filterMap fun m => xs[f m]?) (ms.filterMap fun m => us[f m]?)
  | [] => .nil
  | m :: ms => by
    cases e : xs[f m]? with
    | none =>
      rw [List.filterMap_cons, List.filterMap_cons, e, r.none_of e]
      exact pick_vals_aux r f ms
    | some x =>
      obtain ⟨u, e2, ru⟩ := r.get e
      rw [List.filterMap_cons, List.filterMap_cons, e, e2]
      exact .cons ru (pick_vals_aux r f ms)
theorem pick_vals {xs : List V} {us : List Value} (r : Vals xs us) (lo : Option Int) (k : Int) : Vals (pickT xs lo k) (pickT us lo k) := by
  unfold pickT
  rw [r.length]
  exact pick_vals_aux r _ _
theorem pick_rps_aux {K : PySem.W.Frag} {H : Hp} {l : List D} {vs : List V} (r : Rps K H l vs) (f : Nat → Nat) : ∀ ms : List Nat, Rps K H (ms.filterMap fun m => l[f m]?) (ms.filterMap fun m => vs[f m]?)
  | [] => rfl
  | m :: ms => by
    cases e : l[f m]? with
    | none =>
      have e2 : vs[f m]? = none := by
        rw [List.getElem?_eq_none_iff] at e ⊢
        rw [r.length]
        exact e
      rw [List.filterMap_cons, List.filterMap_cons, e, e2]
      exact pick_rps_aux r f ms
    | some x =>
      obtain ⟨u, e2, ru⟩ := r.get e
      rw [List.filterMap_cons, List.filterMap_cons, e, e2]
      exact Rps.cons ru (pick_rps_aux r f ms)
theorem pick_rps {K : PySem.W.Frag} {H : Hp} {l : List D} {vs : List V} (r : Rps K H l vs) (lo : Option Int) (k : Int) : Rps K H (pickT l lo k) (pickT vs lo k) := by
  unfold pickT
  rw [r.length]
  exact pick_rps_aux r _ _
section
variable {X : Cx} {Wh : WX} {A : AE} {a e : Expr} {pos : Pos}
def tPt (o : Option Int) : TO := fun _ H Q => Q o H
def tSt (K : PySem.W.Frag) (te : TE) (lo : Option Int) (k : Int) : TE := fun σ H Q => te σ H fun x H1 => ∃ a xs, x = .ref a ∧ ((SqL K H1 a xs ∧ lo = none ∧ k = -1 ∧ ∀ p, H1 p = none → Q (.ref p) (upd H1 p (.lst xs.reverse))) ∨ (SqT K H1 a xs ∧ k ≠ 0 ∧ k ≠ 1 ∧ (pickT xs lo k).length ≤ sizeLine ∧ ∀ p, H1 p = none → Q (.ref p) (upd H1 p (.tup (pickT xs lo k)))))
theorem pe_st {te : TE} {lx : Option Expr} {sx : Expr} {lo : Option Int} {k : Int} {p3 : Pos} (he : PE X e te) (hlo : PO X lx (tPt lo)) (hst : PO X (some sx) (tPt (some k))) : PE X (.Subscript e (.Slice lx none (some sx) p3) pos) (tSt X.K te lo k) := by
  refine ⟨fun pins s σ H Q I h => ?_⟩
  refine Subscript_ (thn (he.run pins s σ H _ I h) fun v s1 ⟨x, H1, I1, r1, q1⟩ => ?_)
  obtain ⟨a, xs, ex, q1⟩ := q1
  subst ex
  cases r1
  refine wpAny_Slice (thn (hlo.run pins s1 σ H1 (fun o H2 => o = lo ∧ H2 = H1) I1 ⟨rfl, rfl⟩) fun vl s2 ⟨l, H2, I2, pl, el, e2⟩ => ?_)
  subst el e2
  refine thn (po_none.run pins s2 σ H2 (fun o H3 => o = none ∧ H3 = H2) I2 ⟨rfl, rfl⟩) fun vu s3 ⟨u, H3, I3, pu, eu, e3⟩ => ?_
  subst eu e3
  refine thn (hst.run pins s3 σ H3 (fun o H4 => o = some k ∧ H4 = H3) I3 ⟨rfl, rfl⟩) fun vs s4 ⟨o, H4, I4, ps, eo, e4⟩ => ?_
  subst eo e4
  have I5 : Inv X pins σ H4 { s4 with heap := s4.heap.push { cls := .type "slice", data := .fields #[vl, vu, vs] } } := I4.kept (t' := s4.toks) fun b ob q => Heap.get?_push_of_some _ q
  show wpAny (model X.prog X.w) X.A (subscriptTail e (.Slice lx none (some sx) p3) (.ref a) (.ref s4.heap.objs.size)) (EP X pins σ Q) X.xe { s4 with heap := s4.heap.push { cls := .type "slice", data := .fields #[vl, vu, vs] } }
  rcases q1 with ⟨hx, rfl, rfl, q⟩ | ⟨hx, hk0, hk1, hsz, q⟩
  · obtain ⟨its, r, ht, hz⟩ := I5.list hx
    have hlen := r.length
    refine tail_any (ops := [.ref a, .ref s4.heap.objs.size]) ht.isList.typeIs (PySem.slot_list_getitem.lookup) ?_ (by with_unfolding_all rfl)
    refine wpAny_getItem_list_slice ht.isList (Heap.IsSliceOf.new _ vl vu vs) pl pu ps (by decide) ?_ (by rw [List.size_toArray]; omega)
    rw [PySem.W.krv_pick]
    refine ⟨.ref _, _, I5.laid (t' := s4.toks) (o := .lst xs.reverse) (fun b ob q => Heap.get?_push_of_some _ q) (Nat.le_refl _) ?_, rfl, q _ (I5.hok.fresh (Nat.le_refl _))⟩
    exact ⟨by rw [List.length_reverse]; exact hz, _, 0, r.reverse, Heap.get?_push_size _ rfl⟩
  · obtain ⟨its, r, ht, hz⟩ := I5.tuple hx
    have pv := pick_vals r l k
    have el : (pickT its l k).length ≤ sizeLine := by rw [← pv.length]; exact hsz
    refine tail_any (ops := [.ref a, .ref s4.heap.objs.size]) ht.typeIs (PyProof.Rows.slot_tuple_getitem.lookup) ?_ (by with_unfolding_all rfl)
    refine getItem_tuple_st ht (Heap.IsSliceOf.new _ vl vu vs) pl pu ps hk0 hk1 ?_ (by simpa using el)
    refine ⟨.ref _, _, I5.laid (t' := s4.toks) (o := .tup (pickT xs l k)) (fun b ob q => Heap.get?_push_of_some _ q) (Nat.le_refl _) ?_, rfl, q _ (I5.hok.fresh (Nat.le_refl _))⟩
    exact ⟨hsz, _, pv, IsTup.new _ _⟩
theorem Rps.rev' {K : PySem.W.Frag} {H : Hp} : ∀ {l : List D} {vs : List V}, Rps K H l vs → Rps K H l.reverse vs.reverse
  | [], vs, r => by
    cases (show vs = [] from r)
    exact rfl
  | d :: l, vs, r => by
    obtain ⟨v, vr, rfl, r1, r2⟩ := r
    rw [List.reverse_cons, List.reverse_cons]
    exact Rps.append (Rps.rev' r2) (Rps.one r1)
theorem l_st {lx : Option Expr} {sx : Expr} {lo : Option Int} {k : Int} {p3 : Pos} (ha : PE X a (LE X.K Wh A)) (hlo : PO X lx (tPt lo)) (hst : PO X (some sx) (tPt (some k))) : PE X (.Subscript a (.Slice lx none (some sx) p3) pos) (LE X.K Wh fun ρ S P W => A ρ S (fun x S1 => stS x lo k S1 P) W) :=
  PE.imp (pe_st ha hlo hst) fun σ H Q ⟨ρ, S, W, P, se, wl, pl, h⟩ => by
    refine ⟨ρ, S, W, _, se, wl, fun x S1 h1 v H1 k1 s1 r1 => ?_, h⟩
    cases x <;> (try exact (show False from h1).elim)
    · rename_i p
      cases r1
      obtain ⟨e1, e2, h'⟩ := (show lo = none ∧ k = -1 ∧ (match S1 p with
        | some (.lst _ l) => ∀ p, S1 p = none → P (.ref p) (S1.up p (.lst true l.reverse))
        | _ => False) from h1)
      split at h'
      · rename_i w l e
        obtain ⟨vs, q1, r1⟩ := s1.rd e
        exact ⟨p, vs, rfl, .inl ⟨q1, e1, e2, fun q hq => (pl.at k1).newL s1 r1.rev' hq h'⟩⟩
      · exact h'.elim
    · rename_i l
      obtain ⟨p, vs, rfl, q, rr⟩ := r1
      obtain ⟨e1, e2, e3, h'⟩ := (show k ≠ 0 ∧ k ≠ 1 ∧ (pickT l lo k).length ≤ sizeLine ∧ P (.tup (pickT l lo k)) S1 from h1)
      have pr := pick_rps rr lo k
      exact ⟨p, vs, rfl, .inr ⟨q, e1, e2, by rw [pr.length]; exact e3, fun p hp => (pl.at k1).newT s1 pr hp h'⟩⟩
theorem po_pt_none : PO X none (tPt none) := ⟨fun pins s σ H Q I h => po_none.run pins s σ H Q I h⟩
theorem po_pt_int {i : Int} {j : Nat} {p : Pos} : PO X (some (.Constant (.int i) j p)) (tPt (some i)) := ⟨fun pins s σ H Q I h => (po_some pe_int).run pins s σ H Q I ⟨i, rfl, h⟩⟩
theorem po_pt_neg {i : Int} {j : Nat} {p p2 : Pos} : PO X (some (.UnaryOp .USub (.Constant (.int i) j p) p2)) (tPt (some (-i))) := ⟨fun pins s σ H Q I h => (po_some (pe_un un_neg pe_int)).run pins s σ H Q I ⟨i, rfl, -i, rfl, h⟩⟩
end
section
variable {X : Cx} {Wh : WX} {Γ : Gam} {A B C : AE} {As : AA} {a b c e : Expr} {es rest : List Expr} {pos : Pos}
/-! ### slices -/
theorem sl_abs {K : PySem.W.Frag} {H : Hp} {S : Sto} {P : PD} {Q : VK} {x : D} {v : V} {lo hi : Option Int} (h : slS x lo hi S P) (s : StoOk K H S) (r : Rp K H x v) (pl : PLe K H P Q) : rSlL K v lo hi H Q ∨ rSlA K v lo hi H Q := by
  cases x <;> (try exact (show False from h).elim)
  case tup l =>
    obtain ⟨a, vs, rfl, q, rr⟩ := r
    have h' : P (.tup (cutD l lo hi)) S := h
    have hl := rr.length
    refine .inr ⟨a, vs, rfl, q, fun z => ?_, fun _ p hp => pl.newT s (cut_rps rr lo hi) hp h'⟩
    have e : cutD l lo hi = l := by
      unfold cutD
      rw [← hl, z.1, z.2, List.drop_zero, Nat.sub_zero]
      exact List.take_of_length_le (by omega)
    rw [e] at h'
    exact pl.now h' s ⟨a, vs, rfl, q, rr⟩
  rename_i p
  cases r
  have h' : (match S p with
    | some (.lst _ l) => ∀ p, S p = none → P (.ref p) (S.up p (.lst true (cutD l lo hi)))
    | _ => False) := h
  split at h'
  · rename_i w l e
    obtain ⟨vs, q1, r1⟩ := s.rd e
    exact .inl ⟨p, vs, rfl, q1, fun q hq => pl.newL s (cut_rps r1 lo hi) hq h'⟩
  · exact h'.elim
theorem l_sl {lo hi : Option Expr} {p2 : Pos} (ha : PE X a (LE X.K Wh A)) (hl : PO X lo (LO X.K Wh B)) (hh : PO X hi (LO X.K Wh C)) :
    PE X (.Subscript a (.Slice lo hi none p2) pos) (LE X.K Wh fun ρ S P W => A ρ S (fun x S1 => B ρ S1 (fun l S2 => partS l fun l => C ρ S2 (fun h S3 => partS h fun h => slS x l h S3 P) W) W) W) :=
  PE.imp (pe_slice (sl_list.or sl_tupA) ha hl hh) fun σ H Q ⟨ρ, S, W, P, se, wl, pl, h⟩ => by
    refine ⟨ρ, S, W, _, se, wl, fun x S1 h1 v H1 k1 s1 r1 => ⟨ρ, S1, W, _, se.at k1 s1, wl.at k1, fun l S2 h2 H2 k2 s2 => ?_, h1⟩, h⟩
    cases l <;> first
      | exact (show False from h2).elim
      | exact ⟨ρ, S2, W, _, se.at (k1.trans k2) s2, wl.at (k1.trans k2), fun d S3 h3 H3 k3 s3 => by
          cases d <;> first
            | exact (show False from h3).elim
            | exact sl_abs h3 s3 (Rp.kp (k2.trans k3) _ r1) (pl.at ((k1.trans k2).trans k3)), h2⟩
/-! ### calls -/
def FLe (K : PySem.W.Frag) (H : Hp) (W : FW) (E : XK) : Prop := ∀ k f S, W k f S → ∀ d H', Kp H H' → StoOk K H' S → FldOk K H' k d f → E (.ref (gaK K (clsN k))) d H'
def spOf (K : PySem.W.Frag) (n : Nat) (c : Con) : Sp := fun vs H Q E => vs.length = n ∧ ∃ ds S P W, Rps K H ds vs ∧ StoOk K H S ∧ PLe K H P Q ∧ FLe K H W E ∧ c ds S P W
theorem l_fn {k : Nat} {x : Str} {f : Addr} {fd : FuncData} {ps : List Str} {lev : Nat} {p : Pos} (tk : Takes X Wh) (F : FnOk X.prog X.w X.K X.mg X.base (L2.CX X.prog X.w) lev f fd ps (spOf X.K (Γ.ar k) (Γ.fn k))) (hr : Room lev X.A) (hg : Gl X x) (hm : X.mg x = some (.ref f)) (hk : PySem.W.keepIn X.K (.ref f) = true)
    (hb : Binds X.K fd ps []) (ha : PA X (e :: es) (LA X.K Wh As)) (hdb : (x == ("__debug__" : Str)) = false) (he : starEach (e :: es) X.env = (false, eval e X.env) :: starEach es X.env) (hpl : (backTo pos (starEach es X.env)).any (·.1) = false) :
    PE X (.Call (.Name x p) (e :: es) [] pos) (LE X.K Wh fun ρ S P W => As ρ S (fun ds S1 => ds.length = Γ.ar k ∧ Γ.fn k ds S1 P (fun c f S2 => W c f ρ S2)) W) :=
  PE.imp (pe_callS F hr hg hm hk hb (fun σ => passAt tk σ) ha hdb he hpl) fun σ H Q ⟨ρ, S, W, P, se, wl, pl, h⟩ =>
    ⟨ρ, S, W, _, se, wl, fun ds S1 h1 vs H1 k1 s1 r1 => ⟨by rw [r1.length]; exact h1.1, ds, S1, P, _, r1, s1, pl.at k1, fun c f S2 w d H2 k2 s2 fl => wl c f ρ S2 w d σ H2 (k1.trans k2) (se.at (k1.trans k2) s2) fl, h1.2⟩, h⟩
/-- a call with no arguments -/
theorem l_fn0 {k : Nat} {x : Str} {f : Addr} {fd : FuncData} {ps : List Str} {lev : Nat} {p : Pos} (tk : Takes X Wh) (F : FnOk X.prog X.w X.K X.mg X.base (L2.CX X.prog X.w) lev f fd ps (spOf X.K (Γ.ar k) (Γ.fn k))) (hr : Room lev X.A) (hg : Gl X x) (hm : X.mg x = some (.ref f)) (hk : PySem.W.keepIn X.K (.ref f) = true)
    (hb : Binds X.K fd ps []) (hdb : (x == ("__debug__" : Str)) = false) : PE X (.Call (.Name x p) [] [] pos) (LE X.K Wh fun ρ S P W => 0 = Γ.ar k ∧ Γ.fn k [] S P (fun c f S2 => W c f ρ S2)) := by
  constructor
  intro pins s σ H Q I ⟨ρ, S, W, P, se, wl, pl, h1, h2⟩
  have sp : spOf X.K (Γ.ar k) (Γ.fn k) [] H Q (WE Wh σ) := ⟨h1, [], S, P, _, rfl, se.sto, pl, fun c f S2 w d H2 k2 s2 fl => wl c f ρ S2 w d σ H2 k2 (se.at k2 s2) fl, h2⟩
  exact wpAny_Call_Name_kw (ld_glob I hg hm (PySem.W.callWith_K0 I.kIn hk (run_fnS (us := []) (E := fun σ => WE Wh σ) F hr hb (passAt tk σ) I .nil sp)) hdb)
/-! ### built-ins -/
def CallAbs (K : PySem.W.Frag) (r : List V → Hp → VK → Prop) (f : List D → Sto → PD → Prop) : Prop := ∀ ds S P, f ds S P → ∀ H vs Q, StoOk K H S → Rps K H ds vs → PLe K H P Q → r vs H Q
theorem l_cb {x : Str} {id : String} {r : List V → Hp → VK → Prop} {f : List D → Sto → PD → Prop} {p : Pos} (hc : CallR X (.builtin id) r) (hab : CallAbs X.K r f) (hg : Gl X x) (hm : X.mg x = none) (hv : bootBuiltins x = some (.builtin id)) (ha : PA X (e :: es) (LA X.K Wh As)) (hn : x ≠ "__name__") (hdb : (x == ("__debug__" : Str)) = false)
    (he : starEach (e :: es) X.env = (false, eval e X.env) :: starEach es X.env) (hpl : (backTo pos (starEach es X.env)).any (·.1) = false) : PE X (.Call (.Name x p) (e :: es) [] pos) (LE X.K Wh fun ρ S P W => As ρ S (fun ds S1 => f ds S1 P) W) :=
  PE.imp (pe_callB hc hg hm hv ha hn hdb he hpl) fun σ H Q ⟨ρ, S, W, P, se, wl, pl, h⟩ => ⟨ρ, S, W, _, se, wl, fun ds S1 h1 vs H1 k1 s1 r1 => hab _ _ _ h1 _ _ _ s1 r1 (pl.at k1), h⟩
theorem l_ct {x : Str} {T : String} {r : List V → Hp → VK → Prop} {f : List D → Sto → PD → Prop} {p : Pos} (hc : CallR X (.type T) r) (hab : CallAbs X.K r f) (hg : Gl X x) (hm : X.mg x = none) (hv : bootBuiltins x = some (.type T)) (ha : PA X (e :: es) (LA X.K Wh As)) (hn : x ≠ "__name__") (hdb : (x == ("__debug__" : Str)) = false)
    (he : starEach (e :: es) X.env = (false, eval e X.env) :: starEach es X.env) (hpl : (backTo pos (starEach es X.env)).any (·.1) = false) : PE X (.Call (.Name x p) (e :: es) [] pos) (LE X.K Wh fun ρ S P W => As ρ S (fun ds S1 => f ds S1 P) W) :=
  PE.imp (pe_callTy hc hg hm hv ha hn hdb he hpl) fun σ H Q ⟨ρ, S, W, P, se, wl, pl, h⟩ => ⟨ρ, S, W, _, se, wl, fun ds S1 h1 vs H1 k1 s1 r1 => hab _ _ _ h1 _ _ _ s1 r1 (pl.at k1), h⟩
end
end Sd
namespace Sd
open PySem PySem.Spec PyProof.Rows L2
section
variable {X : Cx} {K : PySem.W.Frag} {H : Hp} {S : Sto}
theorem Rps.one' {d : D} {vs : List V} (r : Rps K H [d] vs) : ∃ v, vs = [v] ∧ Rp K H d v := by
  obtain ⟨v, t, rfl, h, e⟩ := r
  rw [show t = [] from e]
  exact ⟨v, rfl, h⟩
theorem Rps.two' {d d' : D} {vs : List V} (r : Rps K H [d, d'] vs) : ∃ v w, vs = [v, w] ∧ Rp K H d v ∧ Rp K H d' w := by
  obtain ⟨v, t, rfl, h, e⟩ := r
  obtain ⟨w, rfl, h2⟩ := Rps.one' e
  exact ⟨v, w, rfl, h, h2⟩
theorem Rps.nil' {vs : List V} (r : Rps K H [] vs) : vs = [] := r
theorem intL_rps : ∀ {l : List D} {vs : List V} {ns : List Int}, Rps K H l vs → intL l = some ns → vs = ns.map V.int
  | [], _, _, r, e => by
    rw [r.nil']
    simp only [intL, Option.some.injEq] at e
    subst e
    rfl
  | d :: l, _, _, r, e => by
    obtain ⟨v, t, rfl, h, q⟩ := r
    cases d <;> (try (simp [intL] at e; done))
    simp only [intL] at e
    cases z : intL l with
    | none => rw [z] at e; cases e
    | some m =>
      rw [z] at e
      simp only [Option.some.injEq] at e
      subst e
      cases h
      rw [intL_rps q z]
      rfl
theorem boolL_rps : ∀ {l : List D} {vs : List V} {ns : List Bool}, Rps K H l vs → boolL l = some ns → vs = ns.map V.bl
  | [], _, _, r, e => by
    rw [r.nil']
    simp only [boolL, Option.some.injEq] at e
    subst e
    rfl
  | d :: l, _, _, r, e => by
    obtain ⟨v, t, rfl, h, q⟩ := r
    cases d <;> (try (simp [boolL] at e; done))
    simp only [boolL] at e
    cases z : boolL l with
    | none => rw [z] at e; cases e
    | some m =>
      rw [z] at e
      simp only [Option.some.injEq] at e
      subst e
      cases h
      rw [boolL_rps q z]
      rfl
theorem lstD_rd {d : D} {v : V} {l : List D} (s : StoOk K H S) (r : Rp K H d v) (e : lstD S d = some l) : ∃ a vs, v = .ref a ∧ SqL K H a vs ∧ Rps K H l vs := by
  cases d <;> (try (simp [lstD] at e; done))
  rename_i a
  cases r
  simp only [lstD] at e
  split at e
  · rename_i w m q
    simp only [Option.some.injEq] at e
    subst e
    obtain ⟨vs, q1, r1⟩ := s.rd q
    exact ⟨a, vs, rfl, q1, r1⟩
  · cases e
theorem seqD_rd {d : D} {v : V} {l : List D} (s : StoOk K H S) (r : Rp K H d v) (e : seqD S d = some l) : ∃ a vs, v = .ref a ∧ (SqL K H a vs ∨ SqT K H a vs) ∧ Rps K H l vs := by
  cases d <;> (try (simp [seqD] at e; done))
  · rename_i a
    cases r
    simp only [seqD] at e
    split at e
    · rename_i w m q
      simp only [Option.some.injEq] at e
      subst e
      obtain ⟨vs, q1, r1⟩ := s.rd q
      exact ⟨a, vs, rfl, .inl q1, r1⟩
    · cases e
  · simp only [seqD, Option.some.injEq] at e
    subst e
    obtain ⟨a, vs, rfl, q, rs⟩ := r
    exact ⟨a, vs, rfl, .inr q, rs⟩
theorem ab_str : CallAbs K (fun xs H Q => ∃ i, xs = [.int i] ∧ i.natAbs.log2 < 1920 ∧ Q (.str (toString i)) H) (biS .str) := by
  intro ds S P h H vs Q s r pl
  match ds, h with
  | [.int i], h =>
    obtain ⟨v, rfl, rv⟩ := r.one'
    cases rv
    exact ⟨i, rfl, h.1, pl.now h.2 s rfl⟩
theorem ab_abs : CallAbs K (fun xs H Q => ∃ i, xs = [.int i] ∧ Q (.int (if i < 0 then -i else i)) H) (biS .abs) := by
  intro ds S P h H vs Q s r pl
  match ds, h with
  | [.int i], h =>
    obtain ⟨v, rfl, rv⟩ := r.one'
    cases rv
    exact ⟨i, rfl, pl.now h s rfl⟩
theorem ab_int : CallAbs K (fun xs H Q => (∃ i, xs = [.int i] ∧ Q (.int i) H) ∨ ∃ k, xs = [.bl k] ∧ Q (.int (if k then 1 else 0)) H) (biS .int) := by
  intro ds S P h H vs Q s r pl
  match ds, h with
  | [.int i], h =>
    obtain ⟨v, rfl, rv⟩ := r.one'
    cases rv
    exact .inl ⟨i, rfl, pl.now h s rfl⟩
  | [.bl i], h =>
    obtain ⟨v, rfl, rv⟩ := r.one'
    cases rv
    exact .inr ⟨i, rfl, pl.now h s rfl⟩
theorem ab_min2 : CallAbs K (fun xs H Q => ∃ i j, xs = [.int i, .int j] ∧ Q (.int (if j < i then j else i)) H) (biS .min2) := by
  intro ds S P h H vs Q s r pl
  match ds, h with
  | [.int i, .int j], h =>
    obtain ⟨v, w, rfl, rv, rw'⟩ := r.two'
    cases rv; cases rw'
    exact ⟨i, j, rfl, pl.now h s rfl⟩
theorem ab_max2 : CallAbs K (fun xs H Q => ∃ i j, xs = [.int i, .int j] ∧ Q (.int (if j > i then j else i)) H) (biS .max2) := by
  intro ds S P h H vs Q s r pl
  match ds, h with
  | [.int i, .int j], h =>
    obtain ⟨v, w, rfl, rv, rw'⟩ := r.two'
    cases rv; cases rw'
    exact ⟨i, j, rfl, pl.now h s rfl⟩
def rLenA (K : PySem.W.Frag) : List V → Hp → VK → Prop := fun xs H Q => (∃ p ys, xs = [.ref p] ∧ (SqL K H p ys ∨ SqT K H p ys) ∧ Q (.int ys.length) H) ∨ ∃ z, xs = [.str z] ∧ z.length ≤ sizeLine ∧ Q (.int z.length) H
theorem cr_lenA : CallR X (.builtin "len") (rLenA X.K) := call_len_seq.or call_len_str
theorem one_of {α : Type} {ds : List α} {p : Prop} (h : match ds with | [_] => p | _ => False) : ∃ d, ds = [d] := by
  match ds, h with
  | [d], _ => exact ⟨d, rfl⟩
theorem ab_len : CallAbs K (rLenA K) (biS .len) := by
  intro ds S P h H vs Q s r pl
  match ds, h with
  | [d], h =>
    obtain ⟨v, rfl, rv⟩ := r.one'
    have h' : (match seqD S d with
      | some l => P (.int l.length) S
      | none => (match d with
        | .str z => z.length ≤ sizeLine ∧ P (.int z.length) S
        | _ => False)) := by cases d <;> exact h
    split at h'
    · rename_i l e
      obtain ⟨a, us, rfl, q, rs⟩ := seqD_rd s rv e
      exact .inl ⟨a, us, rfl, q, by rw [rs.length]; exact pl.now h' s rfl⟩
    · cases d <;> (try exact (show False from h').elim)
      cases rv
      exact .inr ⟨_, rfl, h'.1, pl.now h'.2 s rfl⟩
theorem ab_sum : CallAbs K (rSum K) (biS .sum) := by
  intro ds S P h H vs Q s r pl
  match ds, h with
  | [d], h =>
    obtain ⟨v, rfl, rv⟩ := r.one'
    have h' : (match lstD S d with
      | some l => (match intL l with
        | some ns => P (.int ns.sum) S
        | none => False)
      | none => False) := by cases d <;> exact h
    split at h'
    · rename_i l e
      obtain ⟨a, us, rfl, q, rs⟩ := lstD_rd s rv e
      split at h'
      · rename_i ns en
        exact ⟨a, ns, rfl, by rw [← intL_rps rs en]; exact q, pl.now h' s rfl⟩
      · exact h'.elim
    · exact h'.elim
theorem ab_min1 : CallAbs K (rMin K) (biS .min1) := by
  intro ds S P h H vs Q s r pl
  match ds, h with
  | [d], h =>
    obtain ⟨v, rfl, rv⟩ := r.one'
    have h' : (match lstD S d with
      | some l => (match intL l with
        | some ns => 0 < ns.length ∧ ∀ m, m ∈ ns → (∀ y, y ∈ ns → m ≤ y) → P (.int m) S
        | none => False)
      | none => False) := by cases d <;> exact h
    split at h'
    · rename_i l e
      obtain ⟨a, us, rfl, q, rs⟩ := lstD_rd s rv e
      split at h'
      · rename_i ns en
        exact ⟨a, ns, rfl, by rw [← intL_rps rs en]; exact q, h'.1, fun m h1 h2 => pl.now (h'.2 m h1 h2) s rfl⟩
      · exact h'.elim
    · exact h'.elim
theorem ab_max1 : CallAbs K (rMax K) (biS .max1) := by
  intro ds S P h H vs Q s r pl
  match ds, h with
  | [d], h =>
    obtain ⟨v, rfl, rv⟩ := r.one'
    have h' : (match lstD S d with
      | some l => (match intL l with
        | some ns => 0 < ns.length ∧ ∀ m, m ∈ ns → (∀ y, y ∈ ns → y ≤ m) → P (.int m) S
        | none => False)
      | none => False) := by cases d <;> exact h
    split at h'
    · rename_i l e
      obtain ⟨a, us, rfl, q, rs⟩ := lstD_rd s rv e
      split at h'
      · rename_i ns en
        exact ⟨a, ns, rfl, by rw [← intL_rps rs en]; exact q, h'.1, fun m h1 h2 => pl.now (h'.2 m h1 h2) s rfl⟩
      · exact h'.elim
    · exact h'.elim
theorem ab_all : CallAbs K (rAll K) (biS .all) := by
  intro ds S P h H vs Q s r pl
  match ds, h with
  | [d], h =>
    obtain ⟨v, rfl, rv⟩ := r.one'
    have h' : (match lstD S d with
      | some l => (match boolL l with
        | some ns => P (.bl (ns.all id)) S
        | none => False)
      | none => False) := by cases d <;> exact h
    split at h'
    · rename_i l e
      obtain ⟨a, us, rfl, q, rs⟩ := lstD_rd s rv e
      split at h'
      · rename_i ns en
        exact ⟨a, ns, rfl, by rw [← boolL_rps rs en]; exact q, pl.now h' s rfl⟩
      · exact h'.elim
    · exact h'.elim
theorem ab_any : CallAbs K (rAny K) (biS .any) := by
  intro ds S P h H vs Q s r pl
  match ds, h with
  | [d], h =>
    obtain ⟨v, rfl, rv⟩ := r.one'
    have h' : (match lstD S d with
      | some l => (match boolL l with
        | some ns => P (.bl (ns.any id)) S
        | none => False)
      | none => False) := by cases d <;> exact h
    split at h'
    · rename_i l e
      obtain ⟨a, us, rfl, q, rs⟩ := lstD_rd s rv e
      split at h'
      · rename_i ns en
        exact ⟨a, ns, rfl, by rw [← boolL_rps rs en]; exact q, pl.now h' s rfl⟩
      · exact h'.elim
    · exact h'.elim
theorem ab_list : CallAbs K (fun xs H Q => ∃ p ys, xs = [.ref p] ∧ (SqL K H p ys ∨ SqT K H p ys) ∧ ∀ l, H l = none → Q (.ref l) (upd H l (.lst ys))) (biS .list) := by
  intro ds S P h H vs Q s r pl
  match ds, h with
  | [d], h =>
    obtain ⟨v, rfl, rv⟩ := r.one'
    have h' : (match seqD S d with
      | some l => ∀ p, S p = none → P (.ref p) (S.up p (.lst true l))
      | none => False) := by cases d <;> exact h
    split at h'
    · rename_i l e
      obtain ⟨a, us, rfl, q, rs⟩ := seqD_rd s rv e
      exact ⟨a, us, rfl, q, fun p hp => pl.newL s rs hp h'⟩
    · exact h'.elim
theorem ab_tuple : CallAbs K (fun xs H Q => ∃ p ys, xs = [.ref p] ∧ ((SqL K H p ys ∧ ∀ l, H l = none → Q (.ref l) (upd H l (.tup ys))) ∨ (SqT K H p ys ∧ Q (.ref p) H))) (biS .tuple) := by
  intro ds S P h H vs Q s r pl
  match ds, h with
  | [d], h =>
    obtain ⟨v, rfl, rv⟩ := r.one'
    have h' : (match seqD S d with
      | some l => P (.tup l) S
      | none => False) := by cases d <;> exact h
    split at h'
    · rename_i l e
      obtain ⟨a, us, rfl, q, rs⟩ := seqD_rd s rv e
      rcases q with q | q
      · exact ⟨a, us, rfl, .inl ⟨q, fun p hp => pl.newT s rs hp h'⟩⟩
      · exact ⟨a, us, rfl, .inr ⟨q, pl.now h' s ⟨a, us, rfl, q, rs⟩⟩⟩
    · exact h'.elim
theorem rps_ints : ∀ (ns : List Int), Rps K H (ns.map D.int) (ns.map V.int)
  | [] => rfl
  | n :: ns => ⟨.int n, ns.map V.int, rfl, rfl, rps_ints ns⟩
theorem ab_sorted : CallAbs K (rSortedI K) (biS .sorted) := by
  intro ds S P h H vs Q s r pl
  match ds, h with
  | [d], h =>
    obtain ⟨v, rfl, rv⟩ := r.one'
    have h' : (match lstD S d with
      | some l => (match intL l with
        | some ns => ∀ (ns' : List Int) (p : Addr), ns'.Perm ns → ns'.Pairwise (· ≤ ·) → S p = none → P (.ref p) (S.up p (.lst true (ns'.map D.int)))
        | none => False)
      | none => False) := by cases d <;> exact h
    split at h'
    · rename_i l e
      obtain ⟨a, us, rfl, q, rs⟩ := lstD_rd s rv e
      split at h'
      · rename_i ns en
        exact ⟨a, ns, rfl, by rw [← intL_rps rs en]; exact q, fun ns' p h1 h2 hp => pl.newL s (rps_ints ns') hp fun p hp => h' ns' p h1 h2 hp⟩
      · exact h'.elim
    · exact h'.elim
end
/-- where a built-in stands -/
inductive BV where
  | fn (id : String)
  | ty (T : String)
def biV : BI → BV
  | .abs => .fn "abs" | .len => .fn "len" | .int => .ty "int" | .min2 => .fn "min" | .max2 => .fn "max" | .min1 => .fn "min" | .max1 => .fn "max" | .sum => .fn "sum" | .all => .fn "all" | .any => .fn "any" | .list => .ty "list" | .tuple => .ty "tuple" | .str => .ty "str" | .sorted => .fn "sorted"
def biX : BI → Str
  | .abs => "abs" | .len => "len" | .int => "int" | .min2 => "min" | .max2 => "max" | .min1 => "min" | .max1 => "max" | .sum => "sum" | .all => "all" | .any => "any" | .list => "list" | .tuple => "tuple" | .str => "str" | .sorted => "sorted"
def BV.val : BV → Value
  | .fn id => .builtin id
  | .ty T => .type T
theorem bi_boot (b : BI) : bootBuiltins (biX b) = some (biV b).val := by
  cases b <;> decide +kernel
theorem bi_all {X : Cx} (hc : X.calm = true) (b : BI) : ∃ r, CallR X (biV b).val r ∧ CallAbs X.K r (biS b) := by
  cases b
  case abs => exact ⟨_, call_abs, ab_abs⟩
  case len => exact ⟨_, cr_lenA, ab_len⟩
  case int => exact ⟨_, call_int1, ab_int⟩
  case min2 => exact ⟨_, call_min2 hc, ab_min2⟩
  case max2 => exact ⟨_, call_max2 hc, ab_max2⟩
  case min1 => exact ⟨_, cr_min hc, ab_min1⟩
  case max1 => exact ⟨_, cr_max hc, ab_max1⟩
  case sum => exact ⟨_, cr_sum hc, ab_sum⟩
  case all => exact ⟨_, cr_all hc, ab_all⟩
  case any => exact ⟨_, cr_any hc, ab_any⟩
  case list => exact ⟨_, call_list_of, ab_list⟩
  case tuple => exact ⟨_, call_tuple_of, ab_tuple⟩
  case str => exact ⟨_, call_str_int, ab_str⟩
  case sorted => exact ⟨_, cr_sortedI, ab_sorted⟩
section
variable {X : Cx} {Wh : WX} {As : AA} {e : Expr} {es : List Expr} {pos : Pos}
theorem l_bi {b : BI} {p : Pos} (hc : X.calm = true) (hg : Gl X (biX b)) (hm : X.mg (biX b) = none) (ha : PA X (e :: es) (LA X.K Wh As))
    (he : starEach (e :: es) X.env = (false, eval e X.env) :: starEach es X.env) (hpl : (backTo pos (starEach es X.env)).any (·.1) = false) : PE X (.Call (.Name (biX b) p) (e :: es) [] pos) (LE X.K Wh fun ρ S P W => As ρ S (fun ds S1 => biS b ds S1 P) W) := by
  obtain ⟨r, h1, h2⟩ := bi_all (X := X) hc b
  have hv := bi_boot b
  have hn : biX b ≠ "__name__" := by cases b <;> decide
  have hdb : (biX b == ("__debug__" : Str)) = false := by cases b <;> decide
  cases q : biV b with
  | fn id => rw [q] at h1 hv; exact l_cb h1 h2 hg hm hv ha hn hdb he hpl
  | ty T => rw [q] at h1 hv; exact l_ct h1 h2 hg hm hv ha hn hdb he hpl
end
end Sd
namespace Sd
open PySem PySem.Spec PyProof.Rows L2
/-! ### classes of errors -/
def btNames : List String := ["int", "bool", "tuple", "list", "str", "dict", "ValueError"]
def btKinds : List String := ["NoneType", "bool", "int", "str", "tuple", "list"]
/-- what the written part says of the k-th class -/
structure CF (K : PySem.W.Frag) (k : Nat) : Prop where
  exc : ExcC K (gaK K (clsN k))
  nof : PySem.W.findIn K (.ref (gaK K (clsN k))) (fldN k) = some none
  bts : ∀ n, n ∈ btNames → PySem.W.kitOne K (.ref (gaK K (clsN k))) (.type n) = some (n == "ValueError")
  kin : ∀ b, b ∈ btKinds → PySem.W.kitOne K (.type b) (.ref (gaK K (clsN k))) = some false
/-- of two classes -/
structure CF2 (K : PySem.W.Frag) (j k : Nat) : Prop where
  exm : PySem.W.exmOne K (.ref (gaK K (clsN j))) (.ref (gaK K (clsN k))) = some (subK j k)
  kit : PySem.W.kitOne K (.ref (gaK K (clsN j))) (.ref (gaK K (clsN k))) = some (subK j k)
structure CFs (K : PySem.W.Frag) : Prop where
  one : ∀ k, Kn K k → CF K k
  two : ∀ j k, Kn K j → Kn K k → CF2 K j k
section
variable {X : Cx} {K : PySem.W.Frag} {H : Hp} {S : Sto}
/-- the kind of a value: a datum's, a caught error's -/
inductive TyA (K : PySem.W.Frag) (H : Hp) : V → Value → Prop where
  | b {x : V} {t : Value} (h : TyX K H x t) : TyA K H x t
  | e {a C : Addr} {d : Option Addr} (h : H a = some (ExV (.ref C) d a)) (hd : d = none ∨ ∃ dd fs, d = some dd ∧ H dd = some (.xd fs)) (c : ExcC K C) : TyA K H (.ref a) (.ref C)
theorem kit_ofA {pins : List (Addr × Obj)} {σ : L2.St} {s : Shared} {x : V} {u t : Value} (I : L2.Inv X pins σ H s) (rx : RelV x u) (ty : TyA X.K H x t) :
    ∃ P : Heap → Prop, PySem.W.KitX X.K u t P ∧ P s.heap ∧ u ≠ .builtin "__main__.__loader__#opaque" := by
  cases ty with
  | b h => exact kit_of I rx h
  | @e a C d h hd c =>
    cases (show u = Value.ref a from rx)
    obtain ⟨⟨oe, vs, hg, hz, hdd⟩, _, _⟩ := I.hok a _ h
    have hcl : (PySem.W.clsIn X.K C).isSome = true := by
      obtain ⟨cd, hc, _⟩ := PySem.W.any_some c.hd
      rw [hc]; rfl
    rcases hd with rfl | ⟨dd, fs, rfl, ed⟩
    · have J : PySem.W.InstAt s.heap a oe C none := ⟨hg, hz.1, by unfold PySem.W.notCls; rw [hdd] <;> rfl, by rw [hz.2]; trivial⟩
      exact ⟨_, PySem.W.kitx_exc hcl c.hg c.hk c.hs c.ha c.hn c.ht c.hm, J, fun z => nomatch z⟩
    · obtain ⟨mA, hns, _⟩ : ObjOk X.prog X.w H s.heap dd (.xd fs) := I.hok dd _ ed
      obtain ⟨od, ho, _⟩ := lookIn_ns hns
      have J : PySem.W.InstAt s.heap a oe C (some od) := ⟨hg, hz.1, by unfold PySem.W.notCls; rw [hdd] <;> rfl, by rw [hz.2]; exact ho⟩
      exact ⟨_, PySem.W.kitx_exc hcl c.hg c.hk c.hs c.ha c.hn c.ht c.hm, J, fun z => nomatch z⟩
def rIsA (K : PySem.W.Frag) : List V → Hp → VK → Prop := fun xs H Q => ∃ (x c : V) (t u : Value) (b : Bool), xs = [x, c] ∧ ClsV c u ∧ TyA K H x t ∧ PySem.W.kitOne K t u = some b ∧ Q (.bl b) H
def rIsAT (K : PySem.W.Frag) : List V → Hp → VK → Prop := fun xs H Q => ∃ (x : V) (tp : Addr) (cs : List V) (t : Value) (us : List Value) (b : Bool), xs = [x, .ref tp] ∧ H tp = some (.tup cs) ∧ Paired ClsV cs us ∧ TyA K H x t ∧ PySem.W.kitAny K t us = some b ∧ Q (.bl b) H
theorem cr_isA : CallR X (.builtin "isinstance") (rIsA X.K) := by
  intro pins s σ H xs us Q I r h
  obtain ⟨x, c, t, u, b, rfl, k, ty, e, q⟩ := h
  obtain ⟨w1, w2, rfl, r1, r2⟩ := vals2 r
  cases k.eq r2
  obtain ⟨P, Z, p, hx⟩ := kit_ofA I r1 ty
  exact PySem.W.kia_one Z I.kIn p e hx fun tk => ⟨.bl b, H, I.tok tk, rfl, q⟩
theorem cr_isAT : CallR X (.builtin "isinstance") (rIsAT X.K) := by
  intro pins s σ H xs us Q I r h
  obtain ⟨x, tp, cs, t, ws, b, rfl, hT, k, ty, e, q⟩ := h
  obtain ⟨w1, w2, rfl, r1, r2⟩ := vals2 r
  cases (show w2 = Value.ref tp from r2)
  obtain ⟨P, Z, p, hx⟩ := kit_ofA I r1 ty
  obtain ⟨_, its, rv, o, g1, g2, n, g3⟩ := (show ObjOk X.prog X.w H s.heap tp (.tup cs) from I.hok tp _ hT)
  cases ClsV.all k rv
  obtain ⟨oc, od, dt, sl⟩ := o
  simp only at g2 g3
  subst g2 g3
  exact PySem.W.kia_tup Z I.kIn p g1 e hx fun tk => ⟨.bl b, H, I.tok tk, rfl, q⟩
/-- what the class at c is -/
def TyF (K : PySem.W.Frag) (t : TyN) (c : V) (u : Value) : Prop := match t with
  | .bt n => n ∈ btNames ∧ c = .ty n ∧ u = .type n
  | .cl k => Kn K k ∧ c = .ref (gaK K (clsN k)) ∧ u = .ref (gaK K (clsN k))
theorem TyF.cls {t : TyN} {c : V} {u : Value} (h : TyF K t c u) : ClsV c u := by
  cases t with
  | bt n => obtain ⟨_, rfl, rfl⟩ := h; exact .ty n
  | cl k => obtain ⟨_, rfl, rfl⟩ := h; exact .own _
theorem bt_ty {d : D} {v : V} {b : String} (s : StoOk K H S) (r : Rp K H d v) (e : btOf S d = some b) : TyX K H v (.type b) ∧ b ∈ btKinds := by
  cases d with
  | non => cases r; cases e; exact ⟨.base .non, by decide⟩
  | bl c => cases r; cases e; exact ⟨.base (.bl c), by decide⟩
  | int i => cases r; cases e; exact ⟨.base (.int i), by decide⟩
  | str x => cases r; cases e; exact ⟨.base (.str x), by decide⟩
  | ty n => cases e
  | tup l =>
    cases e
    obtain ⟨a, vs, rfl, q, _⟩ := r
    refine ⟨?_, by decide⟩
    rcases q with (q | ⟨o, q⟩) | ⟨o, its, n, q, hc, _⟩
    · exact .base (.tup q)
    · exact .fTuple q
    · exact .kTuple q hc
  | ref a =>
    cases r
    simp only [btOf] at e
    split at e
    · rename_i w l q
      cases e
      refine ⟨?_, by decide⟩
      have z := s a _ q
      cases w with
      | true => obtain ⟨vs, h, _⟩ := z; exact .base (.lst h)
      | false => obtain ⟨o, vs, h, _⟩ := z; exact .base (.frz h)
    · cases e
theorem kb_all : ∀ b, b ∈ btKinds → ∀ n, n ∈ btNames → kitB b n = some (btSub b n) := by decide +kernel
theorem isi_one {d : D} {v : V} {t : TyN} {c : V} {u : Value} {b : Bool} (F : CFs K) (s : StoOk K H S) (r : Rp K H d v) (e : isiOne S d t = some b) (ty : TyF K t c u) : ∃ tv, (TyA K H v tv ∧ ∀ t' c' u' b', isiOne S d t' = some b' → TyF K t' c' u' → PySem.W.kitOne K tv u' = some b') ∧ PySem.W.kitOne K tv u = some b := by
  have key : ∃ tv, TyA K H v tv ∧ ∀ t' c' u' b', isiOne S d t' = some b' → TyF K t' c' u' → PySem.W.kitOne K tv u' = some b' := by
    unfold isiOne at e
    cases q : btOf S d with
    | some k =>
      obtain ⟨h1, h2⟩ := bt_ty s r q
      refine ⟨_, .b h1, fun t' c' u' b' e' ty' => ?_⟩
      unfold isiOne at e'
      rw [q] at e'
      cases t' with
      | bt n =>
        obtain ⟨hn, rfl, rfl⟩ := ty'
        rw [← e']
        exact kit_ty (kb_all k h2 n hn)
      | cl j =>
        obtain ⟨hn, rfl, rfl⟩ := ty'
        rw [← e']
        exact (F.one j hn).kin k h2
    | none =>
      rw [q] at e
      cases d <;> (try (cases e; done))
      rename_i a
      cases r
      dsimp only at e
      split at e
      · rename_i k f q2
        obtain ⟨dd, h1, h2⟩ := s a _ q2
        have kn := h2.kn
        have hdd : dd = none ∨ ∃ d' fs, dd = some d' ∧ H d' = some (.xd fs) := by
          cases f with
          | none => exact .inl h2.2
          | some x =>
            obtain ⟨_, da, v, e1, e2, _⟩ := h2
            exact .inr ⟨da, _, e1, e2⟩
        refine ⟨_, .e h1 hdd (F.one k kn).exc, fun t' c' u' b' e' ty' => ?_⟩
        unfold isiOne at e'
        rw [q] at e'
        dsimp only at e'
        rw [q2] at e'
        cases t' with
        | bt n =>
          obtain ⟨hn, rfl, rfl⟩ := ty'
          rw [← e']
          exact (F.one k kn).bts n hn
        | cl j =>
          obtain ⟨hn, rfl, rfl⟩ := ty'
          rw [← e']
          exact (F.two k j kn hn).kit
      · cases e
  obtain ⟨tv, h1, h2⟩ := key
  exact ⟨tv, ⟨h1, h2⟩, h2 t c u b e ty⟩
theorem isi_any {d : D} {v : V} (F : CFs K) (s : StoOk K H S) (r : Rp K H d v) {tv : Value} (h2 : ∀ t' c' u' b', isiOne S d t' = some b' → TyF K t' c' u' → PySem.W.kitOne K tv u' = some b') :
    ∀ {ts : List TyN} {cs : List V} {us : List Value} {b : Bool}, Paired (fun (q : TyN × V) u => TyF K q.1 q.2 u) (ts.zip cs) us → ts.length = cs.length → isiAny S d ts = some b → PySem.W.kitAny K tv us = some b
  | [], [], _, b, p, _, e => by
    cases p
    exact e
  | t :: ts, c :: cs, _, b, p, hl, e => by
    cases p with
    | cons h p =>
      simp only [isiAny] at e
      unfold PySem.W.kitAny
      cases q : isiOne S d t with
      | none => rw [q] at e; cases e
      | some k =>
        rw [q] at e
        rw [h2 t c _ k q h]
        cases k with
        | true => exact e
        | false => exact isi_any F s r h2 p (by simpa using hl) e
end
end Sd
namespace Sd
open PySem PySem.Spec PyProof.Rows L2
section
variable {X : Cx} {Wh : WX} {Γ : Gam} {A B C : AE} {As : AA} {a b c e : Expr} {es rest : List Expr} {pos : Pos} {K : PySem.W.Frag} {H : Hp} {S : Sto}
/-! ### isinstance -/
/-- a class's name as a value -/
def ClsE (X : Cx) (e : Expr) (t : TyN) : Prop := ∃ c u, PE X e (tC c) ∧ TyF X.K t c u ∧ ∀ es, starEach (e :: es) X.env = (false, eval e X.env) :: starEach es X.env
theorem l_isi1 {t : TyN} {te : Expr} {p : Pos} (F : CFs X.K) (hg : Gl X "isinstance") (hm : X.mg "isinstance" = none) (ha : PE X a (LE X.K Wh A)) (ht : ClsE X te t) (hs : starEach [a, te] X.env = (false, eval a X.env) :: starEach [te] X.env) :
    PE X (.Call (.Name "isinstance" p) [a, te] [] pos) (LE X.K Wh fun ρ S P W => A ρ S (fun x S1 => match isiAny S1 x [t] with
      | some b => P (.bl b) S1
      | none => False) W) := by
  obtain ⟨c, u, hc, ty, hst⟩ := ht
  have hpl : (backTo pos (starEach [te] X.env)).any (·.1) = false := by
    rw [hst []]
    rfl
  refine PE.imp (pe_callB cr_isA hg hm (by decide +kernel) (pa_cons ha (pa_cons hc pa_nil (hst [])) hs) (by decide) (by decide) hs hpl) fun σ H Q ⟨ρ, S, W, P, se, wl, pl, h⟩ => ?_
  refine ⟨ρ, S, W, _, se, wl, fun x S1 h1 v H1 k1 s1 r1 => ?_, h⟩
  cases q : isiOne S1 x t with
  | none =>
    simp only [isiAny, q] at h1
  | some b =>
    have h2 : P (.bl b) S1 := by
      simp only [isiAny, q] at h1
      cases b <;> exact h1
    obtain ⟨tv, ⟨z1, _⟩, z2⟩ := isi_one F s1 r1 q ty
    exact ⟨v, c, tv, u, b, rfl, ty.cls, z1, z2, pl _ _ h2 _ H1 k1 s1 rfl⟩
/-- several classes' names -/
inductive ClsEs (X : Cx) : List Expr → List TyN → List V → List Value → Prop where
  | nil : ClsEs X [] [] [] []
  | cons {e : Expr} {es : List Expr} {t : TyN} {ts : List TyN} {c : V} {cs : List V} {u : Value} {us : List Value} (h : PE X e (tC c)) (ty : TyF X.K t c u) (st : starEach (e :: es) X.env = (false, eval e X.env) :: starEach es X.env) (r : ClsEs X es ts cs us) : ClsEs X (e :: es) (t :: ts) (c :: cs) (u :: us)
theorem ClsEs.pa {ts : List TyN} {cs : List V} {us : List Value} (h : ClsEs X es ts cs us) : PA X es (fun _ H Q => Q cs H) := by
  induction h with
  | nil => exact PA.imp pa_nil fun _ _ _ q => q
  | cons h ty st r ih => exact PA.imp (pa_cons h ih st) fun _ _ _ q => q
theorem ClsEs.len {ts : List TyN} {cs : List V} {us : List Value} (h : ClsEs X es ts cs us) : ts.length = cs.length := by
  induction h with
  | nil => rfl
  | cons h ty st r ih => simp [ih]
theorem ClsEs.cls {ts : List TyN} {cs : List V} {us : List Value} (h : ClsEs X es ts cs us) : Paired ClsV cs us := by
  induction h with
  | nil => exact .nil
  | cons h ty st r ih => exact .cons ty.cls ih
theorem ClsEs.tyf {ts : List TyN} {cs : List V} {us : List Value} (h : ClsEs X es ts cs us) : Paired (fun (q : TyN × V) u => TyF X.K q.1 q.2 u) (ts.zip cs) us := by
  induction h with
  | nil => exact .nil
  | cons h ty st r ih => exact .cons ty ih
theorem isiAny_one {d : D} {ts : List TyN} {b : Bool} (h : isiAny S d ts = some b) (hn : ts ≠ []) : ∃ t b', t ∈ ts ∧ isiOne S d t = some b' := by
  cases ts with
  | nil => exact absurd rfl hn
  | cons t r =>
    simp only [isiAny] at h
    cases q : isiOne S d t with
    | none => rw [q] at h; cases h
    | some k => exact ⟨t, k, List.mem_cons_self, q⟩
theorem l_isiT {t : TyN} {ts : List TyN} {cs : List V} {us : List Value} {p p2 : Pos} {x1} (F : CFs X.K) (hg : Gl X "isinstance") (hm : X.mg "isinstance" = none) (ha : PE X a (LE X.K Wh A)) (ht : ClsEs X es (t :: ts) cs us) (hz : es.length ≤ 100)
    (hs : starEach [a, .Tuple es x1 p2] X.env = (false, eval a X.env) :: starEach [.Tuple es x1 p2] X.env) :
    PE X (.Call (.Name "isinstance" p) [a, .Tuple es x1 p2] [] pos) (LE X.K Wh fun ρ S P W => A ρ S (fun x S1 => match isiAny S1 x (t :: ts) with
      | some b => P (.bl b) S1
      | none => False) W) := by
  have hcl : cs.length ≤ sizeLine := by
    have h1 : ∀ {es ts cs us}, ClsEs X es ts cs us → cs.length = es.length := fun h => by
      induction h with
      | nil => rfl
      | cons _ _ _ _ ih => simp [ih]
    rw [h1 ht, sizeLine_eq]
    omega
  refine PE.imp (pe_callB cr_isAT hg hm (by decide +kernel) (pa_cons ha (pa_cons (pe_tup ht.pa) pa_nil rfl) hs) (by decide) (by decide) hs rfl) fun σ H Q ⟨ρ, S, W, P, se, wl, pl, h⟩ => ?_
  refine ⟨ρ, S, W, _, se, wl, fun x S1 h1 v H1 k1 s1 r1 => ?_, h⟩
  refine ⟨hcl, fun tp htp => ?_⟩
  have k2 := Kp.new (o := HO.tup cs) htp
  have s2 := s1.sm (Sm.new (o := HO.tup cs) htp)
  have r2 := Rp.kp k2 _ r1
  split at h1
  · rename_i b eb
    have hp2 := ht
    cases ht with
    | cons hp ty st r =>
      have q0 : ∃ b0, isiOne S1 x t = some b0 := by
        simp only [isiAny] at eb
        cases z : isiOne S1 x t with
        | none => rw [z] at eb; cases eb
        | some k => exact ⟨k, rfl⟩
      obtain ⟨b1, q1⟩ := q0
      obtain ⟨tv, ⟨z1, z2⟩, _⟩ := isi_one F s2 r2 q1 ty
      exact ⟨v, tp, _, tv, _, b, rfl, upd_same, hp2.cls, z1, isi_any F s2 r2 z2 hp2.tyf hp2.len eb, pl _ _ h1 _ _ (k1.trans k2) s2 rfl⟩
  · exact h1.elim
/-! ### methods of lists -/
def meId : ME → String
  | .append => "list.append" | .pop0 => "list.pop" | .pop1 => "list.pop" | .reverse => "list.reverse" | .clear => "list.clear" | .extend => "list.extend" | .insert => "list.insert"
def MeAbs (K : PySem.W.Frag) (r : V → List V → Hp → VK → Prop) (f : D → List D → Sto → PD → Prop) : Prop := ∀ x ds S P, f x ds S P → ∀ H v vs Q, StoOk K H S → Rp K H x v → Rps K H ds vs → PLe K H P Q → r v vs H Q
theorem me_lst {m : ME} {x : D} {ds : List D} {P : PD} (h : meS m x ds S P) : ∃ a l, x = .ref a ∧ S a = some (.lst true l) := by
  cases x <;> (try exact (show False from h).elim)
  rename_i a
  unfold meS at h
  dsimp only at h
  split at h
  · rename_i l e
    exact ⟨a, l, rfl, e⟩
  · exact h.elim
/-- a list changed, the answer None -/
theorem PLe.put {P : PD} {Q : VK} {p : Addr} {l' : List D} {xs ys : List V} {d : D} {v : V} (h : PLe K H P Q) (s : StoOk K H S) (hp : H p = some (.lst xs)) (hr : Rps K H l' ys) (q : P d (S.up p (.lst true l'))) (r : Rp K H d v) : Q v (upd H p (.lst ys)) :=
  h _ _ q _ _ (Kp.lst hp) (s.lst (l := l') hp hr) (Rp.kp (Kp.lst hp) _ r)
theorem me_append : MeAbs K rAppend (meS .append) := by
  intro x ds S P h H v vs Q s rx rs pl
  obtain ⟨a, l, rfl, e⟩ := me_lst h
  cases rx
  simp only [meS, e] at h
  match ds, h with
  | [y], h =>
    obtain ⟨u, rfl, ru⟩ := rs.one'
    obtain ⟨xs, h1, h2⟩ := s a _ e
    exact ⟨a, xs, u, rfl, rfl, h1, by rw [h2.length]; exact h.1, pl.put s h1 (h2.append (Rps.one ru)) h.2 rfl⟩
theorem me_pop0 : MeAbs K rPop (meS .pop0) := by
  intro x ds S P h H v vs Q s rx rs pl
  obtain ⟨a, l, rfl, e⟩ := me_lst h
  cases rx
  simp only [meS, e] at h
  match ds, h with
  | [], h =>
    cases rs.nil'
    obtain ⟨xs, h1, h2⟩ := s a _ e
    dsimp only at h
    split at h
    · rename_i y ey
      obtain ⟨u, e2, ru⟩ := h2.get ey
      refine ⟨a, xs, u, rfl, rfl, h1, by rw [h2.length]; exact e2, pl.put s h1 ?_ h ru⟩
      rw [List.dropLast_eq_take, List.dropLast_eq_take, h2.length]
      exact h2.take _
    · exact h.elim
theorem Rps.rev : ∀ {l : List D} {vs : List V}, Rps K H l vs → Rps K H l.reverse vs.reverse
  | [], _, h => by rw [h.nil']; rfl
  | d :: l, _, h => by
    obtain ⟨v, r, rfl, a, t⟩ := h
    rw [List.reverse_cons, List.reverse_cons]
    exact (Rps.rev t).append (Rps.one a)
theorem me_reverse : MeAbs K rReverse (meS .reverse) := by
  intro x ds S P h H v vs Q s rx rs pl
  obtain ⟨a, l, rfl, e⟩ := me_lst h
  cases rx
  simp only [meS, e] at h
  match ds, h with
  | [], h =>
    cases rs.nil'
    obtain ⟨xs, h1, h2⟩ := s a _ e
    exact ⟨a, xs, rfl, rfl, h1, pl.put s h1 h2.rev h rfl⟩
theorem me_clear : MeAbs K rClear (meS .clear) := by
  intro x ds S P h H v vs Q s rx rs pl
  obtain ⟨a, l, rfl, e⟩ := me_lst h
  cases rx
  simp only [meS, e] at h
  match ds, h with
  | [], h =>
    cases rs.nil'
    obtain ⟨xs, h1, h2⟩ := s a _ e
    exact ⟨a, xs, rfl, rfl, h1, pl.put s h1 (show Rps K H [] [] from rfl) h rfl⟩
def rInsert : V → List V → Hp → VK → Prop := fun x vs H Q => ∃ (l : Addr) (xs : List V) (i : Int) (y : V), x = .ref l ∧ vs = [.int i, y] ∧ H l = some (.lst xs) ∧ xs.length < sizeLine ∧ 0 ≤ i ∧ i < 2 ^ 63 ∧
    Q .non (upd H l (.lst (xs.take i.toNat ++ [y] ++ xs.drop i.toNat)))
theorem me_insert : MeAbs K rInsert (meS .insert) := by
  intro x ds S P h H v vs Q s rx rs pl
  obtain ⟨a, l, rfl, e⟩ := me_lst h
  cases rx
  simp only [meS, e] at h
  match ds, h with
  | [.int i, y], h =>
    obtain ⟨u, w, rfl, ru, rw'⟩ := rs.two'
    cases ru
    obtain ⟨xs, h1, h2⟩ := s a _ e
    exact ⟨a, xs, i, w, rfl, rfl, h1, by rw [h2.length]; exact h.1, h.2.1, h.2.2.1, pl.put s h1 (((h2.take _).append (Rps.one rw')).append (h2.drop _)) h.2.2.2 rfl⟩
theorem me_extend : MeAbs K rExtend (meS .extend) := by
  intro x ds S P h H v vs Q s rx rs pl
  obtain ⟨a, l, rfl, e⟩ := me_lst h
  cases rx
  simp only [meS, e] at h
  match ds, h with
  | [.ref b], h =>
    obtain ⟨u, rfl, ru⟩ := rs.one'
    cases ru
    obtain ⟨xs, h1, h2⟩ := s a _ e
    dsimp only at h
    split at h
    · rename_i m eb
      obtain ⟨ys, h3, h4⟩ := s b _ eb
      exact ⟨a, b, xs, ys, rfl, rfl, h1, h3, by rw [h2.length, h4.length]; exact h.1, pl.put s h1 (h2.append h4) h.2 rfl⟩
    · exact h.elim
end
section
variable {X : Cx} {Wh : WX} {A : AE} {e : Expr} {n : Str} {pos : Pos}
/-- e.f, e a kept error -/
theorem l_fld (F : CFs X.K) (he : PE X e (LE X.K Wh A)) (hb : attributeBase e n X.env (eval e X.env) = eval e X.env) : PE X (.Attribute e n pos) (LE X.K Wh fun ρ S P W => A ρ S (fun x S1 => match x with
    | .ref a => (match S1 a with
      | some (.exc k (some d)) => fldN k = n ∧ P d S1
      | _ => False)
    | _ => False) W) := by
  refine ⟨fun pins s σ H Q I h => ?_⟩
  obtain ⟨ρ, S, W, P, se, wl, pl, h⟩ := h
  let Q1 : VK := fun x H1 => ∃ (a C dd : Addr) (fs : List (Str × V)) (v : V), x = .ref a ∧ ExcC X.K C ∧ PySem.W.findIn X.K (.ref C) n = some none ∧ H1 a = some (ExV (.ref C) (some dd) a) ∧ H1 dd = some (.xd fs) ∧ fs.lookup n = some v ∧ Q v H1
  have hrun := he.run pins s σ H Q1 I ⟨ρ, S, W, _, se, wl, fun x S1 h1 v H1 k1 s1 r1 => by
    cases x <;> (try exact (show False from h1).elim)
    rename_i a
    cases r1
    dsimp only at h1
    split at h1
    · rename_i k d q
      obtain ⟨e1, p1⟩ := h1
      subst e1
      obtain ⟨dd, g1, kn, da, v, rfl, g2, g3⟩ := s1 a _ q
      exact ⟨a, _, da, _, v, rfl, (F.one k kn).exc, (F.one k kn).nof, g1, g2, by simp [List.lookup], pl _ _ p1 _ H1 k1 s1 g3⟩
    · exact h1.elim, h⟩
  refine attr_of hb (thn hrun fun u s1 hh => ?_)
  obtain ⟨x, H1, I1, rx, a, C, dd, fs, v, ex, T, hno, ea, ed, l, q⟩ := hh
  subst ex
  obtain rfl : u = Value.ref a := rx
  obtain ⟨⟨oe, vs, hg, hz, hdd⟩, _, _⟩ := I1.hok a _ ea
  obtain ⟨mA, hns, hr⟩ : ObjOk X.prog X.w H1 s1.heap dd (.xd fs) := I1.hok dd _ ed
  obtain ⟨od, ho, hl⟩ := lookIn_ns hns
  obtain ⟨u2, hu, ru⟩ := RelO.some_of (v := v) (o := mA n) (by rw [← l]; exact hr n)
  have J : PySem.W.InstAt s1.heap a oe C (some od) := ⟨hg, hz.1, by unfold PySem.W.notCls; rw [hdd] <;> rfl, by rw [hz.2]; exact ho⟩
  exact HandSPX.exc_get I1.kIn J T.hg T.hk T.hs (PySem.W.findObj_own T.hd hno rfl (by rw [hl, hu])) (handed_of ru) ⟨v, H1, I1.tok _, ru, q⟩
end
theorem fm_spec {f : Nat → Int} : ∀ n, (firstMet f n).Nodup ∧ ∀ x, x ∈ firstMet f n ↔ ∃ j, j < n ∧ f j = x
  | 0 => ⟨by rw [firstMet_zero]; exact List.nodup_nil, fun x => by rw [firstMet_zero]; simp⟩
  | n + 1 => by
    obtain ⟨h1, h2⟩ := fm_spec (f := f) n
    rw [firstMet_succ]
    unfold step_dedup
    have hx : ∀ x, (∃ j, j < n + 1 ∧ f j = x) ↔ ((∃ j, j < n ∧ f j = x) ∨ f n = x) := fun x =>
      ⟨fun ⟨j, hj, e⟩ => by
        rcases Nat.lt_or_ge j n with l | l
        · exact .inl ⟨j, l, e⟩
        · have : j = n := by omega
          exact .inr (this ▸ e), fun h => by
        rcases h with ⟨j, hj, e⟩ | e
        · exact ⟨j, by omega, e⟩
        · exact ⟨n, by omega, e⟩⟩
    split
    · rename_i ha
      obtain ⟨y, hy, ey⟩ := List.any_eq_true.mp ha
      have ey : y = f n := eq_of_beq ey
      subst ey
      refine ⟨h1, fun x => ?_⟩
      rw [hx, h2]
      exact ⟨.inl, fun h => h.elim id fun e => by rw [← e]; exact (h2 _).mp hy⟩
    · rename_i ha
      have hno : f n ∉ firstMet f n := fun z => ha (List.any_eq_true.mpr ⟨_, z, beq_self_eq_true _⟩)
      refine ⟨List.nodup_append.mpr ⟨h1, by simp, fun a ha b hb e => hno (by rw [List.mem_singleton] at hb; subst hb; subst e; exact ha)⟩, fun x => ?_⟩
      rw [List.mem_append, h2, hx, List.mem_singleton]
      exact ⟨fun h => h.imp id Eq.symm, fun h => h.imp id Eq.symm⟩
theorem fm_list {ns : List Int} : (firstMet (fun i => ns.getD i 0) ns.length).Nodup ∧ ∀ x, x ∈ firstMet (fun i => ns.getD i 0) ns.length ↔ x ∈ ns := by
  obtain ⟨h1, h2⟩ := fm_spec (f := fun i => ns.getD i 0) ns.length
  refine ⟨h1, fun x => ?_⟩
  rw [h2, List.mem_iff_getElem]
  constructor
  · rintro ⟨j, hj, e⟩
    refine ⟨j, hj, ?_⟩
    rw [← e]
    simp [hj]
  · rintro ⟨j, hj, e⟩
    refine ⟨j, hj, ?_⟩
    rw [← e]
    simp [hj]
section
variable {X : Cx} {Wh : WX} {A : AE} {e : Expr} {p p2 q pos : Pos}
theorem l_sz (kc : X.calm = true) (gl : Gl X "len") (ml : X.mg "len" = none) (gs : Gl X "set") (ms : X.mg "set" = none) (he : PE X e (LE X.K Wh A)) (hst : starEach [e] X.env = (false, eval e X.env) :: starEach [] X.env) :
    PE X (.Call (.Name "len" p) [.Call (.Name "set" p2) [e] [] q] [] pos) (LE X.K Wh fun ρ S P W => A ρ S (fun d S1 => lensS d S1 P) W) := by
  refine ⟨fun pins s σ H Q I h => ?_⟩
  obtain ⟨ρ, S, W, P, se, wl, pl, h⟩ := h
  let Q1 : VK := fun x H1 => ∃ (l : Addr) (ns : List Int), x = .ref l ∧ SqL X.K H1 l (ns.map V.int) ∧ ns.length ≤ 4000 ∧ ∀ ks : List Int, ks.Nodup → (∀ i, i ∈ ks ↔ i ∈ ns) → Q (.int ks.length) H1
  have hrun := he.run pins s σ H Q1 I ⟨ρ, S, W, _, se, wl, fun x S1 h1 v H1 k1 s1 r1 => by
    unfold lensS at h1
    split at h1
    · rename_i l el
      obtain ⟨a, us, rfl, hq, rs⟩ := lstD_rd s1 r1 el
      split at h1
      · rename_i ns en
        exact ⟨a, ns, rfl, by rw [← intL_rps rs en]; exact hq, h1.1, fun ks hk hm => pl _ _ (h1.2 ks hk hm) _ H1 k1 s1 rfl⟩
      · exact h1.elim
    · exact h1.elim, h⟩
  refine Call_ (ld_blt I gl ml boot_len (callWith_builtin1 (args_cons (Call_ (ld_blt I gs ms boot_set ?_)) rfl) rfl rfl))
  refine callWith_type1 (args_cons (thn hrun fun v s1 hh => args_nil ?_) hst) hst rfl
  obtain ⟨x, H1, I1, r1, l, ns, rfl, hq, hl, hQ⟩ := hh
  cases r1
  obtain ⟨its, rv, pt, hz⟩ := I1.list hq
  have hsz : its.toArray.size = ns.length := by
    rw [List.size_toArray, ← rv.length, List.length_map]
  have hin : IntsAre its.toArray.toList ns := by simpa using RZ.intsAre_vals rv
  refine call_set_list (I1.ok.hd kc) pt.isList hin (by rw [hsz]; unfold scanBound; omega) fun h2 tk hS hk => args_nil ?_
  rw [hsz] at hS
  have hle := firstMet_length_le (fun i => ns.getD i 0) ns.length
  obtain ⟨f1, f2⟩ := fm_list (ns := ns)
  obtain ⟨o, es, ep, t, ho, hex, hd, _, _, _, hf, hn⟩ := hS
  have J : Inv X pins σ H1 { s1 with heap := h2, toks := tk } := I1.kept fun b o eb => hk b o (Heap.lt_size eb) eb
  refine call_len_set ho hex hd hf (by rw [hn]; omega) ⟨.int (firstMet (fun i => ns.getD i 0) ns.length).length, H1, J.tok _, ⟨_, by rw [hn]⟩, hQ _ f1 f2⟩
end
end Sd
namespace Sd
open PySem PySem.Spec PyProof.Rows L2
section
variable {X : Cx} {Wh : WX} {Γ : Gam} {A B C : AE} {As : AA} {a b c e : Expr} {es rest : List Expr} {pos apos : Pos} {K : PySem.W.Frag} {H : Hp} {S : Sto}
/-! ### methods, called -/
theorem tyL {x : D} {v : V} (s : StoOk K H S) (e : isL S x) (r : Rp K H x v) : tyV K "list" v H := by
  cases x <;> (try exact (show False from e).elim)
  rename_i p
  cases r
  simp only [isL] at e
  split at e
  · rename_i l q
    obtain ⟨xs, h, _⟩ := s p _ q
    exact .inl ⟨rfl, xs, .inl (.inl h)⟩
  · exact e.elim
theorem l_me {m : ME} {name : Str} {r : V → List V → Hp → VK → Prop} (slot : Slot "list" name (meId m)) (hty : typeOf (.builtin (meId m)) = pure (.type "method_descriptor")) (hm : MtR X (meId m) r) (hab : MeAbs X.K r (meS m)) (ho : PE X a (LE X.K Wh A)) (ha : PA X (e :: es) (LA X.K Wh As))
    (hbase : attributeBase a name X.env (eval a X.env) = eval a X.env) (hs : starEach (e :: es) X.env = (false, eval e X.env) :: starEach es X.env) (hpl : (backTo pos (starEach es X.env)).any (·.1) = false) (hl : (e :: es).length < 20) (hline : (apos.endLine == pos.line) = true)
    (hall : (backTo pos (starEach (e :: es) X.env)).all (fun x => !x.1) = true) :
    PE X (.Call (.Attribute a name apos) (e :: es) [] pos) (LE X.K Wh fun ρ S P W => A ρ S (fun x S1 => isL S1 x ∧ As ρ S1 (fun ds S2 => meS m x ds S2 P) W) W) := by
  have hfew : ((backTo pos (starEach (e :: es) X.env)).all (fun x => !x.1) && (backToKw pos (keywordEach [] X.env)).all (fun x => x.1.isSome) && decide ((e :: es).length + ([] : List Keyword).length + (if ([] : List Keyword).isEmpty then 0 else 1) < 30)) = true := by
    rw [hall, Bool.true_and]
    have z : decide ((e :: es).length + ([] : List Keyword).length + (if ([] : List Keyword).isEmpty then 0 else 1) < 30) = true := decide_eq_true (by simp only [List.isEmpty_nil, if_true, List.length_nil]; omega)
    rw [z]
    rfl
  refine PE.imp (pe_bm PySem.F.plainAttrs_list slot hty hm ho ha hbase hfew hline hs hpl) fun σ H Q ⟨ρ, S, W, P, se, wl, pl, h⟩ => ?_
  exact ⟨ρ, S, W, _, se, wl, fun x S1 h1 v H1 k1 s1 r1 => ⟨tyL s1 h1.1 r1, ρ, S1, W, _, se.at k1 s1, wl.at k1, fun ds S2 h2 vs H2 k2 s2 r2 => hab _ _ _ _ h2 _ _ _ _ s2 (Rp.kp k2 _ r1) r2 (pl.at (k1.trans k2)), h1.2⟩, h⟩
theorem l_me0 {m : ME} {name : Str} {r : V → List V → Hp → VK → Prop} (slot : Slot "list" name (meId m)) (hty : typeOf (.builtin (meId m)) = pure (.type "method_descriptor")) (hm : MtR X (meId m) r) (hab : MeAbs X.K r (meS m)) (ho : PE X a (LE X.K Wh A))
    (hbase : attributeBase a name X.env (eval a X.env) = eval a X.env) (hline : (apos.endLine == pos.line) = true) :
    PE X (.Call (.Attribute a name apos) [] [] pos) (LE X.K Wh fun ρ S P W => A ρ S (fun x S1 => isL S1 x ∧ meS m x [] S1 P) W) := by
  refine PE.imp (pe_bm0 PySem.F.plainAttrs_list slot hty hm ho hbase hline) fun σ H Q ⟨ρ, S, W, P, se, wl, pl, h⟩ => ?_
  exact ⟨ρ, S, W, _, se, wl, fun x S1 h1 v H1 k1 s1 r1 => ⟨tyL s1 h1.1 r1, hab _ _ _ _ h1.2 _ _ _ _ s1 r1 (show Rps X.K H1 [] [] from rfl) (pl.at k1)⟩, h⟩
/-! ### targets -/
def Agr (sl : List Nat) (σ σ' : L2.St) : Prop := σ'.length = σ.length ∧ ∀ i, i ∉ sl → σ'[i]? = σ[i]?
theorem Agr.refl (sl : List Nat) (σ : L2.St) : Agr sl σ σ := ⟨rfl, fun _ _ => rfl⟩
theorem Agr.trans {sl : List Nat} {σ σ1 σ2 : L2.St} (a : Agr sl σ σ1) (b : Agr sl σ1 σ2) : Agr sl σ σ2 := ⟨b.1.trans a.1, fun i h => (b.2 i h).trans (a.2 i h)⟩
theorem Agr.mono {sl sl' : List Nat} {σ σ' : L2.St} (a : Agr sl σ σ') (h : ∀ i, i ∈ sl → i ∈ sl') : Agr sl' σ σ' := ⟨a.1, fun i n => a.2 i fun z => n (h i z)⟩
theorem wipe_get {σ : L2.St} {i : Nat} : ∀ (vs : List Nat), i ∈ vs → (wipe σ vs)[i]? = if i < σ.length then some none else none
  | [], h => by simp at h
  | v :: vs, h => by
    unfold wipe
    by_cases e : v = i
    · subst e
      by_cases hl : v < σ.length
      · rw [List.getElem?_set_self (by rw [wipe_length]; exact hl), if_pos hl]
      · rw [if_neg hl, List.getElem?_eq_none (by rw [List.length_set, wipe_length]; omega)]
    · rw [List.getElem?_set_ne e]
      exact wipe_get vs (by rcases List.mem_cons.mp h with z | z; exact absurd z.symm e; exact z)
theorem wipe_not {σ : L2.St} {i : Nat} : ∀ (vs : List Nat), i ∉ vs → (wipe σ vs)[i]? = σ[i]?
  | [], _ => rfl
  | v :: vs, h => by
    unfold wipe
    rw [List.getElem?_set_ne (fun e => h (by rw [e]; exact List.mem_cons_self))]
    exact wipe_not vs fun z => h (List.mem_cons_of_mem _ z)
theorem Agr.wipe {sl vs : List Nat} {σ σ' : L2.St} (a : Agr sl σ σ') (h : ∀ i, i ∈ sl → i ∈ vs) : L2.wipe σ' vs = L2.wipe σ vs := by
  apply List.ext_getElem?
  intro i
  by_cases hi : i ∈ vs
  · rw [wipe_get vs hi, wipe_get vs hi, a.1]
  · rw [wipe_not vs hi, wipe_not vs hi]
    exact a.2 i fun z => hi (h i z)
theorem wipe_idem {σ : L2.St} {vs : List Nat} : L2.wipe (L2.wipe σ vs) vs = L2.wipe σ vs := by
  apply List.ext_getElem?
  intro i
  by_cases hi : i ∈ vs
  · rw [wipe_get vs hi, wipe_get vs hi, wipe_length]
  · rw [wipe_not vs hi]
def GLe (K : PySem.W.Frag) (H : Hp) (sl : List Nat) (σ : L2.St) (P : DSt → Sto → Prop) (Q : L2.St → Hp → Prop) : Prop := ∀ ρ' S', P ρ' S' → ∀ σ' H', Kp H H' → Sees K H' σ' ρ' S' → Agr sl σ σ' → Q σ' H'
def LG (K : PySem.W.Frag) (Wh : WX) (sl : List Nat) (A : ATg) : TG := fun v σ H Q => ∃ d ρ S W P, Rp K H d v ∧ Sees K H σ ρ S ∧ WLe K H W Wh ∧ GLe K H sl σ P Q ∧ A d ρ S P W
def LGs (K : PySem.W.Frag) (Wh : WX) (sl : List Nat) (A : ATgs) : TGs := fun vs σ H Q => ∃ ds ρ S W P, Rps K H ds vs ∧ Sees K H σ ρ S ∧ WLe K H W Wh ∧ GLe K H sl σ P Q ∧ A ds ρ S P W
theorem PG.imp {tg : Expr} {t t' : TG} (h : PG X tg t) (i : ∀ v σ H Q, t' v σ H Q → t v σ H Q) : PG X tg t' := ⟨fun pins s σ H v u Q I r hw => h.run pins s σ H v u Q I r (i v σ H Q hw)⟩
theorem PG.or {tg : Expr} {t t' : TG} (h : PG X tg t) (h' : PG X tg t') : PG X tg (fun v σ H Q => t v σ H Q ∨ t' v σ H Q) := ⟨fun pins s σ H v u Q I r hw => hw.elim (h.run pins s σ H v u Q I r) (h'.run pins s σ H v u Q I r)⟩
theorem PGs.imp {tg : List Expr} {t t' : TGs} (h : PGs X tg t) (i : ∀ v σ H Q, t' v σ H Q → t v σ H Q) : PGs X tg t' := ⟨fun pins s σ H v u Q I r hw => h.run pins s σ H v u Q I r (i v σ H Q hw)⟩
theorem g_nm {i : Nat} {x : Str} {sl : List Nat} (hN : X.N.Nodup) (hi : X.N[i]? = some x) (hx : Loc X.env.scope x) (hf : X.fn x = true ∨ X.env.scope.names.lookup x = some .local) (hm : i ∈ sl) : PG X (.Name x pos) (LG X.K Wh sl fun d ρ S P _ => P (ρ.set i (some d)) S) :=
  PG.imp (pg_name hN hi hx hf) fun v σ H Q ⟨d, ρ, S, W, P, r, se, wl, gl, h⟩ => gl _ _ h _ H (Kp.refl H) (se.set i r) ⟨by simp, fun j hj => by rw [List.getElem?_set_ne (fun e => hj (by rw [← e]; exact hm))]⟩
theorem gs_nil {sl : List Nat} : PGs X [] (LGs X.K Wh sl fun ds ρ S P _ => match ds with
    | [] => P ρ S
    | _ => False) :=
  PGs.imp pgs_nil fun v σ H Q ⟨ds, ρ, S, W, P, r, se, wl, gl, h⟩ => by
    cases ds with
    | nil => exact ⟨r.nil', gl _ _ h _ H (Kp.refl H) se (Agr.refl _ _)⟩
    | cons d ds => exact h.elim
theorem gs_cons {sl : List Nat} {G : ATg} {Gs : ATgs} (h1 : PG X e (LG X.K Wh sl G)) (h2 : PGs X es (LGs X.K Wh sl Gs)) (hs : (assignEach (e :: es) X.env).map (·.2) = assign e X.env :: (assignEach es X.env).map (·.2)) : PGs X (e :: es) (LGs X.K Wh sl fun ds ρ S P W => match ds with
    | d :: r => G d ρ S (fun ρ1 S1 => Gs r ρ1 S1 P W) W
    | _ => False) :=
  PGs.imp (pgs_cons h1 h2 hs) fun v σ H Q ⟨ds, ρ, S, W, P, r, se, wl, gl, h⟩ => by
    cases ds with
    | nil => exact h.elim
    | cons d ds =>
      obtain ⟨u, us, rfl, r1, r2⟩ := r
      exact ⟨u, us, rfl, d, ρ, S, W, _, r1, se, wl, fun ρ1 S1 q1 σ1 H1 k1 se1 ag1 => ⟨ds, ρ1, S1, W, P, Rps.kp k1 _ r2, se1, wl.at k1, fun ρ2 S2 q2 σ2 H2 k2 se2 ag2 => gl _ _ q2 σ2 H2 (k1.trans k2) se2 (ag1.trans ag2), q1⟩, h⟩
theorem g_tp {sl : List Nat} {Gs : ATgs} {k n : Nat} (hc : X.calm = true) (h : PGs X es (LGs X.K Wh sl Gs)) (hn : (assignEach es X.env).length = n) (hst : (assignEach es X.env).findIdx? (·.1) = none) : PG X (.Tuple es k pos) (LG X.K Wh sl fun d ρ S P W => match d with
    | .tup l => l.length = n ∧ Gs l ρ S P W
    | .ref a => (match S a with
      | some (.lst _ l) => l.length = n ∧ Gs l ρ S P W
      | _ => False)
    | _ => False) :=
  PG.imp (PG.or (pg_tup hc h hn hst) (pg_lst hc h hn hst)) fun v σ H Q ⟨d, ρ, S, W, P, r, se, wl, gl, h⟩ => by
    cases d <;> (try exact (show False from h).elim)
    · rename_i a
      cases r
      have h' : (match S a with
        | some (.lst _ l) => l.length = n ∧ Gs l ρ S P W
        | _ => False) := h
      split at h'
      · rename_i w l e
        obtain ⟨vs, q, rs⟩ := se.sto.rd e
        exact .inr ⟨a, vs, rfl, q, by rw [rs.length]; exact h'.1, _, ρ, S, W, P, rs, se, wl, gl, h'.2⟩
      · exact h'.elim
    · obtain ⟨p, vs, rfl, q, rs⟩ := r
      exact .inl ⟨p, vs, rfl, q, by rw [rs.length]; exact h.1, _, ρ, S, W, P, rs, se, wl, gl, h.2⟩
theorem g_ix {sl : List Nat} (ho : PE X a (LE X.K Wh A)) (hi : PE X b (LE X.K Wh B)) (hs : ∀ v, assign (.Subscript a b pos) X.env v = (do
      let ov ← holding [v] (eval a X.env)
      let iv ← holding [v, ov] (eval b X.env)
      standAt pos
      holding [v, ov, iv] (setItem ov iv v)
      release [v, ov, iv] [])) : PG X (.Subscript a b pos) (LG X.K Wh sl fun d ρ S P W => A ρ S (fun x S1 => B ρ S1 (fun y S2 => match x, y with
    | .ref a, .int k => (match S2 a with
      | some (.lst true l) => (match ixN l.length k with
        | some j => P ρ (S2.up a (.lst true (l.set j d)))
        | none => False)
      | _ => False)
    | _, _ => False) W) W) :=
  PG.imp (pg_sub ho hi set_list hs) fun v σ H Q ⟨d, ρ, S, W, P, r, se, wl, gl, h⟩ => by
    refine ⟨ρ, S, W, _, se, wl, fun x S1 h1 xv H1 k1 s1 r1 => ⟨ρ, S1, W, _, se.at k1 s1, wl.at k1, fun y S2 h2 yv H2 k2 s2 r2 => ?_, h1⟩, h⟩
    cases x <;> cases y <;> (try exact (show False from h2).elim)
    rename_i p k
    cases r1; cases r2
    dsimp only at h2
    split at h2
    · rename_i l e
      obtain ⟨xs, q1, q2⟩ := s2 p _ e
      split at h2
      · rename_i j ej
        have k12 := k1.trans k2
        exact ⟨p, xs, k, j, rfl, rfl, q1, by rw [q2.length]; exact ej, gl _ _ h2 σ _ (k12.trans (Kp.lst q1)) (se.at (k12.trans (Kp.lst q1)) (s2.lst (l := l) q1 (q2.set (Rp.kp k12 _ r) j))) (Agr.refl _ _)⟩
      · exact h2.elim
    · exact h2.elim
end
end Sd
namespace Sd
open PySem PySem.Spec PyProof.Rows L2
section
variable {X : Cx} {Wh : WX} {Γ : Gam} {A B C : AE} {As : AA} {a b c e tg iter : Expr} {es rest : List Expr} {pos : Pos} {K : PySem.W.Frag} {H : Hp} {S : Sto}
/-! ### what is walked -/
structure Wk (K : PySem.W.Frag) (J : It) (ds : List D) (src : Src) (H1 : Hp) : Prop where
  go : ∀ i H S, i < ds.length → Kp H1 H → StoOk K H S → src.ok S → J.go i H
  yld : ∀ i H S x H', i < ds.length → Kp H1 H → StoOk K H S → src.ok S → J.yld i H x H' → Sm H H' ∧ ∃ d, ds[i]? = some d ∧ Rp K H' d x
  stop : ∀ H S, Kp H1 H → StoOk K H S → src.ok S → J.stop ds.length H
def LI (K : PySem.W.Frag) (Wh : WX) (A : AI) : TI := fun σ H R => ∃ ρ S W P, Sees K H σ ρ S ∧ WLe K H W Wh ∧ (∀ ds src S1, P ds src S1 → ∀ J H1, Kp H H1 → StoOk K H1 S1 → Wk K J ds src H1 → R J H1) ∧ A ρ S P W
theorem PI.imp {t t' : TI} (h : PI X tg iter t) (i : ∀ σ H R, t' σ H R → t σ H R) : PI X tg iter t' := ⟨fun pins s σ H R I hw => h.run pins s σ H R I (i σ H R hw)⟩
/-- a list or a tuple -/
theorem pi_seq {l : Expr} {tl : TE} (hl : PE X l tl) : PI X tg l (fun σ H R => tl σ H fun x H1 => ∃ a, x = .ref a ∧ (((∃ xs, SqL X.K H1 a xs) ∧ R (Itl X.K a) H1) ∨ ((∃ xs, SqT X.K H1 a xs) ∧ R (Itt X.K a) H1))) := by
  refine ⟨fun pins s σ H R I h => ?_⟩
  refine thn (hl.run pins s σ H _ I h) fun v s1 ⟨x, H1, I1, r1, p, ex, q1⟩ => ?_
  subst ex
  cases r1
  rcases q1 with ⟨⟨xs, hq⟩, q⟩ | ⟨⟨xs, hq⟩, q⟩
  · obtain ⟨its, rv, pl, hz⟩ := I1.list hq
    refine wpAny_pyIter_list pl.isList ⟨_, [s1.heap.objs.size], _, _, H1, rfl, I1.kept (t' := s1.toks) fun z o ez => Heap.get?_push_of_some _ ez, turn_list p _, ⟨_, Heap.get?_push_size _ rfl, rfl, rfl⟩, fun z hz => ?_, q⟩
    cases (show z = s1.heap.objs.size by simpa using hz)
    exact I1.fpOk (Nat.le_refl _) I1.fresh
  · obtain ⟨its, rv, pl, hz⟩ := I1.tuple hq
    refine wpAny_pyIter_tuple (show s1.heap.IsTuple p its.toArray from pl) ⟨_, [s1.heap.objs.size], _, _, H1, rfl, I1.kept (t' := s1.toks) fun z o ez => Heap.get?_push_of_some _ ez, turn_tuple p _, ⟨_, Heap.get?_push_size _ rfl, rfl, rfl⟩, fun z hz => ?_, q⟩
    cases (show z = s1.heap.objs.size by simpa using hz)
    exact I1.fpOk (Nat.le_refl _) I1.fresh
theorem wk_list {a : Addr} {w : Bool} {l : List D} {H1 : Hp} : Wk K (Itl K a) l (.lst a w l) H1 where
  go := fun i H S hi _ s e => by
    obtain ⟨vs, q, r⟩ := s.rd e
    have hl := r.length
    exact ⟨vs, vs[i], q, List.getElem?_eq_getElem (by omega)⟩
  yld := fun i H S x H' hi _ s e y => by
    obtain ⟨vs, q, r⟩ := s.rd e
    obtain ⟨rfl, y⟩ := y
    obtain ⟨d, e1, e2⟩ := r.getV (y vs q)
    exact ⟨fun _ _ z => z, d, e1, e2⟩
  stop := fun H S _ s e => by
    obtain ⟨vs, q, r⟩ := s.rd e
    exact ⟨vs, q, by rw [r.length]; exact Nat.le_refl _⟩
theorem SqT.inj {H : Hp} {a : Addr} {xs ys : List V} (hk : ∀ o, K.lookup a = some o → H a = none) (h : SqT K H a xs) (h' : SqT K H a ys) : xs = ys := by
  rcases h with (h | ⟨o, h⟩) | ⟨o, its, n, h, _, hd, _, hv⟩ <;> rcases h' with (h' | ⟨o', h'⟩) | ⟨o', its', n', h', _, hd', _, hv'⟩
  · rw [h] at h'; cases h'; rfl
  · rw [h] at h'; cases h'
  · have := hk _ h'; rw [h] at this; cases this
  · rw [h] at h'; cases h'
  · rw [h] at h'; cases h'; rfl
  · have := hk _ h'; rw [h] at this; cases this
  · have := hk _ h; rw [h'] at this; cases this
  · have := hk _ h; rw [h'] at this; cases this
  · rw [h] at h'
    cases h'
    rw [hd] at hd'
    cases hd'
    exact Vals.inj hv hv'
theorem wk_tup {a : Addr} {l : List D} {vs : List V} {H1 : Hp} (q : SqT K H1 a vs) (r : Rps K H1 l vs) : Wk K (Itt K a) l .free H1 where
  go := fun i H S hi k s _ => by
    have hl := r.length
    exact ⟨vs, vs[i], SqT.kp k q, List.getElem?_eq_getElem (by omega)⟩
  yld := fun i H S x H' hi k s _ y => by
    obtain ⟨rfl, y⟩ := y
    obtain ⟨d, e1, e2⟩ := r.getV (y vs (SqT.kp k q))
    exact ⟨fun _ _ z => z, d, e1, Rp.kp k _ e2⟩
  stop := fun H S k s _ => ⟨vs, SqT.kp k q, by rw [r.length]; exact Nat.le_refl _⟩
theorem rng_len {lo : Int} {n : Nat} : (rngItems lo n).length = n := by simp [rngItems]
theorem rng_get {lo : Int} {n i : Nat} (h : i < n) : (rngItems lo n)[i]? = some (D.int (lo + (i : Int))) := by
  unfold rngItems
  rw [List.getElem?_map, List.getElem?_range h]
  rfl
theorem wk_rng {lo : Int} {n : Nat} {H1 : Hp} : Wk K (Itr lo n) (rngItems lo n) .free H1 where
  go := fun i H S hi _ _ _ => by rw [rng_len] at hi; exact hi
  yld := fun i H S x H' hi _ _ _ y => by
    rw [rng_len] at hi
    obtain ⟨rfl, rfl⟩ := y
    exact ⟨fun _ _ z => z, _, rng_get hi, rfl⟩
  stop := fun H S _ _ _ => by rw [rng_len]; exact Nat.le_refl _
theorem i_seq (hl : PE X e (LE X.K Wh A)) : PI X tg e (LI X.K Wh fun ρ S P W => A ρ S (fun d S1 => match d with
    | .tup l => P l .free S1
    | .ref a => (match S1 a with
      | some (.lst w l) => P l (.lst a w l) S1
      | _ => False)
    | _ => False) W) :=
  PI.imp (pi_seq hl) fun σ H R ⟨ρ, S, W, P, se, wl, il, h⟩ => ⟨ρ, S, W, _, se, wl, fun d S1 h1 v H1 k1 s1 r1 => by
    cases d <;> (try exact (show False from h1).elim)
    · rename_i p
      cases r1
      dsimp only at h1
      split at h1
      · rename_i w l ep
        obtain ⟨vs, q, r⟩ := s1.rd ep
        exact ⟨p, rfl, .inl ⟨⟨vs, q⟩, il _ _ _ h1 _ H1 k1 s1 wk_list⟩⟩
      · exact h1.elim
    · rename_i l
      obtain ⟨p, vs, rfl, q, r⟩ := r1
      exact ⟨p, rfl, .inr ⟨⟨vs, q⟩, il _ _ _ h1 _ H1 k1 s1 (wk_tup q r)⟩⟩, h⟩
theorem i_rng1 {p : Pos} (hg : Gl X "range") (hm : X.mg "range" = none) (ha : PE X a (LE X.K Wh A)) (hs : starEach [a] X.env = [(false, eval a X.env)]) : PI X tg (.Call (.Name "range" p) [a] [] pos) (LI X.K Wh fun ρ S P W => A ρ S (fun d S1 => match d with
    | .int j => (-(2 ^ 62) ≤ j ∧ j < 2 ^ 62) ∧ P (rngItems 0 j.toNat) .free S1
    | _ => False) W) :=
  PI.imp (pi_range1 hg hm (pa_cons ha pa_nil hs) hs) fun σ H R ⟨ρ, S, W, P, se, wl, il, h⟩ => ⟨ρ, S, W, _, se, wl, fun d S1 h1 v H1 k1 s1 r1 => by
    cases d <;> (try exact (show False from h1).elim)
    rename_i j
    cases r1
    exact ⟨j, rfl, h1.1.1, h1.1.2, il _ _ _ h1.2 _ H1 k1 s1 wk_rng⟩, h⟩
theorem i_rng2 {p : Pos} (hg : Gl X "range") (hm : X.mg "range" = none) (ha : PE X a (LE X.K Wh A)) (hb : PE X b (LE X.K Wh B)) (hs2 : starEach [b] X.env = [(false, eval b X.env)]) (hs : starEach [a, b] X.env = (false, eval a X.env) :: starEach [b] X.env) : PI X tg (.Call (.Name "range" p) [a, b] [] pos) (LI X.K Wh fun ρ S P W => A ρ S (fun d S1 => B ρ S1 (fun e S2 => match d, e with
    | .int i, .int j => (-(2 ^ 62) ≤ i ∧ i < 2 ^ 62 ∧ -(2 ^ 62) ≤ j ∧ j < 2 ^ 62) ∧ P (rngItems i (j - i).toNat) .free S2
    | _, _ => False) W) W) :=
  PI.imp (pi_range2 hg hm (pa_cons ha (pa_cons hb pa_nil hs2) hs) (by rw [hs, hs2]) hs2) fun σ H R ⟨ρ, S, W, P, se, wl, il, h⟩ => ⟨ρ, S, W, _, se, wl, fun d S1 h1 v H1 k1 s1 r1 => ⟨ρ, S1, W, _, se.at k1 s1, wl.at k1, fun d2 S2 h2 v2 H2 k2 s2 r2 => by
    cases d <;> cases d2 <;> (try exact (show False from h2).elim)
    rename_i i j
    cases r1; cases r2
    exact ⟨i, j, rfl, h2.1, il _ _ _ h2.2 _ H2 (k1.trans k2) s2 wk_rng⟩, h1⟩, h⟩
theorem zip_len {l m : List D} : (zipD l m).length = min l.length m.length := by
  unfold zipD
  rw [List.length_map, List.length_zip]
theorem wk_zip {a b : Addr} {w v : Bool} {l m : List D} {H1 : Hp} : Wk K (Itz K a b) (zipD l m) (.two a w l b v m) H1 where
  go := fun i H S hi _ s e => by
    rw [zip_len] at hi
    obtain ⟨vs, q, r⟩ := s.rd e.1
    obtain ⟨us, q2, r2⟩ := s.rd e.2
    have hl := r.length
    have hl2 := r2.length
    exact ⟨vs, us, vs[i], us[i], q, q2, List.getElem?_eq_getElem (by omega), List.getElem?_eq_getElem (by omega)⟩
  yld := fun i H S x H' hi _ s e y => by
    obtain ⟨vs, q, r⟩ := s.rd e.1
    obtain ⟨us, q2, r2⟩ := s.rd e.2
    obtain ⟨T, x1, y1, rfl, hT, rfl, f1, f2⟩ := y
    obtain ⟨d, e1, e2⟩ := r.getV (f1 vs q)
    obtain ⟨d', e3, e4⟩ := r2.getV (f2 us q2)
    refine ⟨Sm.new hT, .tup [d, d'], ?_, T, [x1, y1], rfl, .inl (.inl upd_same), ?_⟩
    · unfold zipD
      rw [List.getElem?_map, List.getElem?_zip_eq_some (z := (d, d')).mpr ⟨e1, e3⟩]
      rfl
    · exact ⟨x1, [y1], rfl, Rp.kp (Kp.new hT) _ e2, y1, [], rfl, Rp.kp (Kp.new hT) _ e4, rfl⟩
  stop := fun H S _ s e => by
    obtain ⟨vs, q, r⟩ := s.rd e.1
    obtain ⟨us, q2, r2⟩ := s.rd e.2
    have hl := r.length
    have hl2 := r2.length
    refine ⟨vs, us, q, q2, ?_⟩
    rw [zip_len]
    omega
theorem i_zip {p tpos : Pos} {elts : List Expr} {kk : Nat} (hg : Gl X "zip") (hm : X.mg "zip" = none) (ha : PE X a (LE X.K Wh A)) (hb : PE X b (LE X.K Wh B)) (hs2 : starEach [b] X.env = [(false, eval b X.env)]) (hs : starEach [a, b] X.env = (false, eval a X.env) :: starEach [b] X.env) : PI X (.Tuple elts kk tpos) (.Call (.Name "zip" p) [a, b] [] pos) (LI X.K Wh fun ρ S P W => A ρ S (fun x S1 => B ρ S1 (fun y S2 => match x, y with
    | .ref p, .ref q => (match S2 p, S2 q with
      | some (.lst w l), some (.lst v m) => P (zipD l m) (.two p w l q v m) S2
      | _, _ => False)
    | _, _ => False) W) W) :=
  PI.imp (RZ.pi_zipA hg hm (pa_cons ha (pa_cons hb pa_nil hs2) hs) hs (by rw [hs2]; rfl)) fun σ H R ⟨ρ, S, W, P, se, wl, il, h⟩ => ⟨ρ, S, W, _, se, wl, fun d S1 h1 v H1 k1 s1 r1 => ⟨ρ, S1, W, _, se.at k1 s1, wl.at k1, fun d2 S2 h2 v2 H2 k2 s2 r2 => by
    cases d <;> cases d2 <;> (try exact (show False from h2).elim)
    rename_i i j
    cases r1; cases r2
    dsimp only at h2
    split at h2
    · rename_i w l v' m e1 e2
      obtain ⟨vs, q, r⟩ := s2.rd e1
      obtain ⟨us, q2, r2⟩ := s2.rd e2
      exact ⟨i, j, vs, us, rfl, .inl ⟨q, q2, il _ _ _ h2 _ H2 (k1.trans k2) s2 wk_zip⟩⟩
    · exact h2.elim, h1⟩, h⟩
/-! ### comprehensions -/
theorem wipe_sees {σ : L2.St} {ρ : DSt} (se : Sees K H σ ρ S) : ∀ vs : List Nat, Sees K H (L2.wipe σ vs) (wipeD ρ vs) S
  | [] => se
  | v :: vs => by
    unfold L2.wipe wipeD
    exact (wipe_sees se vs).unset v none
theorem lc_imp {own : List Nat} {wi : AI} {g : ATg} {tt : AT} {te : AE} {σ : L2.St} {Q : VK}
    (hw : LE K Wh (fun ρ S P W => wi ρ S (fun ds src S1 => ∀ p, S1 p = none → lcS g tt te src p (wipeD ρ own) (fun S2 => P (.ref p) S2) ds (S1.up p (.lst true []))) W) σ H Q) :
    tLc (LI K Wh wi) (LG K (fun _ _ _ _ => False) own g) (LT K (fun _ _ _ _ => False) tt) (LE K (fun _ _ _ _ => False) te) own σ H Q := by
  obtain ⟨ρ, S, W, P, se, wl, pl, h⟩ := hw
  refine ⟨ρ, S, W, _, se, wl, fun ds src S1 h1 J H1 k1 s1 wk => fun p hp => ?_, h⟩
  have s1n : S1 p = none := s1.free hp
  have h2 := h1 p s1n
  have so2 : StoOk K (upd H1 p (.lst [])) (S1.up p (.lst true [])) := s1.new hp ⟨[], upd_same, rfl⟩
  refine ⟨fun i m H2 => m = ds.length - i ∧ i ≤ ds.length ∧ Kp H1 H2 ∧ ∃ S2, StoOk K H2 S2 ∧ lcS g tt te src p (wipeD ρ own) (fun S2 => P (.ref p) S2) (ds.drop i) S2, ⟨ds.length, by simp, Nat.zero_le _, Kp.new hp, _, so2, by simpa using h2⟩, ?_⟩
  rintro i m H2 ⟨rfl, hi2, k2, S2, so, hl⟩
  by_cases hlt : i < ds.length
  · rw [List.drop_eq_getElem_cons hlt] at hl
    simp only [lcS] at hl
    obtain ⟨hsrc, hl⟩ := hl
    refine .inr ⟨wk.go i H2 S2 hlt k2 so hsrc, fun H3 => Kp H1 H3 ∧ ∃ S3, StoOk K H3 S3 ∧ lcS g tt te src p (wipeD ρ own) (fun S2 => P (.ref p) S2) (ds.drop (i + 1)) S3, fun H3 ⟨k3, S3, so3, hl3⟩ => ⟨ds.length - (i + 1), by omega, rfl, by omega, k3, S3, so3, hl3⟩, fun x H3 y => ?_⟩
    obtain ⟨sm, d, ed, rd⟩ := wk.yld i H2 S2 x H3 hlt k2 so hsrc y
    have ed' : ds[i] = d := by
      rw [List.getElem?_eq_getElem hlt] at ed
      exact Option.some.inj ed
    rw [ed'] at hl
    have k3 : Kp H1 H3 := k2.trans sm.kp
    have se3 : Sees K H3 (L2.wipe σ own) (wipeD ρ own) S2 := wipe_sees (se.at (k1.trans k3) (so.sm sm)) _
    refine ⟨d, _, S2, _, _, rd, se3, fun _ _ _ _ w => w.elim, fun ρ4 S4 h4 σ4 H4 k4 se4 ag4 => ⟨(ag4.wipe fun _ z => z).trans wipe_idem, ?_⟩, hl⟩
    refine ⟨ρ4, S4, _, _, se4, fun _ _ _ _ w => w.elim, fun bb S5 h5 H5 k5 so5 => ?_, h4⟩
    have k15 : Kp H1 H5 := (k3.trans k4).trans k5
    cases bb with
    | true =>
      refine ⟨ρ4, S5, _, _, se4.at k5 so5, fun _ _ _ _ w => w.elim, fun yd S6 h6 yv H6 k6 so6 r6 => ?_, h5⟩
      split at h6
      · rename_i acc ea
        obtain ⟨vs, q1, q2⟩ := so6 p _ ea
        exact ⟨vs, q1, by rw [q2.length]; exact h6.1, (k15.trans k6).trans (Kp.lst q1), _, so6.lst (l := acc) q1 (q2.append (Rps.one r6)), h6.2⟩
      · exact h6.elim
    | false => exact ⟨k15, S5, so5, h5⟩
  · have ei : i = ds.length := by omega
    subst ei
    rw [List.drop_length] at hl
    obtain ⟨hsrc, hl⟩ := hl
    exact .inl ⟨wk.stop H2 S2 k2 so hsrc, pl _ _ hl _ _ (k1.trans k2) so rfl⟩
theorem l_lc {elt : Expr} {ifs : List Expr} {scope : Scope} {own : List (Str × Nat)} {wi : AI} {g : ATg} {tt : AT} {te : AE} (hc : X.calm = true) (hN : X.N.Nodup) (hi : PI X tg iter (LI X.K Wh wi)) (ok : BlkOk X.N X.env.scope scope own)
    (hg : ∀ (s : Shared) (H : Hp) (C : Addr) (cl : List (Str × Addr)) (fp : List Addr), PG (X.blk s H scope (compEnvC scope cl C X.env) fp) tg (LG X.K (fun _ _ _ _ => False) (own.map (·.2)) g))
    (ht : ∀ (s : Shared) (H : Hp) (C : Addr) (cl : List (Str × Addr)) (fp : List Addr), PTs (X.blk s H scope (compEnvC scope cl C X.env) fp) ifs (LT X.K (fun _ _ _ _ => False) tt))
    (he : ∀ (s : Shared) (H : Hp) (C : Addr) (cl : List (Str × Addr)) (fp : List Addr), PE (X.blk s H scope (compEnvC scope cl C X.env) fp) elt (LE X.K (fun _ _ _ _ => False) te))
    (hs : ∀ x, foldedSetIterable iter X.env x = pure x) :
    PE X (.ListComp elt [⟨tg, iter, ifs, 0⟩] scope pos) (LE X.K Wh fun ρ S P W => wi ρ S (fun ds src S1 => ∀ p, S1 p = none → lcS g tt te src p (wipeD ρ (own.map (·.2))) (fun S2 => P (.ref p) S2) ds (S1.up p (.lst true []))) W) :=
  PE.imp (pe_lc hc hN hi ok hg ht he hs) fun _ _ _ hw => lc_imp hw
theorem s_setLc {i : Nat} {y : Str} {py spos : Pos} {elt : Expr} {ifs : List Expr} {scope : Scope} {own : List (Str × Nat)} {wi : AI} {g : ATg} {tt : AT} {te : AE} (hc : X.calm = true) (hN : X.N.Nodup) (hy : X.N[i]? = some y) (hyl : X.env.scope.names.lookup y = some .local)
    (hsw : swapsWith (.ListComp elt [⟨tg, iter, ifs, 0⟩] scope pos) (some (.Name y py)) spos.line X.env = pure true) (hi : PI X tg iter (LI X.K Wh wi)) (ok : BlkOk X.N X.env.scope scope own)
    (hg : ∀ (s : Shared) (H : Hp) (C : Addr) (cl : List (Str × Addr)) (fp : List Addr), PG (X.blk s H scope (compEnvC scope cl C X.env) fp) tg (LG X.K (fun _ _ _ _ => False) (own.map (·.2)) g))
    (ht : ∀ (s : Shared) (H : Hp) (C : Addr) (cl : List (Str × Addr)) (fp : List Addr), PTs (X.blk s H scope (compEnvC scope cl C X.env) fp) ifs (LT X.K (fun _ _ _ _ => False) tt))
    (he : ∀ (s : Shared) (H : Hp) (C : Addr) (cl : List (Str × Addr)) (fp : List Addr), PE (X.blk s H scope (compEnvC scope cl C X.env) fp) elt (LE X.K (fun _ _ _ _ => False) te))
    (hs : ∀ x, foldedSetIterable iter X.env x = pure x) :
    PS X (.Assign [.Name y py] (.ListComp elt [⟨tg, iter, ifs, 0⟩] scope pos) spos) (LS X.K Wh fun N ρ S W => wi ρ S (fun ds src S1 => ∀ p, S1 p = none → lcS g tt te src p (wipeD ρ (own.map (·.2))) (fun S2 => N.nx (ρ.set i (some (.ref p))) S2) ds (S1.up p (.lst true []))) W) :=
  PS.imp (ps_setLc hc hN hy hyl hsw hi ok hg ht he hs) fun D σ H ⟨ρ, S, W, N, se, wl, sl, h⟩ =>
    lc_imp ⟨ρ, S, W, fun d S2 => N.nx (ρ.set i (some d)) S2, se, wl, fun d S2 q v H2 k2 s2 r2 => sl.nx _ _ q _ H2 k2 ((se.at k2 s2).set i r2), h⟩
end
end Sd
namespace Sd
open PySem PySem.Spec PyProof.Rows L2
section
variable {X : Cx} {Wh : WX} {Γ : Gam} {A B C : AE} {As : AA} {a b c e tg iter : Expr} {es rest : List Expr} {pos : Pos} {K : PySem.W.Frag} {H : Hp} {S : Sto} {st : Stmt} {sts sts' : List Stmt} {Az Bz : AS}
theorem s_nil : PSs X [] (LS X.K Wh fun N ρ S _ => N.nx ρ S) := PSs.imp pss_nil fun D σ H ⟨ρ, S, W, N, se, wl, sl, h⟩ => sl.nx _ _ h _ H (Kp.refl H) se
theorem s_cons (h1 : PS X st (LS X.K Wh Az)) (h2 : PSs X sts (LS X.K Wh Bz)) : PSs X (st :: sts) (LS X.K Wh fun N ρ S W => Az { N with nx := fun ρ1 S1 => Bz N ρ1 S1 W } ρ S W) :=
  PSs.imp (pss_cons h1 h2) fun D σ H ⟨ρ, S, W, N, se, wl, sl, h⟩ =>
    ⟨ρ, S, W, { N with nx := fun ρ1 S1 => Bz N ρ1 S1 W }, se, wl, ⟨fun ρ1 S1 q σ1 H1 k1 se1 => ⟨ρ1, S1, W, N, se1, wl.at k1, sl.at k1, q⟩, sl.rt, sl.bk, sl.ct⟩, h⟩
theorem s_asg {G : ATg} {sl : List Nat} (he : PE X e (LE X.K Wh A)) (hg : PG X tg (LG X.K Wh sl G)) (hs : swapsWithSole [tg] e pos.line X.env = pure false) (hw : swappedStores [tg] e X.env = pure none) (h1 : (assignEach [tg] X.env).map (·.2) = [assign tg X.env]) :
    PS X (.Assign [tg] e pos) (LS X.K Wh fun N ρ S W => A ρ S (fun d S1 => G d ρ S1 N.nx W) W) :=
  PS.imp (ps_asg he hg hs hw h1) fun D σ H ⟨ρ, S, W, N, se, wl, sl, h⟩ =>
    ⟨ρ, S, W, _, se, wl, fun d S1 h1 v H1 k1 s1 r1 => ⟨d, ρ, S1, W, N.nx, r1, se.at k1 s1, wl.at k1, fun ρ2 S2 q σ2 H2 k2 se2 _ => sl.nx _ _ q σ2 H2 (k1.trans k2) se2, h1⟩, h⟩
theorem s_set {i : Nat} {x : Str} {pos' : Pos} (hN : X.N.Nodup) (hi : X.N[i]? = some x) (hx : Loc X.env.scope x) (he : PE X e (LE X.K Wh A)) (hs : swapsWith e (some (.Name x pos')) pos.line X.env = pure false) (hf : X.fn x = true ∨ X.env.scope.names.lookup x = some .local) :
    PS X (.Assign [.Name x pos'] e pos) (LS X.K Wh fun N ρ S W => A ρ S (fun d S1 => N.nx (ρ.set i (some d)) S1) W) :=
  PS.imp (ps_set hN hi hx he hs hf) fun D σ H ⟨ρ, S, W, N, se, wl, sl, h⟩ =>
    ⟨ρ, S, W, _, se, wl, fun d S1 h1 v H1 k1 s1 r1 => sl.nx _ _ h1 _ H1 k1 ((se.at k1 s1).set i r1), h⟩
/-- a, b = x, y -/
theorem s_par {i j : Nat} {x y : Str} {a b : Expr} {px py pt : Pos} {kt k2 pt2} (hc : X.calm = true) (hN : X.N.Nodup) (hi : X.N[i]? = some x) (hj : X.N[j]? = some y) (hij : i ≠ j)
    (hx : X.env.scope.names.lookup x = some .local) (hy : X.env.scope.names.lookup y = some .local) (ha : PE X a (LE X.K Wh A)) (hb : PE X b (LE X.K Wh B)) (h1 : starEach [a, b] X.env = (false, eval a X.env) :: starEach [b] X.env) (h2 : starEach [b] X.env = (false, eval b X.env) :: starEach [] X.env)
    (hw : swappedStores [.Tuple [.Name x px, .Name y py] kt pt] (.Tuple [a, b] k2 pt2) X.env = pure (some [x, y])) :
    PS X (.Assign [.Tuple [.Name x px, .Name y py] kt pt] (.Tuple [a, b] k2 pt2) pos) (LS X.K Wh fun N ρ S W => A ρ S (fun d S1 => B ρ S1 (fun d' S2 => N.nx ((ρ.set i (some d)).set j (some d')) S2) W) W) :=
  PS.imp (ps_par hc hN hi hj hij hx hy (pa_cons ha (pa_cons hb pa_nil h2) h1) hw rfl) fun D σ H ⟨ρ, S, W, N, se, wl, sl, h⟩ =>
    ⟨ρ, S, W, _, se, wl, fun d S1 h1 v H1 k1 s1 r1 => ⟨ρ, S1, W, _, se.at k1 s1, wl.at k1, fun d2 S2 h2 v2 H2 k2 s2 r2 => ⟨v, v2, rfl, sl.nx _ _ h2 _ H2 (k1.trans k2) (((se.at (k1.trans k2) s2).set i (Rp.kp k2 _ r1)).set j r2)⟩, h1⟩, h⟩
/-- a, b, c = x, y, z -/
theorem s_par3 {i j l : Nat} {x y z : Str} {a b c : Expr} {px py pz pt : Pos} {kt k2 pt2} {C : AE} (hc : X.calm = true) (hN : X.N.Nodup) (hi : X.N[i]? = some x) (hj : X.N[j]? = some y) (hl : X.N[l]? = some z) (hij : i ≠ j) (hil : i ≠ l) (hjl : j ≠ l)
    (hx : X.env.scope.names.lookup x = some .local) (hy : X.env.scope.names.lookup y = some .local) (hz : X.env.scope.names.lookup z = some .local) (ha : PE X a (LE X.K Wh A)) (hb : PE X b (LE X.K Wh B)) (hcc : PE X c (LE X.K Wh C))
    (h1 : starEach [a, b, c] X.env = (false, eval a X.env) :: starEach [b, c] X.env) (h2 : starEach [b, c] X.env = (false, eval b X.env) :: starEach [c] X.env) (h3 : starEach [c] X.env = (false, eval c X.env) :: starEach [] X.env)
    (hw : swappedStores [.Tuple [.Name x px, .Name y py, .Name z pz] kt pt] (.Tuple [a, b, c] k2 pt2) X.env = pure (some [x, y, z])) :
    PS X (.Assign [.Tuple [.Name x px, .Name y py, .Name z pz] kt pt] (.Tuple [a, b, c] k2 pt2) pos) (LS X.K Wh fun N ρ S W => A ρ S (fun d S1 => B ρ S1 (fun d' S2 => C ρ S2 (fun d'' S3 => N.nx (((ρ.set i (some d)).set j (some d')).set l (some d'')) S3) W) W) W) :=
  PS.imp (ps_par3 hc hN hi hj hl hij hil hjl hx hy hz (pa_cons ha (pa_cons hb (pa_cons hcc pa_nil h3) h2) h1) hw rfl) fun D σ H ⟨ρ, S, W, N, se, wl, sl, h⟩ =>
    ⟨ρ, S, W, _, se, wl, fun d S1 h1 v H1 k1 s1 r1 => ⟨ρ, S1, W, _, se.at k1 s1, wl.at k1, fun d2 S2 h2 v2 H2 k2 s2 r2 => ⟨ρ, S2, W, _, se.at (k1.trans k2) s2, wl.at (k1.trans k2), fun d3 S3 h3 v3 H3 k3 s3 r3 =>
      ⟨v, v2, v3, rfl, sl.nx _ _ h3 _ H3 ((k1.trans k2).trans k3) ((((se.at ((k1.trans k2).trans k3) s3).set i (Rp.kp (k2.trans k3) _ r1)).set j (Rp.kp k3 _ r2)).set l r3)⟩, h2⟩, h1⟩, h⟩
theorem s_ex (he : PE X e (LE X.K Wh A)) (hs : swapsWith e none pos.line X.env = pure false) : PS X (.Expr e pos) (LS X.K Wh fun N ρ S W => A ρ S (fun _ S1 => N.nx ρ S1) W) :=
  PS.imp (ps_expr he hs) fun D σ H ⟨ρ, S, W, N, se, wl, sl, h⟩ => ⟨ρ, S, W, _, se, wl, fun d S1 h1 v H1 k1 s1 r1 => sl.nx _ _ h1 _ H1 k1 (se.at k1 s1), h⟩
theorem s_ret (he : PE X e (LE X.K Wh A)) : PS X (.Return (some e) pos) (LS X.K Wh fun N ρ S W => A ρ S N.rt W) :=
  PS.imp (ps_ret he) fun D σ H ⟨ρ, S, W, N, se, wl, sl, h⟩ => ⟨ρ, S, W, _, se, wl, sl.rt, h⟩
theorem s_retN : PS X (.Return none pos) (LS X.K Wh fun N ρ S W => N.rt .non S) :=
  PS.imp ps_retN fun D σ H ⟨ρ, S, W, N, se, wl, sl, h⟩ => sl.rt _ _ h _ H (Kp.refl H) se.sto rfl
theorem s_if (hc : PT X c (LT X.K Wh (aTru C))) (ha : PSs X sts (LS X.K Wh Az)) (hb : PSs X sts' (LS X.K Wh Bz)) : PS X (.If c sts sts' pos) (LS X.K Wh fun N ρ S W => aTru C ρ S (fun b S1 => if b = true then Az N ρ S1 W else Bz N ρ S1 W) W) :=
  PS.imp (ps_if hc ha hb) fun D σ H ⟨ρ, S, W, N, se, wl, sl, h⟩ => ⟨ρ, S, W, _, se, wl, fun b S1 h1 H1 k1 s1 => by
    cases b with
    | true => exact ⟨ρ, S1, W, N, se.at k1 s1, wl.at k1, sl.at k1, h1⟩
    | false => exact ⟨ρ, S1, W, N, se.at k1 s1, wl.at k1, sl.at k1, h1⟩, h⟩
theorem s_while (hp : PassesOwn (model X.prog X.w) X.A X.env X.xe) (hc : PT X c (LT X.K Wh (aTru C))) (hb : PSs X sts (LS X.K Wh Az)) : PS X (.While c sts [] pos) (LS X.K Wh fun N ρ S W => ∃ J : Nat → DSt → Sto → Prop, (∃ m, J m ρ S) ∧ ∀ m ρ S, J m ρ S → aTru C ρ S (fun c S1 => if c = true then
      Az { nx := fun ρ2 S2 => ∃ m', m' < m ∧ J m' ρ2 S2, rt := N.rt, bk := N.nx, ct := fun ρ2 S2 => ∃ m', m' < m ∧ J m' ρ2 S2 } ρ S1 W else N.nx ρ S1) W) :=
  PS.imp (ps_while hp hc hb) fun D σ H ⟨ρ, S, W, N, se, wl, sl, J, ⟨m0, j0⟩, turn⟩ => by
    refine ⟨fun m σ1 H1 => Kp H H1 ∧ ∃ ρ1 S1, Sees X.K H1 σ1 ρ1 S1 ∧ J m ρ1 S1, ⟨m0, Kp.refl H, ρ, S, se, j0⟩, fun m σ1 H1 ⟨k1, ρ1, S1, se1, j1⟩ => ?_⟩
    refine ⟨ρ1, S1, W, _, se1, wl.at k1, fun bb S2 h2 H2 k2 s2 => ?_, turn m ρ1 S1 j1⟩
    cases bb with
    | true =>
      refine ⟨fun σ3 H3 => ∃ m', m' < m ∧ Kp H H3 ∧ ∃ ρ3 S3, Sees X.K H3 σ3 ρ3 S3 ∧ J m' ρ3 S3, fun σ3 H3 ⟨m', hm, q⟩ => ⟨m', hm, q⟩, ?_⟩
      exact ⟨ρ1, S2, W, { nx := fun ρ2 S2 => ∃ m', m' < m ∧ J m' ρ2 S2, rt := N.rt, bk := N.nx, ct := fun ρ2 S2 => ∃ m', m' < m ∧ J m' ρ2 S2 }, se1.at k2 s2, wl.at (k1.trans k2), ⟨fun ρ3 S3 ⟨m', hm, q⟩ σ3 H3 k3 se3 => ⟨m', hm, (k1.trans k2).trans k3, ρ3, S3, se3, q⟩, sl.rt.at (k1.trans k2), sl.nx.at (k1.trans k2), fun ρ3 S3 ⟨m', hm, q⟩ σ3 H3 k3 se3 => ⟨m', hm, (k1.trans k2).trans k3, ρ3, S3, se3, q⟩⟩, h2⟩
    | false => exact sl.nx _ _ h2 _ H2 (k1.trans k2) (se1.at k2 s2)
theorem s_for {wi : AI} {g : ATg} {sl0 : List Nat} (hp : PassesOwn (model X.prog X.w) X.A X.env X.xe) (hc : X.calm = true) (hi : PI X tg iter (LI X.K Wh wi)) (hg : PG X tg (LG X.K Wh sl0 g)) (hb : PSs X sts (LS X.K Wh Az)) (hs : ∀ x, foldedSetIterable iter X.env x = pure x) :
    PS X (.For tg iter sts [] pos) (LS X.K Wh fun N ρ S W => wi ρ S (fun ds src S1 => forS g Az src N W ds ρ S1) W) :=
  PS.imp (ps_for hp hc hi hg hb hs) fun D σ H ⟨ρ, S, W, N, se, wl, sl, h⟩ => by
    refine ⟨ρ, S, W, _, se, wl, fun ds src S1 h1 J H1 k1 s1 wk => ?_, h⟩
    refine ⟨fun i m σ2 H2 => m = ds.length - i ∧ i ≤ ds.length ∧ Kp H1 H2 ∧ ∃ ρ2 S2, Sees X.K H2 σ2 ρ2 S2 ∧ forS g Az src N W (ds.drop i) ρ2 S2, ⟨ds.length, by simp, Nat.zero_le _, Kp.refl H1, ρ, S1, se.at k1 s1, by simpa using h1⟩, ?_⟩
    rintro i m σ2 H2 ⟨rfl, hi2, k2, ρ2, S2, se2, hl⟩
    by_cases hlt : i < ds.length
    · rw [List.drop_eq_getElem_cons hlt] at hl
      simp only [forS] at hl
      obtain ⟨hsrc, hl⟩ := hl
      refine .inr ⟨wk.go i H2 S2 hlt k2 se2.sto hsrc, fun σ3 H3 => Kp H1 H3 ∧ ∃ ρ3 S3, Sees X.K H3 σ3 ρ3 S3 ∧ forS g Az src N W (ds.drop (i + 1)) ρ3 S3, fun σ3 H3 ⟨k3, q⟩ => ⟨ds.length - (i + 1), by omega, rfl, by omega, k3, q⟩, fun x H3 y => ?_⟩
      obtain ⟨sm, d, ed, rd⟩ := wk.yld i H2 S2 x H3 hlt k2 se2.sto hsrc y
      have ed' : ds[i] = d := by
        rw [List.getElem?_eq_getElem hlt] at ed
        exact Option.some.inj ed
      rw [ed'] at hl
      have k3 : Kp H1 H3 := k2.trans sm.kp
      refine ⟨d, ρ2, S2, W, _, rd, se2.at sm.kp (se2.sto.sm sm), wl.at (k1.trans k3), fun ρ4 S4 h4 σ4 H4 k4 se4 _ => ?_, hl⟩
      have k14 := k3.trans k4
      exact ⟨ρ4, S4, W, { nx := fun ρ2 S2 => forS g Az src N W (ds.drop (i + 1)) ρ2 S2, rt := N.rt, bk := N.nx, ct := fun ρ2 S2 => forS g Az src N W (ds.drop (i + 1)) ρ2 S2 }, se4, wl.at (k1.trans k14), ⟨fun ρ5 S5 q σ5 H5 k5 se5 => ⟨k14.trans k5, ρ5, S5, se5, q⟩, sl.rt.at (k1.trans k14), sl.nx.at (k1.trans k14), fun ρ5 S5 q σ5 H5 k5 se5 => ⟨k14.trans k5, ρ5, S5, se5, q⟩⟩, h4⟩
    · have ei : i = ds.length := by omega
      subst ei
      rw [List.drop_length] at hl
      obtain ⟨hsrc, hl⟩ := hl
      exact .inl ⟨wk.stop H2 S2 k2 se2.sto hsrc, sl.nx _ _ hl _ H2 (k1.trans k2) se2⟩
theorem s_aug {i : Nat} {x : Str} {o : Operator} {pos' : Pos} (ho : o = .Add ∨ o = .Sub) (hN : X.N.Nodup) (hi : X.N[i]? = some x) (hx : Loc X.env.scope x) (he : PE X e (LE X.K Wh A)) (hf : X.fn x = true ∨ X.env.scope.names.lookup x = some .local) :
    PS X (.AugAssign (.Name x pos') o e pos) (LS X.K Wh fun N ρ S W => match lk ρ i with
    | some x => A ρ S (fun y S1 => augS o x y fun d => N.nx (ρ.set i (some d)) S1) W
    | none => False) := by
  have key : ∀ (f : Int → Int → Int), PIp X o (ipI f) → (∀ d y P, augS o d y P → ∃ p q, d = .int p ∧ y = .int q ∧ P (.int (f p q))) → PS X (.AugAssign (.Name x pos') o e pos) (LS X.K Wh fun N ρ S W => match lk ρ i with
    | some x => A ρ S (fun y S1 => augS o x y fun d => N.nx (ρ.set i (some d)) S1) W
    | none => False) := fun f hf2 hk =>
    PS.imp (ps_aug hN hi hx he hf2 hf) fun D σ H ⟨ρ, S, W, N, se, wl, sl, h⟩ => by
      dsimp only at h
      split at h
      · rename_i d ed
        obtain ⟨v, h1, h2⟩ := se.loc i d (lk_some ed)
        refine ⟨v, h1, ρ, S, W, _, se, wl, fun y S1 q u H1 k1 s1 r1 => ?_, h⟩
        obtain ⟨p1, q1, rfl, rfl, z⟩ := hk _ _ _ q
        cases h2; cases r1
        exact ⟨p1, q1, rfl, rfl, sl.nx _ _ z _ H1 k1 ((se.at k1 s1).set i rfl)⟩
      · exact h.elim
  rcases ho with rfl | rfl
  · exact key _ ip_add fun d y P h => by
      cases d <;> cases y <;> first
        | exact (show False from h).elim
        | exact ⟨_, _, rfl, rfl, h⟩
  · exact key _ ip_sub fun d y P h => by
      cases d <;> cases y <;> first
        | exact (show False from h).elim
        | exact ⟨_, _, rfl, rfl, h⟩
theorem s_pass : PS X (.Pass pos) (LS X.K Wh fun N ρ S _ => N.nx ρ S) := PS.imp ps_pass fun D σ H ⟨ρ, S, W, N, se, wl, sl, h⟩ => sl.nx _ _ h _ H (Kp.refl H) se
theorem s_cont : PS X (.Continue pos) (LS X.K Wh fun N ρ S _ => N.ct ρ S) := PS.imp ps_continue fun D σ H ⟨ρ, S, W, N, se, wl, sl, h⟩ => sl.ct _ _ h _ H (Kp.refl H) se
theorem s_brk : PS X (.Break pos) (LS X.K Wh fun N ρ S _ => N.bk ρ S) := PS.imp ps_break fun D σ H ⟨ρ, S, W, N, se, wl, sl, h⟩ => sl.bk _ _ h _ H (Kp.refl H) se
/-- raise X('..') -/
theorem s_rz {k : Nat} {m : Str} {j : Nat} {p p2 pos2 : Pos} (hc : X.calm = true) (tk : Takes X Wh) (kn : Kn X.K k) (q : PySem.W.excIn X.K (gaK X.K (clsN k)) [.type "ValueError", .type "Exception", .type "BaseException", .type "object"] "ValueError.__new__" = true) (gC : X.mg (clsN k) = some (.ref (gaK X.K (clsN k)))) (kC : PySem.W.keepIn X.K (.ref (gaK X.K (clsN k))) = true)
    (h1 : PySem.W.subIn X.K (.ref (gaK X.K (clsN k))) (.type "BaseException") = some true) (h2 : PySem.W.typeIn X.K (.ref (gaK X.K (clsN k))) = some (.type "type")) (hg : Gl X (clsN k)) (hdb : (clsN k == ("__debug__" : Str)) = false) :
    PS X (.Raise (some (.Call (.Name (clsN k) p) [.Constant (.str m) j p2] [] pos)) none pos2) (LS X.K Wh fun _ ρ S W => W k none ρ S) :=
  PS.imp (ps_raise hc tk (pmk_own PySem.F.excBase_ValueError q gC kC (raises_own h1 h2) hg hdb)) fun D σ H ⟨ρ, S, W, N, se, wl, sl, h⟩ => wl k none ρ S h none σ H (Kp.refl H) se ⟨kn, rfl⟩
/-- an own __init__ that keeps its one argument in a field -/
def spI (C : Addr) (f : Str) : Sp := fun vs H Q _ => ∃ (a : Addr) (y : V), vs = [.ref a, y] ∧ H a = some (exo a C none) ∧ ∀ dx, H dx = none → dx ≠ a → Q .non (upd (upd H dx (exd dx [(f, y)])) a (exo a C (some dx)))
/-- raise X(e), X with a field -/
theorem s_rzf {k : Nat} {fI : Addr} {fd : FuncData} {ps : List Str} {e : Expr} {As : AA} {p pos2 : Pos} (hc : X.calm = true) (tk : Takes X Wh) (kn : Kn X.K k) (T : OexC X.K (gaK X.K (clsN k))) (iC : PySem.W.findIn X.K (.ref (gaK X.K (clsN k))) "__init__" = some (some (.ref fI))) (tI : PySem.W.typeIn X.K (.ref fI) = some (.type "function"))
    (F1 : FnOk X.prog X.w X.K X.mg X.base (L2.CX X.prog X.w) 1 fI fd ps (spI (gaK X.K (clsN k)) (fldN k))) (hr : Room 2 X.A) (hb : Binds X.K fd ps []) (hg : Gl X (clsN k)) (gC : X.mg (clsN k) = some (.ref (gaK X.K (clsN k)))) (ha : PA X [e] (LA X.K Wh As)) (hdb : (clsN k == ("__debug__" : Str)) = false) (he : starEach [e] X.env = (false, eval e X.env) :: starEach [] X.env) :
    PS X (.Raise (some (.Call (.Name (clsN k) p) [e] [] pos)) none pos2) (LS X.K Wh fun _ ρ S W => As ρ S (fun ds S1 => ∃ d, ds = [d] ∧ W k (some d) ρ S1) W) := by
  have hx : Passes (L2.CX X.prog X.w) X (fun _ _ _ => False) := fun pins σ H s e s' I c => tk e s' (XE.of_call I (fun _ _ _ h => (h : False).elim) c)
  refine PS.imp (ps_raise hc tk (pmk_oex T iC tI F1 hr hb .nil hx hg gC ha hdb he rfl)) fun D σ H ⟨ρ, S, W, N, se, wl, sl, h⟩ => ?_
  refine ⟨ρ, S, W, _, se, wl, fun ds S1 h1 vs H1 k1 s1 r1 => ?_, h⟩
  obtain ⟨d, rfl, hw⟩ := h1
  obtain ⟨y, rfl, ry⟩ := r1.one'
  refine ⟨by simp, fun a ha' => ⟨a, y, rfl, upd_same, fun dx hdx ne => ⟨rfl, dx, [(fldN k, y)], upd_same, ?_, ?_, ?_⟩⟩⟩
  · rw [upd_ne ne, upd_same]
  · rw [upd_ne ne] at hdx; exact hdx
  · have hdx' : H1 dx = none := by rw [upd_ne ne] at hdx; exact hdx
    have sm : Sm H1 (upd (del (upd (upd (upd H1 a (exo a (gaK X.K (clsN k)) none)) dx (exd dx [(fldN k, y)])) a (exo a (gaK X.K (clsN k)) (some dx))) a) dx (.xd [(fldN k, y)])) := fun b o hb' => by
      have b1 : b ≠ a := ne_of_none hb' ha'
      have b2 : b ≠ dx := ne_of_none hb' hdx'
      rw [upd_ne b2, del_ne b1, upd_ne b1, upd_ne b2, upd_ne b1]
      exact hb'
    exact wl k (some d) ρ S1 hw (some dx) σ _ (k1.trans sm.kp) (se.at (k1.trans sm.kp) (s1.sm sm)) ⟨kn, dx, y, rfl, upd_same, Rp.kp sm.kp d ry⟩
end
end Sd
namespace Sd
open PySem PySem.Spec PyProof.Rows L2
/-- an object of ours that is pinned becomes tracked: a caught error -/
theorem inv_keep {X : Cx} {pins : List (Addr × Obj)} {σ : L2.St} {H : Hp} {s : Shared} {a : Addr} {oe : Obj} {cls : Value} {d : Option Addr} {vs : Array Value} (I : L2.Inv X ((a, oe) :: pins) σ H s) (hz : Zc cls d oe) (hd : oe.data = .fields vs)
    (h0 : X.s_0.heap.get? a = none) (hex : X.ex = []) (hp : ∀ p, p ∈ X.pn ++ pins → p.1 ≠ a) : L2.Inv X pins σ (upd H a (ExV cls d a)) s := by
  obtain ⟨ga, na, nl, nf, nc⟩ := I.pin (a, oe) (List.mem_append_right _ List.mem_cons_self)
  have ne0 : ∀ b o, X.s_0.heap.get? b = some o → b ≠ a := fun b o e z => by
    rw [z, h0] at e
    cases e
  have neH : ∀ b u, H b = some u → b ≠ a := fun b u e z => by
    rw [z] at e
    exact absurd (e.symm.trans na) (by simp)
  refine { ok := I.ok, os := I.os, bare := I.bare, base := ?_, loc := I.loc, cell := I.cell, free := ?_, freeC := ?_, pin := ?_, hok := ?_, len := I.len }
  · have B := I.base
    exact { keep := B.keep, slot := B.slot, there := B.there
            free := fun b o e n hx => by rw [upd_ne (ne0 b o e)]; exact B.free b o e n hx
            tups := fun b xs e => by rw [upd_ne (neH _ _ (B.tups b xs e))]; exact B.tups b xs e
            frzs := fun b o u e => by rw [upd_ne (neH _ _ (B.frzs b o u e))]; exact B.frzs b o u e
            tbls := fun b ps e => by
              obtain ⟨m, z⟩ := B.tbls b ps e
              exact ⟨m, by rw [upd_ne (neH _ _ z)]; exact z⟩ }
  · rw [upd_ne (Ne.symm nl)]
    exact I.free
  · intro x c e
    have z : c ≠ a := fun z => by
      obtain ⟨v, o, ho, hv⟩ := I.cell x c e
      rw [z] at ho
      rw [show s.heap.get? a = some oe from ga] at ho
      cases ho
      exact nc v hv
    rw [upd_ne z]
    exact I.freeC x c e
  · intro p hm
    obtain ⟨e1, e2, e3, e4, e5⟩ := I.pin p ((List.mem_append.mp hm).elim (fun z => List.mem_append_left _ z) fun z => List.mem_append_right _ (List.mem_cons_of_mem _ z))
    exact ⟨e1, by rw [upd_ne (hp p hm)]; exact e2, e3, e4, e5⟩
  · intro b u e
    by_cases hb : b = a
    · subst hb
      rw [upd_same] at e
      cases e
      exact ⟨⟨oe, vs, ga, hz, hd⟩, ⟨oe, ga⟩, fun h1 h2 ⟨o, v, q1, q2⟩ k => ⟨o, v, k o q1, q2⟩⟩
    · rw [upd_ne hb] at e
      exact (I.hok b u e).stay (fun _ _ _ q => q) (fun c q => by rw [upd_ne (neH _ _ q)]; exact q) fun c xs q => by rw [upd_ne (neH _ _ q)]; exact q
/-- what «except x as n: y = n» wishes of an error -/
def wKeep (K : PySem.W.Frag) (c : Value) (n y : Nat) (Wout : WX) (D : Ends) : WX := fun cls d σ H =>
  ∃ b, PySem.W.exmOne K cls c = some b ∧ (b = true → ∀ a, H a = none → D.nx ((((σ.set n (some (.ref a))).set y (some (.ref a)))).set n none) (upd H a (ExV cls d a))) ∧ (b = false → Wout cls d σ H)
section
variable {X : Cx} {x nn yy : Str} {c : Value} {i j : Nat} {body : List Stmt} {np pos pos' p1 p2 p3 : Pos} {tb : WX → TS} {Wout : WX}
theorem ps_try_keep (hs : X.stack = X.env :: X.outer) (hf : X.env.frame = some X.env.locals) (hex : X.ex = []) (hN : X.N.Nodup) (hi : X.N[i]? = some nn) (hln : X.env.kindOf nn = some .local) (hj : X.N[j]? = some yy) (hly : Loc X.env.scope yy) (hfy : X.fn yy = true ∨ X.env.scope.names.lookup yy = some .local)
    (hd1 : (nn == ("__debug__" : Str)) = false) (hd2 : (nn == ("__classdict__" : Str)) = false) (hc : Names X x c) (tk : Takes X Wout)
    (hb : ∀ (W : WX) (pn : List (Addr × Obj)) (xe : Value → Shared → Prop), Takes (X.tr pn xe) W → PassesOwn (model X.prog X.w) X.A X.env xe → PSs (X.tr pn xe) body (tb W)) :
    PS X (.Try body [.ExceptHandler (some (.Name x np)) (some nn) [.Assign [.Name yy p1] (.Name nn p2) p3] pos'] [] [] pos) (fun D σ H => tb (wKeep X.K c i j Wout D) D σ H) := by
  refine ⟨fun pins s σ H D I h => ?_⟩
  have ok := I.ok
  have hfr : X.A.frames = some (X.env :: X.outer) := ok.frames.trans (congrArg some hs)
  let hd : List ExceptHandler := [.ExceptHandler (some (.Name x np)) (some nn) [.Assign [.Name yy p1] (.Name nn p2) p3] pos']
  let E1 : Value → Shared → Prop := fun e s1 => wpAny (model X.prog X.w) X.A (noteFrame e X.env) (fun _ s2 => wpAny (model X.prog X.w) X.A (setFlight e none) (fun _ s3 => wpAny (model X.prog X.w) X.A (handleBy e X.env hd) (SP X pins D) X.xe s3) X.xe s2) X.xe s1
  refine wpAny_Try_except ?_
  have tk1 : Takes (X.tr (X.pn ++ pins) E1) (wKeep X.K c i j Wout D) := by
    intro u s' xx
    obtain ⟨a, B, sI, pins', σ', H', cls, d, rfl, J', nb, up, sky, na, os, ag, bb, hb1, hyes, hno⟩ := xx
    have J : L2.Inv X pins σ' H' sI := J'.ofTry ok
    have sky' : Sky B (X.env :: X.outer) a (Zc cls d) X.env.locals s'.heap := by rw [← hs]; exact sky
    show wpAny (model X.prog X.w) X.A (noteFrame (.ref a) X.env) _ _ _
    refine Sky.land Zc.steady hfr hf sky' fun h3 fl3 up3 => ?_
    have J3 : L2.Inv X pins σ' H' { s' with heap := h3 } := J.landed nb fl3.1 (up.trans up3) os ag
    obtain ⟨o3, v3, he3, hz3, hd3⟩ := fl3.there
    have nfr : a ∉ frs (X.env :: X.outer) := fun hm => by
      obtain ⟨_, o', e', hnf⟩ := fl3.2.2.1.mem hm
      rw [he3] at e'
      cases e'
      exact hnf _ hd3
    have nL : a ≠ X.env.locals := fun z => nfr (List.mem_filterMap.mpr ⟨X.env, List.mem_cons_self, by rw [hf, z]⟩)
    have nF : a ∉ X.fs := fun hm => by
      obtain ⟨e, he, q⟩ := List.mem_filterMap.mp hm
      exact nfr (List.mem_filterMap.mpr ⟨e, List.mem_cons_of_mem _ he, q⟩)
    -- the error is younger than the entry
    have nI : sI.heap.get? a = none := by
      cases q : sI.heap.get? a with
      | none => rfl
      | some o =>
        have z := nb a o q (by rw [hs]; exact nfr)
        rw [fl3.2.1] at z
        cases z
    have n0 : X.s_0.heap.get? a = none := by
      cases q : X.s_0.heap.get? a with
      | none => rfl
      | some o =>
        obtain ⟨o', z⟩ := J.base.there a o q (by rw [hex]; simp)
        rw [nI] at z
        cases z
    have npin : ∀ p, p ∈ X.pn ++ pins → p.1 ≠ a := fun p hp z => by
      have := (J.pin p hp).1
      rw [z, nI] at this
      cases this
    have S3 := J3.suite he3 hd3 na nL nF
    refine wpAny_handleBy_cons (codeAny_handlers_test ?_) (by intro q; cases q)
    have LT3 : PySem.W.Looks (model X.prog X.w) h3 (typeOf (.ref a)) cls := fun A Q E s k q => wpAny_typeOf_ref (k _ _ he3) (by rw [hz3.1]; exact q)
    have LM := PySem.W.exm_one (M := model X.prog X.w) J3.kIn LT3 hb1
    have test : ∀ {Q : Value → Shared → Prop} {E : Value → Shared → Prop}, Q c { s' with heap := h3 } → wpAny (model X.prog X.w) (X.A.mark (some (.ref a))) (eval (.Name x np) X.env) Q E { s' with heap := h3 } := fun {Q E} q => by
      obtain ⟨hg, hdbg, hm | ⟨hm, hv, hnn⟩⟩ := hc
      · exact ld_glob (X := X.suite a ((a, o3) :: (X.pn ++ pins))) S3 hg hm q hdbg
      · exact ld_blt (X := X.suite a ((a, o3) :: (X.pn ++ pins))) S3 hg hm hv q hnn hdbg
    refine test (LM.here ?_)
    cases bb with
    | true =>
      refine codeAny_handlers_suite_as (HandSPX.lands_againZ fl3 fun h4 fl4 up4 => ?_)
      have J4 : L2.Inv X pins σ' H' { s' with heap := h4 } := J.landed nb fl4.1 ((up.trans up3).trans up4) os ag
      obtain ⟨o4, v4, he4, hz4, hd4⟩ := fl4.there
      have S4 := J4.suite he4 hd4 na nL nF
      refine store_ok (X := X.suite a ((a, o4) :: (X.pn ++ pins))) (v := .ref a) S4 hN hi (.inl hln) rfl (fun s5 S5 => ?_) (.inr hln)
      -- y = n, in the suite
      have suite : PSs (X.suite a ((a, o4) :: (X.pn ++ pins))) [.Assign [.Name yy p1] (.Name nn p2) p3] (tAsg (tVar i) (gName j)) :=
        pss_one (ps_set (X := X.suite a ((a, o4) :: (X.pn ++ pins))) hN hj hly (pe_var (X := X.suite a ((a, o4) :: (X.pn ++ pins))) hi (.inl hln) hd1 hd2) rfl hfy)
      have hil : i < σ'.length := by
        rw [J.len]
        exact (List.getElem?_eq_some_iff.mp hi).1
      refine wpAny_mono (suite.run [] s5 _ H' { nx := fun σ6 H6 => σ6 = (σ'.set i (some (.ref a))).set j (some (.ref a)) ∧ H6 = H', rt := fun _ _ => False } S5 ⟨.ref a, List.getElem?_set_self hil, rfl, rfl⟩) (fun f s6 hsp => ?_) (fun _ _ z => False.elim z)
      cases f with
      | next =>
        obtain ⟨σ6, H6, S6, rfl, rfl⟩ := hsp
        have J6 : L2.Inv X ((a, o4) :: pins) _ H6 s6 := (S6.unsuite ok).pins_of fun p hp => by
          rcases List.mem_cons.mp hp with rfl | hp
          · obtain ⟨q1, q2, q3, q4, q5⟩ := S6.pin (a, o4) (List.mem_append_left _ List.mem_cons_self)
            exact ⟨q1, q2, q3, q4, q5⟩
          · obtain ⟨q1, q2, q3, q4, q5⟩ := S6.pin p (List.mem_append_left _ (List.mem_cons_of_mem _ (List.mem_append_right _ hp)))
            exact ⟨q1, q2, q3, q4, q5⟩
        refine gone_ok J6 hN hi hln fun s7 J7 => ?_
        exact ⟨_, _, inv_keep J7 hz4 hd4 n0 hex npin, hyes rfl a na⟩
      | brk => obtain ⟨_, _, _, q⟩ := hsp; exact q.elim
      | cont => obtain ⟨_, _, _, q⟩ := hsp; exact q.elim
      | ret u => obtain ⟨_, _, _, _, _, q⟩ := hsp; exact q.elim
    | false =>
      show wpAny _ X.A (handleBy (.ref a) X.env []) _ _ _
      refine wpAny_handleBy_nil ?_
      obtain ⟨f1, f2, f3, oe, vs, T, oT, ts', he, hz, hdd, g1, hr⟩ := id fl3
      unfold PySem.passOn
      refine wpAny_bind (wpAny_field he hdd g1 ?_)
      rw [if_neg (show ¬ ((Value.ref T == Value.none) = true) by simp)]
      have fin : wpAny (model X.prog X.w) X.A (setFlight (.ref a) X.env.frame) (fun _ s4 => wpAny (model X.prog X.w) X.A (throw (.ref a) : Sem Flow) (SP X pins D) X.xe s4) X.xe { s' with heap := h3 } := by
        rw [hf]
        refine HandSPX.setFlight_upZ fl3 fun h4 hh4 up4 => wpAny_throw (tk _ _ ⟨a, B, sI, pins, σ', H', cls, d, rfl, J, nb, (up.trans up3).trans up4, .inr (.inr ?_), na, os, ag, hno rfl⟩)
        rw [hs]
        exact hh4
      first
        | exact wpAny_bind (wpAny_pure (wpAny_bind fin))
        | exact wpAny_bind fin
  refine wpAny_mono ((hb (wKeep X.K c i j Wout D) (X.pn ++ pins) E1 tk1 PassesOwn.looking).run [] s σ H D (I.toTry _) h) (fun f s1 hsp => ?_) (fun _ _ he => he)
  cases f with
  | next =>
    obtain ⟨σ', H', J', q⟩ := hsp
    exact wpAny_execs_nil ⟨_, _, J'.ofTry ok, q⟩
  | brk =>
    obtain ⟨σ', H', J', q⟩ := hsp
    exact ⟨_, _, J'.ofTry ok, q⟩
  | cont =>
    obtain ⟨σ', H', J', q⟩ := hsp
    exact ⟨_, _, J'.ofTry ok, q⟩
  | ret u =>
    obtain ⟨v, σ', H', J', r, q⟩ := hsp
    exact ⟨_, _, _, J'.ofTry ok, r, q⟩
end
/-- what «except x as n: y = n; z = None» wishes of an error -/
def wKeep2 (K : PySem.W.Frag) (c : Value) (n y z : Nat) (Wout : WX) (D : Ends) : WX := fun cls d σ H =>
  ∃ b, PySem.W.exmOne K cls c = some b ∧ (b = true → ∀ a, H a = none → D.nx (((((σ.set n (some (.ref a))).set y (some (.ref a)))).set z (some .non)).set n none) (upd H a (ExV cls d a))) ∧ (b = false → Wout cls d σ H)
section
variable {X : Cx} {x nn yy zz : Str} {c : Value} {i j l : Nat} {body : List Stmt} {np pos pos' p1 p2 p3 p4 p5 p6 : Pos} {kk : Nat} {tb : WX → TS} {Wout : WX}
theorem ps_try_keep2 (hs : X.stack = X.env :: X.outer) (hf : X.env.frame = some X.env.locals) (hex : X.ex = []) (hN : X.N.Nodup) (hi : X.N[i]? = some nn) (hln : X.env.kindOf nn = some .local) (hj : X.N[j]? = some yy) (hly : Loc X.env.scope yy) (hfy : X.fn yy = true ∨ X.env.scope.names.lookup yy = some .local) (hl : X.N[l]? = some zz) (hlz : Loc X.env.scope zz) (hfz : X.fn zz = true ∨ X.env.scope.names.lookup zz = some .local)
    (hd1 : (nn == ("__debug__" : Str)) = false) (hd2 : (nn == ("__classdict__" : Str)) = false) (hc : Names X x c) (tk : Takes X Wout)
    (hb : ∀ (W : WX) (pn : List (Addr × Obj)) (xe : Value → Shared → Prop), Takes (X.tr pn xe) W → PassesOwn (model X.prog X.w) X.A X.env xe → PSs (X.tr pn xe) body (tb W)) :
    PS X (.Try body [.ExceptHandler (some (.Name x np)) (some nn) [.Assign [.Name yy p1] (.Name nn p2) p3, .Assign [.Name zz p4] (.Constant .none kk p5) p6] pos'] [] [] pos) (fun D σ H => tb (wKeep2 X.K c i j l Wout D) D σ H) := by
  refine ⟨fun pins s σ H D I h => ?_⟩
  have ok := I.ok
  have hfr : X.A.frames = some (X.env :: X.outer) := ok.frames.trans (congrArg some hs)
  let hd : List ExceptHandler := [.ExceptHandler (some (.Name x np)) (some nn) [.Assign [.Name yy p1] (.Name nn p2) p3, .Assign [.Name zz p4] (.Constant .none kk p5) p6] pos']
  let E1 : Value → Shared → Prop := fun e s1 => wpAny (model X.prog X.w) X.A (noteFrame e X.env) (fun _ s2 => wpAny (model X.prog X.w) X.A (setFlight e none) (fun _ s3 => wpAny (model X.prog X.w) X.A (handleBy e X.env hd) (SP X pins D) X.xe s3) X.xe s2) X.xe s1
  refine wpAny_Try_except ?_
  have tk1 : Takes (X.tr (X.pn ++ pins) E1) (wKeep2 X.K c i j l Wout D) := by
    intro u s' xx
    obtain ⟨a, B, sI, pins', σ', H', cls, d, rfl, J', nb, up, sky, na, os, ag, bb, hb1, hyes, hno⟩ := xx
    have J : L2.Inv X pins σ' H' sI := J'.ofTry ok
    have sky' : Sky B (X.env :: X.outer) a (Zc cls d) X.env.locals s'.heap := by rw [← hs]; exact sky
    show wpAny (model X.prog X.w) X.A (noteFrame (.ref a) X.env) _ _ _
    refine Sky.land Zc.steady hfr hf sky' fun h3 fl3 up3 => ?_
    have J3 : L2.Inv X pins σ' H' { s' with heap := h3 } := J.landed nb fl3.1 (up.trans up3) os ag
    obtain ⟨o3, v3, he3, hz3, hd3⟩ := fl3.there
    have nfr : a ∉ frs (X.env :: X.outer) := fun hm => by
      obtain ⟨_, o', e', hnf⟩ := fl3.2.2.1.mem hm
      rw [he3] at e'
      cases e'
      exact hnf _ hd3
    have nL : a ≠ X.env.locals := fun z => nfr (List.mem_filterMap.mpr ⟨X.env, List.mem_cons_self, by rw [hf, z]⟩)
    have nF : a ∉ X.fs := fun hm => by
      obtain ⟨e, he, q⟩ := List.mem_filterMap.mp hm
      exact nfr (List.mem_filterMap.mpr ⟨e, List.mem_cons_of_mem _ he, q⟩)
    -- the error is younger than the entry
    have nI : sI.heap.get? a = none := by
      cases q : sI.heap.get? a with
      | none => rfl
      | some o =>
        have z := nb a o q (by rw [hs]; exact nfr)
        rw [fl3.2.1] at z
        cases z
    have n0 : X.s_0.heap.get? a = none := by
      cases q : X.s_0.heap.get? a with
      | none => rfl
      | some o =>
        obtain ⟨o', z⟩ := J.base.there a o q (by rw [hex]; simp)
        rw [nI] at z
        cases z
    have npin : ∀ p, p ∈ X.pn ++ pins → p.1 ≠ a := fun p hp z => by
      have := (J.pin p hp).1
      rw [z, nI] at this
      cases this
    have S3 := J3.suite he3 hd3 na nL nF
    refine wpAny_handleBy_cons (codeAny_handlers_test ?_) (by intro q; cases q)
    have LT3 : PySem.W.Looks (model X.prog X.w) h3 (typeOf (.ref a)) cls := fun A Q E s k q => wpAny_typeOf_ref (k _ _ he3) (by rw [hz3.1]; exact q)
    have LM := PySem.W.exm_one (M := model X.prog X.w) J3.kIn LT3 hb1
    have test : ∀ {Q : Value → Shared → Prop} {E : Value → Shared → Prop}, Q c { s' with heap := h3 } → wpAny (model X.prog X.w) (X.A.mark (some (.ref a))) (eval (.Name x np) X.env) Q E { s' with heap := h3 } := fun {Q E} q => by
      obtain ⟨hg, hdbg, hm | ⟨hm, hv, hnn⟩⟩ := hc
      · exact ld_glob (X := X.suite a ((a, o3) :: (X.pn ++ pins))) S3 hg hm q hdbg
      · exact ld_blt (X := X.suite a ((a, o3) :: (X.pn ++ pins))) S3 hg hm hv q hnn hdbg
    refine test (LM.here ?_)
    cases bb with
    | true =>
      refine codeAny_handlers_suite_as (HandSPX.lands_againZ fl3 fun h4 fl4 up4 => ?_)
      have J4 : L2.Inv X pins σ' H' { s' with heap := h4 } := J.landed nb fl4.1 ((up.trans up3).trans up4) os ag
      obtain ⟨o4, v4, he4, hz4, hd4⟩ := fl4.there
      have S4 := J4.suite he4 hd4 na nL nF
      refine store_ok (X := X.suite a ((a, o4) :: (X.pn ++ pins))) (v := .ref a) S4 hN hi (.inl hln) rfl (fun s5 S5 => ?_) (.inr hln)
      -- y = n, in the suite
      have suite : PSs (X.suite a ((a, o4) :: (X.pn ++ pins))) [.Assign [.Name yy p1] (.Name nn p2) p3, .Assign [.Name zz p4] (.Constant .none kk p5) p6] (tSeq (tAsg (tVar i) (gName j)) (tAsg (tC .non) (gName l))) :=
        pss_cons (ps_set (X := X.suite a ((a, o4) :: (X.pn ++ pins))) hN hj hly (pe_var (X := X.suite a ((a, o4) :: (X.pn ++ pins))) hi (.inl hln) hd1 hd2) rfl hfy) (pss_one (ps_set (X := X.suite a ((a, o4) :: (X.pn ++ pins))) hN hl hlz pe_non rfl hfz))
      have hil : i < σ'.length := by
        rw [J.len]
        exact (List.getElem?_eq_some_iff.mp hi).1
      refine wpAny_mono (suite.run [] s5 _ H' { nx := fun σ6 H6 => σ6 = ((σ'.set i (some (.ref a))).set j (some (.ref a))).set l (some .non) ∧ H6 = H', rt := fun _ _ => False } S5 ⟨.ref a, List.getElem?_set_self hil, rfl, rfl⟩) (fun f s6 hsp => ?_) (fun _ _ z => False.elim z)
      cases f with
      | next =>
        obtain ⟨σ6, H6, S6, rfl, rfl⟩ := hsp
        have J6 : L2.Inv X ((a, o4) :: pins) _ H6 s6 := (S6.unsuite ok).pins_of fun p hp => by
          rcases List.mem_cons.mp hp with rfl | hp
          · obtain ⟨q1, q2, q3, q4, q5⟩ := S6.pin (a, o4) (List.mem_append_left _ List.mem_cons_self)
            exact ⟨q1, q2, q3, q4, q5⟩
          · obtain ⟨q1, q2, q3, q4, q5⟩ := S6.pin p (List.mem_append_left _ (List.mem_cons_of_mem _ (List.mem_append_right _ hp)))
            exact ⟨q1, q2, q3, q4, q5⟩
        refine gone_ok J6 hN hi hln fun s7 J7 => ?_
        exact ⟨_, _, inv_keep J7 hz4 hd4 n0 hex npin, hyes rfl a na⟩
      | brk => obtain ⟨_, _, _, q⟩ := hsp; exact q.elim
      | cont => obtain ⟨_, _, _, q⟩ := hsp; exact q.elim
      | ret u => obtain ⟨_, _, _, _, _, q⟩ := hsp; exact q.elim
    | false =>
      show wpAny _ X.A (handleBy (.ref a) X.env []) _ _ _
      refine wpAny_handleBy_nil ?_
      obtain ⟨f1, f2, f3, oe, vs, T, oT, ts', he, hz, hdd, g1, hr⟩ := id fl3
      unfold PySem.passOn
      refine wpAny_bind (wpAny_field he hdd g1 ?_)
      rw [if_neg (show ¬ ((Value.ref T == Value.none) = true) by simp)]
      have fin : wpAny (model X.prog X.w) X.A (setFlight (.ref a) X.env.frame) (fun _ s4 => wpAny (model X.prog X.w) X.A (throw (.ref a) : Sem Flow) (SP X pins D) X.xe s4) X.xe { s' with heap := h3 } := by
        rw [hf]
        refine HandSPX.setFlight_upZ fl3 fun h4 hh4 up4 => wpAny_throw (tk _ _ ⟨a, B, sI, pins, σ', H', cls, d, rfl, J, nb, (up.trans up3).trans up4, .inr (.inr ?_), na, os, ag, hno rfl⟩)
        rw [hs]
        exact hh4
      first
        | exact wpAny_bind (wpAny_pure (wpAny_bind fin))
        | exact wpAny_bind fin
  refine wpAny_mono ((hb (wKeep2 X.K c i j l Wout D) (X.pn ++ pins) E1 tk1 PassesOwn.looking).run [] s σ H D (I.toTry _) h) (fun f s1 hsp => ?_) (fun _ _ he => he)
  cases f with
  | next =>
    obtain ⟨σ', H', J', q⟩ := hsp
    exact wpAny_execs_nil ⟨_, _, J'.ofTry ok, q⟩
  | brk =>
    obtain ⟨σ', H', J', q⟩ := hsp
    exact ⟨_, _, J'.ofTry ok, q⟩
  | cont =>
    obtain ⟨σ', H', J', q⟩ := hsp
    exact ⟨_, _, J'.ofTry ok, q⟩
  | ret u =>
    obtain ⟨v, σ', H', J', r, q⟩ := hsp
    exact ⟨_, _, _, J'.ofTry ok, r, q⟩
end
/-- what «except x as n: y = n; z = e2» wishes of an error -/
def wKeepG (K : PySem.W.Frag) (c : Value) (n y z : Nat) (t2 : TE) (Wout : WX) (D : Ends) : WX := fun cls d σ H =>
  ∃ b, PySem.W.exmOne K cls c = some b ∧ (b = true → ∀ a, H a = none → t2 ((σ.set n (some (.ref a))).set y (some (.ref a))) H fun v H6 => H6 a = none → D.nx (((((σ.set n (some (.ref a))).set y (some (.ref a)))).set z (some v)).set n none) (upd H6 a (ExV cls d a))) ∧ (b = false → Wout cls d σ H)
section
variable {X : Cx} {x nn yy zz : Str} {c : Value} {i j l : Nat} {body : List Stmt} {np pos pos' p1 p2 p3 p4 p5 p6 : Pos} {e2 : Expr} {t2 : TE} {tb : WX → TS} {Wout : WX}
theorem ps_try_keepG (hs : X.stack = X.env :: X.outer) (hf : X.env.frame = some X.env.locals) (hex : X.ex = []) (hN : X.N.Nodup) (hi : X.N[i]? = some nn) (hln : X.env.kindOf nn = some .local) (hj : X.N[j]? = some yy) (hly : Loc X.env.scope yy) (hfy : X.fn yy = true ∨ X.env.scope.names.lookup yy = some .local) (hl : X.N[l]? = some zz) (hlz : Loc X.env.scope zz) (hfz : X.fn zz = true ∨ X.env.scope.names.lookup zz = some .local)
    (hd1 : (nn == ("__debug__" : Str)) = false) (hd2 : (nn == ("__classdict__" : Str)) = false) (hc : Names X x c) (tk : Takes X Wout)
    (h2 : ∀ (Y : Cx), Y.env = X.env → PE Y e2 t2) (hm2 : ∀ σ H (Q Q' : VK), (∀ v H, Q v H → Q' v H) → t2 σ H Q → t2 σ H Q') (hw2 : ∀ l : Nat, swapsWith e2 (some (.Name zz p4)) l X.env = pure false)
    (hb : ∀ (W : WX) (pn : List (Addr × Obj)) (xe : Value → Shared → Prop), Takes (X.tr pn xe) W → PassesOwn (model X.prog X.w) X.A X.env xe → PSs (X.tr pn xe) body (tb W)) :
    PS X (.Try body [.ExceptHandler (some (.Name x np)) (some nn) [.Assign [.Name yy p1] (.Name nn p2) p3, .Assign [.Name zz p4] e2 p6] pos'] [] [] pos) (fun D σ H => tb (wKeepG X.K c i j l t2 Wout D) D σ H) := by
  refine ⟨fun pins s σ H D I h => ?_⟩
  have ok := I.ok
  have hfr : X.A.frames = some (X.env :: X.outer) := ok.frames.trans (congrArg some hs)
  let hd : List ExceptHandler := [.ExceptHandler (some (.Name x np)) (some nn) [.Assign [.Name yy p1] (.Name nn p2) p3, .Assign [.Name zz p4] e2 p6] pos']
  let E1 : Value → Shared → Prop := fun e s1 => wpAny (model X.prog X.w) X.A (noteFrame e X.env) (fun _ s2 => wpAny (model X.prog X.w) X.A (setFlight e none) (fun _ s3 => wpAny (model X.prog X.w) X.A (handleBy e X.env hd) (SP X pins D) X.xe s3) X.xe s2) X.xe s1
  refine wpAny_Try_except ?_
  have tk1 : Takes (X.tr (X.pn ++ pins) E1) (wKeepG X.K c i j l t2 Wout D) := by
    intro u s' xx
    obtain ⟨a, B, sI, pins', σ', H', cls, d, rfl, J', nb, up, sky, na, os, ag, bb, hb1, hyes, hno⟩ := xx
    have J : L2.Inv X pins σ' H' sI := J'.ofTry ok
    have sky' : Sky B (X.env :: X.outer) a (Zc cls d) X.env.locals s'.heap := by rw [← hs]; exact sky
    show wpAny (model X.prog X.w) X.A (noteFrame (.ref a) X.env) _ _ _
    refine Sky.land Zc.steady hfr hf sky' fun h3 fl3 up3 => ?_
    have J3 : L2.Inv X pins σ' H' { s' with heap := h3 } := J.landed nb fl3.1 (up.trans up3) os ag
    obtain ⟨o3, v3, he3, hz3, hd3⟩ := fl3.there
    have nfr : a ∉ frs (X.env :: X.outer) := fun hm => by
      obtain ⟨_, o', e', hnf⟩ := fl3.2.2.1.mem hm
      rw [he3] at e'
      cases e'
      exact hnf _ hd3
    have nL : a ≠ X.env.locals := fun z => nfr (List.mem_filterMap.mpr ⟨X.env, List.mem_cons_self, by rw [hf, z]⟩)
    have nF : a ∉ X.fs := fun hm => by
      obtain ⟨e, he, q⟩ := List.mem_filterMap.mp hm
      exact nfr (List.mem_filterMap.mpr ⟨e, List.mem_cons_of_mem _ he, q⟩)
    -- the error is younger than the entry
    have nI : sI.heap.get? a = none := by
      cases q : sI.heap.get? a with
      | none => rfl
      | some o =>
        have z := nb a o q (by rw [hs]; exact nfr)
        rw [fl3.2.1] at z
        cases z
    have n0 : X.s_0.heap.get? a = none := by
      cases q : X.s_0.heap.get? a with
      | none => rfl
      | some o =>
        obtain ⟨o', z⟩ := J.base.there a o q (by rw [hex]; simp)
        rw [nI] at z
        cases z
    have npin : ∀ p, p ∈ X.pn ++ pins → p.1 ≠ a := fun p hp z => by
      have := (J.pin p hp).1
      rw [z, nI] at this
      cases this
    have S3 := J3.suite he3 hd3 na nL nF
    refine wpAny_handleBy_cons (codeAny_handlers_test ?_) (by intro q; cases q)
    have LT3 : PySem.W.Looks (model X.prog X.w) h3 (typeOf (.ref a)) cls := fun A Q E s k q => wpAny_typeOf_ref (k _ _ he3) (by rw [hz3.1]; exact q)
    have LM := PySem.W.exm_one (M := model X.prog X.w) J3.kIn LT3 hb1
    have test : ∀ {Q : Value → Shared → Prop} {E : Value → Shared → Prop}, Q c { s' with heap := h3 } → wpAny (model X.prog X.w) (X.A.mark (some (.ref a))) (eval (.Name x np) X.env) Q E { s' with heap := h3 } := fun {Q E} q => by
      obtain ⟨hg, hdbg, hm | ⟨hm, hv, hnn⟩⟩ := hc
      · exact ld_glob (X := X.suite a ((a, o3) :: (X.pn ++ pins))) S3 hg hm q hdbg
      · exact ld_blt (X := X.suite a ((a, o3) :: (X.pn ++ pins))) S3 hg hm hv q hnn hdbg
    refine test (LM.here ?_)
    cases bb with
    | true =>
      refine codeAny_handlers_suite_as (HandSPX.lands_againZ fl3 fun h4 fl4 up4 => ?_)
      have J4 : L2.Inv X pins σ' H' { s' with heap := h4 } := J.landed nb fl4.1 ((up.trans up3).trans up4) os ag
      obtain ⟨o4, v4, he4, hz4, hd4⟩ := fl4.there
      have S4 := J4.suite he4 hd4 na nL nF
      refine store_ok (X := X.suite a ((a, o4) :: (X.pn ++ pins))) (v := .ref a) S4 hN hi (.inl hln) rfl (fun s5 S5 => ?_) (.inr hln)
      -- y = n, in the suite
      have suite : PSs (X.suite a ((a, o4) :: (X.pn ++ pins))) [.Assign [.Name yy p1] (.Name nn p2) p3, .Assign [.Name zz p4] e2 p6] (tSeq (tAsg (tVar i) (gName j)) (tAsg t2 (gName l))) :=
        pss_cons (ps_set (X := X.suite a ((a, o4) :: (X.pn ++ pins))) hN hj hly (pe_var (X := X.suite a ((a, o4) :: (X.pn ++ pins))) hi (.inl hln) hd1 hd2) rfl hfy) (pss_one (ps_set (X := X.suite a ((a, o4) :: (X.pn ++ pins))) hN hl hlz (h2 _ rfl) (hw2 _) hfz))
      have hil : i < σ'.length := by
        rw [J.len]
        exact (List.getElem?_eq_some_iff.mp hi).1
      refine wpAny_mono (suite.run [] s5 _ H' { nx := fun σ6 H6 => ∃ v, σ6 = ((σ'.set i (some (.ref a))).set j (some (.ref a))).set l (some v) ∧ (H6 a = none → D.nx ((((σ'.set i (some (.ref a))).set j (some (.ref a))).set l (some v)).set i none) (upd H6 a (ExV cls d a))), rt := fun _ _ => False } S5 ⟨.ref a, List.getElem?_set_self hil, hm2 _ _ _ _ (fun v H6 h6 => ⟨v, rfl, h6⟩) (hyes rfl a na)⟩) (fun f s6 hsp => ?_) (fun _ _ z => False.elim z)
      cases f with
      | next =>
        obtain ⟨σ6, H6, S6, v, rfl, hnx⟩ := hsp
        have na6 : H6 a = none := (S6.pin (a, o4) (List.mem_append_left _ List.mem_cons_self)).2.1
        have J6 : L2.Inv X ((a, o4) :: pins) _ H6 s6 := (S6.unsuite ok).pins_of fun p hp => by
          rcases List.mem_cons.mp hp with rfl | hp
          · obtain ⟨q1, q2, q3, q4, q5⟩ := S6.pin (a, o4) (List.mem_append_left _ List.mem_cons_self)
            exact ⟨q1, q2, q3, q4, q5⟩
          · obtain ⟨q1, q2, q3, q4, q5⟩ := S6.pin p (List.mem_append_left _ (List.mem_cons_of_mem _ (List.mem_append_right _ hp)))
            exact ⟨q1, q2, q3, q4, q5⟩
        refine gone_ok J6 hN hi hln fun s7 J7 => ?_
        exact ⟨_, _, inv_keep J7 hz4 hd4 n0 hex npin, hnx na6⟩
      | brk => obtain ⟨_, _, _, q⟩ := hsp; exact q.elim
      | cont => obtain ⟨_, _, _, q⟩ := hsp; exact q.elim
      | ret u => obtain ⟨_, _, _, _, _, q⟩ := hsp; exact q.elim
    | false =>
      show wpAny _ X.A (handleBy (.ref a) X.env []) _ _ _
      refine wpAny_handleBy_nil ?_
      obtain ⟨f1, f2, f3, oe, vs, T, oT, ts', he, hz, hdd, g1, hr⟩ := id fl3
      unfold PySem.passOn
      refine wpAny_bind (wpAny_field he hdd g1 ?_)
      rw [if_neg (show ¬ ((Value.ref T == Value.none) = true) by simp)]
      have fin : wpAny (model X.prog X.w) X.A (setFlight (.ref a) X.env.frame) (fun _ s4 => wpAny (model X.prog X.w) X.A (throw (.ref a) : Sem Flow) (SP X pins D) X.xe s4) X.xe { s' with heap := h3 } := by
        rw [hf]
        refine HandSPX.setFlight_upZ fl3 fun h4 hh4 up4 => wpAny_throw (tk _ _ ⟨a, B, sI, pins, σ', H', cls, d, rfl, J, nb, (up.trans up3).trans up4, .inr (.inr ?_), na, os, ag, hno rfl⟩)
        rw [hs]
        exact hh4
      first
        | exact wpAny_bind (wpAny_pure (wpAny_bind fin))
        | exact wpAny_bind fin
  refine wpAny_mono ((hb (wKeepG X.K c i j l t2 Wout D) (X.pn ++ pins) E1 tk1 PassesOwn.looking).run [] s σ H D (I.toTry _) h) (fun f s1 hsp => ?_) (fun _ _ he => he)
  cases f with
  | next =>
    obtain ⟨σ', H', J', q⟩ := hsp
    exact wpAny_execs_nil ⟨_, _, J'.ofTry ok, q⟩
  | brk =>
    obtain ⟨σ', H', J', q⟩ := hsp
    exact ⟨_, _, J'.ofTry ok, q⟩
  | cont =>
    obtain ⟨σ', H', J', q⟩ := hsp
    exact ⟨_, _, J'.ofTry ok, q⟩
  | ret u =>
    obtain ⟨v, σ', H', J', r, q⟩ := hsp
    exact ⟨_, _, _, J'.ofTry ok, r, q⟩
end
end Sd
namespace Sd
open PySem PySem.Spec PyProof.Rows L2
/-! ### from the text to the core -/
structure SC where
  N : List Str
  sc : Scope
  st : Str → Bool
  fns : List (Str × Nat)
  css : List (Str × Nat)
  cls : List (Str × Nat)
  rzs : List (Str × Nat) := []
def ixOf (x : Str) : List Str → Option Nat
  | [] => none
  | y :: r => if x = y then some 0 else (match ixOf x r with
    | some i => some (i + 1)
    | none => none)
theorem ixOf_get {x : Str} : ∀ {l : List Str} {i : Nat}, ixOf x l = some i → l[i]? = some x
  | [], _, h => by cases h
  | y :: r, i, h => by
    unfold ixOf at h
    split at h
    · rename_i e
      cases h
      simp [e]
    · split at h
      · rename_i j ej
        cases h
        simpa using ixOf_get ej
      · cases h
def plainN (x : Str) : Bool := !(x == ("__debug__" : Str)) && (!(x == ("__classdict__" : Str)) && !decide (x = "__name__"))
def isVis : Option NameKind → Bool
  | some .local => true
  | some .cell => true
  | some .free => true
  | _ => false
def isGlo : Option NameKind → Bool
  | some .globalImplicit => true
  | _ => false
def SC.look (c : SC) (x : Str) : Option NameKind := c.sc.names.lookup x
def SC.can (c : SC) (x : Str) : Bool := match c.look x with
  | some .local => true
  | some .cell => c.st x
  | _ => false
def biTab : List (Str × Nat × BI) := [("abs", 1, .abs), ("len", 1, .len), ("int", 1, .int), ("min", 1, .min1), ("max", 1, .max1), ("sum", 1, .sum), ("all", 1, .all), ("any", 1, .any), ("list", 1, .list), ("tuple", 1, .tuple), ("str", 1, .str), ("sorted", 1, .sorted), ("min", 2, .min2), ("max", 2, .max2)]
def biOf (x : Str) (n : Nat) : Option BI := match biTab.find? fun t => decide (t.1 = x) && t.2.1 == n with
  | some t => some t.2.2
  | none => none
theorem biTab_ok : ∀ t, t ∈ biTab → biX t.2.2 = t.1 := by decide +kernel
theorem biOf_x {x : Str} {n : Nat} {b : BI} (h : biOf x n = some b) : biX b = x := by
  unfold biOf at h
  split at h
  · rename_i t e
    cases h
    have h1 := List.find?_some e
    have h2 := biTab_ok t (List.mem_of_find?_eq_some e)
    simp only [Bool.and_eq_true, decide_eq_true_eq] at h1
    rw [h2, h1.1]
  · cases h
def btX (x : Str) : Option String := if x = "int" then some "int" else if x = "bool" then some "bool" else if x = "tuple" then some "tuple" else if x = "list" then some "list" else if x = "str" then some "str" else if x = "dict" then some "dict" else if x = "ValueError" then some "ValueError" else none
def cTy (c : SC) : Expr → Option TyN
  | .Name x _ => if plainN x && isGlo (c.look x) then (match c.cls.lookup x with
    | some k => some (.cl k)
    | none => (match btX x with
      | some n => some (.bt n)
      | none => none)) else none
  | _ => none
def cTys (c : SC) : List Expr → Option (List TyN)
  | [] => some []
  | e :: es => match cTy c e, cTys c es with
    | some t, some ts => some (t :: ts)
    | _, _ => none
def meOf (x : Str) (n : Nat) : Option ME :=
  if n = 1 then (if x = "append" then some .append else if x = "extend" then some .extend else none)
  else if n = 2 then (if x = "insert" then some .insert else none)
  else if n = 0 then (if x = "pop" then some .pop0 else if x = "reverse" then some .reverse else if x = "clear" then some .clear else none) else none
/-- the block of a comprehension -/
def SC.blk (c : SC) (scope : Scope) : SC := { c with sc := relS scope c.sc, st := fun x => scope.names.lookup x == some .cell }
/-- the own names of a comprehension, with their slots -/
def ownOf (c : SC) (scope : Scope) : Option (List (Str × Nat)) := go scope.names
where
  go : List (Str × NameKind) → Option (List (Str × Nat))
    | [] => some []
    | (x, .local) :: r => (match ixOf x c.N, go r with
      | some i, some l => some ((x, i) :: l)
      | _, o => o)
    | (x, .cell) :: r => (match ixOf x c.N, go r with
      | some i, some l => some ((x, i) :: l)
      | _, o => o)
    | _ :: r => go r
/-- shapes with nothing odd about them -/
def okSh : Expr → Bool
  | .Name .. | .Constant .. | .BinOp .. | .UnaryOp .. | .BoolOp .. | .IfExp .. | .Compare .. | .Tuple .. | .List .. | .Subscript .. | .Attribute .. | .ListComp .. => true
  | .Call (.Name x _) [] [] _ => x != ("super" : Str)
  | .Call (.Name _ _) [] _ _ => false
  | .Call .. => true
  | _ => false
def isFld (f : Str) : Bool := decide (f = "fault") || (decide (f = "at") || decide (f = "name"))
def isComp : Expr → Bool
  | .ListComp .. => true
  | _ => false
def isSlice : Expr → Bool
  | .Slice .. => true
  | _ => false
def isTup : Expr → Bool
  | .Tuple .. => true
  | _ => false
/-- a zip walks into a tuple of targets -/
def tgOk : I → Expr → Bool
  | .zip _ _, e => isTup e
  | _, _ => true
def chkT (tg : Expr) : Option I → Option I
  | some it => if tgOk it tg then some it else none
  | none => none
/-- steps of slices: written numbers -/
def stK : Expr → Option Int
  | .UnaryOp .USub (.Constant (.int i) _ _) _ => some (-i)
  | .Constant (.int i) _ _ => some i
  | _ => none
def loK : Option Expr → Option (Option Int)
  | none => some none
  | some (.Constant (.int i) _ _) => some (some i)
  | _ => none
/-- [lo::k] -/
def stOf : Expr → Option (Option Int × Int)
  | .Slice lo none (some k) _ => (match loK lo, stK k with
    | some l, some j => some (l, j)
    | _, _ => none)
  | _ => none
def o2 {α β γ : Type} (f : α → β → γ) : Option α → Option β → Option γ
  | some a, some b => some (f a b)
  | _, _ => none
def o3 {α β γ δ : Type} (f : α → β → γ → δ) : Option α → Option β → Option γ → Option δ
  | some a, some b, some c => some (f a b c)
  | _, _, _ => none
def o1 {α β : Type} (f : α → β) : Option α → Option β
  | some a => some (f a)
  | none => none
/-- a call by name: xs its arguments, hd the first one -/
def cCall (c : SC) (x : Str) (args : List Expr) (xs : Option (List X)) (hd : Option X) : Option X := if plainN x && isGlo (c.look x) then (match c.fns.lookup x with
    | some k => if args.isEmpty then (if x != ("super" : Str) then some (.fn k []) else none) else o1 (X.fn k) xs
    | none => if x = "isinstance" then (match args with
      | [_, t] => (match cTy c t with
        | some ty => o1 (fun y => X.isi y [ty]) hd
        | none => (match t with
          | .Tuple ts _ _ => (match cTys c ts with
            | some (t1 :: tr) => if ts.length ≤ 100 then o1 (fun y => X.isi y (t1 :: tr)) hd else none
            | _ => none)
          | _ => none))
      | _ => none) else (match biOf x args.length with
        | some b => if args.isEmpty then none else o1 (X.bi b) xs
        | none => none)) else none
def cSub (a : Option X) (s : Option (X × X)) (i : Option X) : Option X := match s with
  | some p => o1 (fun y => X.sl y p.1 p.2) a
  | none => o2 X.ix a i
mutual
def cE (c : SC) : Expr → Option X
  | .Name x _ => if plainN x then (if isVis (c.look x) then (match ixOf x c.N with
      | some i => some (.var i)
      | none => none) else if isGlo (c.look x) then (match c.css.lookup x with
      | some k => some (.g k)
      | none => none) else none) else none
  | .Constant v _ _ => (match v with
    | .int i => some (.c (.int i))
    | .bool b => some (.c (.bl b))
    | .none => some (.c .non)
    | .str x => some (.c (.str x))
    | _ => none)
  | .BinOp a o b _ => o2 (X.op o) (cE c a) (cE c b)
  | .UnaryOp .Not a _ => o1 X.no (cE c a)
  | .UnaryOp .USub a _ => o1 X.neg (cE c a)
  | .BoolOp o es _ => cB c o es
  | .IfExp t a b _ => o3 X.ite (cE c t) (cE c a) (cE c b)
  | .Compare a [o] [b] _ => o2 (X.cmp o) (cE c a) (cE c b)
  | .Compare a [o, o'] [b, d] _ => o3 (X.chain o o') (cE c a) (cE c b) (cE c d)
  | .Tuple es _ _ => o1 X.tp (cEs c es)
  | .List es _ => o1 X.ls (cEs c es)
  | .Subscript a i _ => (match stOf i with
    | some q => o1 (fun x => X.st x q.1 q.2) (cE c a)
    | none => cSub (cE c a) (cSl c i) (cE c i))
  | .Call (.Name x _) args [] _ => (match cSet c x args with
    | some r => some r
    | none => cCall c x args (cEs c args) (cHd c args))
  | .Call (.Attribute o m ap) args [] p => (match meOf m args.length with
    | some me => if ap.endLine == p.line then o2 (X.me me) (cE c o) (cEs c args) else none
    | none => none)
  | .Attribute o f _ => if isFld f then o1 (X.fld f) (cE c o) else none
  | .ListComp elt [⟨tg, iter, ifs, 0⟩] scope _ => (match ownOf c scope with
    | some own => if blkC c.N c.sc scope own then (match cE (c.blk scope) elt, cT (c.blk scope) (own.map (·.2)) tg, chkT tg (match cR c iter with
        | some it => some it
        | none => o1 I.e (cE c iter)), cIfs (c.blk scope) ifs with
      | some e, some t, some it, some cond => some (.lc e t it cond (own.map (·.2)))
      | _, _, _, _ => none) else none
    | none => none)
  | _ => none
/-- len(set(e)) -/
def cSet (c : SC) (x : Str) : List Expr → Option X
  | [] => none
  | e :: es => if es.isEmpty && decide (x = "len") then cSt c e else none
def cSt (c : SC) : Expr → Option X
  | .Call (.Name y _) args [] _ => if y = "set" then (if isGlo (c.look "len") && isGlo (c.look y) then (match args with
      | [a] => o1 X.sz (cE c a)
      | _ => none) else none) else none
  | _ => none
def cB (c : SC) (o : BoolOp) : List Expr → Option X
  | [] => none
  | [e] => cE c e
  | e :: e' :: es => (match o with
    | .And => o2 X.an (cE c e) (cB c o (e' :: es))
    | .Or => o2 X.ro (cE c e) (cB c o (e' :: es)))
def cEs (c : SC) : List Expr → Option (List X)
  | [] => some []
  | e :: es => o2 (fun x xs => x :: xs) (cE c e) (cEs c es)
def cSl (c : SC) : Expr → Option (X × X)
  | .Slice lo hi none _ => o2 Prod.mk (cO c lo) (cO c hi)
  | _ => none
def cHd (c : SC) : List Expr → Option X
  | [] => none
  | e :: _ => cE c e
def cO (c : SC) : Option Expr → Option X
  | none => some (.c .non)
  | some e => o1 X.aI (cE c e)
def cIfs (c : SC) : List Expr → Option X
  | [] => some (.c (.bl true))
  | [e] => cE c e
  | _ => none
/-- targets, all slots among sl -/
def cT (c : SC) (sl : List Nat) : Expr → Option T
  | .Name x _ => if c.can x then (match ixOf x c.N with
    | some i => if sl.contains i then some (.nm i) else none
    | none => none) else none
  | .Tuple ts _ _ => o1 T.tp (cTs c sl ts)
  | .Subscript o i _ => if isSlice i then none else o2 T.ix (cE c o) (cE c i)
  | _ => none
def cTs (c : SC) (sl : List Nat) : List Expr → Option (List T)
  | [] => some []
  | e :: es => o2 (fun x xs => x :: xs) (cT c sl e) (cTs c sl es)
/-- a range -/
def cR (c : SC) : Expr → Option I
  | .Call (.Name x _) args [] _ => if x = "range" then (if plainN x && (isGlo (c.look x) && (c.fns.lookup x).isNone) then (match args with
      | [b] => o1 I.rng1 (cE c b)
      | [a, b] => o2 I.rng2 (cE c a) (cE c b)
      | _ => none) else none) else if x = "zip" then (if plainN x && (isGlo (c.look x) && (c.fns.lookup x).isNone) then (match args with
      | [a, b] => o2 I.zip (cE c a) (cE c b)
      | _ => none) else none) else none
  | _ => none
end
def cI (c : SC) (tg e : Expr) : Option I := chkT tg (match cR c e with
  | some it => some it
  | none => o1 I.e (cE c e))
theorem chkT_some {tg : Expr} {o : Option I} {it : I} (h : chkT tg o = some it) : o = some it ∧ tgOk it tg = true := by
  cases o with
  | none => cases h
  | some i =>
    unfold chkT at h
    dsimp only at h
    split at h
    · rename_i hk
      cases h
      exact ⟨rfl, hk⟩
    · cases h
end Sd
namespace Sd
open PySem PySem.Spec PyProof.Rows L2
def bltAll : List Str := ["abs", "len", "int", "min", "max", "sum", "all", "any", "list", "tuple", "isinstance", "range", "bool", "str", "dict", "ValueError", "zip", "sorted", "enumerate", "set", "divmod", "reversed"]
/-- what the written part and the module's names say -/
structure Fx (Γ : Gam) (lev : Nat) (c : SC) (P : Program) (w : World) (K : PySem.W.Frag) (mg : Str → Option Value) (base : Heap) : Prop where
  fn : ∀ x k, c.fns.lookup x = some k → ∃ f fd ps, mg x = some (.ref f) ∧ PySem.W.keepIn K (.ref f) = true ∧ Binds K fd ps [] ∧ FnOk P w K mg base (L2.CX P w) lev f fd ps (spOf K (Γ.ar k) (Γ.fn k))
  cst : ∀ x k d, c.css.lookup x = some k → Γ.cst k = some d → ∃ v u, mg x = some u ∧ RelV v u ∧ ∀ H, Rp K H d v
  blt : ∀ x, x ∈ bltAll → mg x = none
  cls : ∀ x k, c.cls.lookup x = some k → clsN k = x ∧ Kn K k ∧ mg x = some (.ref (gaK K x))
  cfs : CFs K
structure XOk (Γ : Gam) (lev : Nat) (c : SC) (X : Cx) : Prop where
  N : X.N = c.N
  nd : c.N.Nodup
  sc : X.env.scope = c.sc
  fn : ∀ x, c.st x = true → X.fn x = true
  calm : X.calm = true
  room : Room lev X.A
  F : Fx Γ lev c X.prog X.w X.K X.mg X.base
section
variable {Γ : Gam} {lev : Nat} {c : SC} {X : Cx} {Wh : WX}
theorem Fx.blk {P : Program} {w : World} {K : PySem.W.Frag} {mg : Str → Option Value} {base : Heap} (h : Fx Γ lev c P w K mg base) (scope : Scope) : Fx Γ lev (c.blk scope) P w K mg base := ⟨h.fn, h.cst, h.blt, h.cls, h.cfs⟩
theorem XOk.units (h : XOk Γ lev c X) (hl : 2 ≤ lev) : X.A.units + 65 < cLine := by
  have := h.room.un
  omega
theorem XOk.gl (h : XOk Γ lev c X) {x : Str} (e : isGlo (c.look x) = true) : Gl X x := by
  unfold Gl Env.kindOf
  rw [h.sc]
  unfold SC.look at e
  cases q : c.sc.names.lookup x with
  | none => rw [q] at e; cases e
  | some k =>
    rw [q] at e
    cases k <;> first | rfl | cases e
theorem XOk.vis (h : XOk Γ lev c X) {x : Str} (e : isVis (c.look x) = true) : L2.Vis X.env.scope x := by
  unfold L2.Vis
  rw [h.sc]
  unfold SC.look at e
  cases q : c.sc.names.lookup x with
  | none => rw [q] at e; cases e
  | some k =>
    rw [q] at e
    cases k <;> first | exact .inl rfl | exact .inr (.inl rfl) | exact .inr (.inr rfl) | cases e
theorem XOk.can (h : XOk Γ lev c X) {x : Str} (e : c.can x = true) : L2.Loc X.env.scope x ∧ (X.fn x = true ∨ X.env.scope.names.lookup x = some .local) := by
  unfold L2.Loc
  rw [h.sc]
  unfold SC.can SC.look at e
  cases q : c.sc.names.lookup x with
  | none => rw [q] at e; cases e
  | some k =>
    rw [q] at e
    cases k with
    | «local» => exact ⟨.inl rfl, .inr rfl⟩
    | cell => exact ⟨.inr rfl, .inl (h.fn x e)⟩
    | _ => cases e
theorem plain_parts {x : Str} (h : plainN x = true) : (x == ("__debug__" : Str)) = false ∧ (x == ("__classdict__" : Str)) = false ∧ x ≠ "__name__" := by
  unfold plainN at h
  simp only [Bool.and_eq_true, Bool.not_eq_true', decide_eq_false_iff_not] at h
  exact ⟨h.1, h.2.1, h.2.2⟩
/-! ### shapes -/
theorem sh_star {e : Expr} (h : okSh e = true) (es : List Expr) (env : Env) : starEach (e :: es) env = (false, eval e env) :: starEach es env := by
  cases e <;> first | rfl | cases h
theorem attr_base0 {id attr : Str} {p pos : Pos} {env : Env} {whole : Sem Value} (h : (id != ("super" : Str)) = true) : attributeBase (.Call (.Name id p) [] [] pos) attr env whole = whole := by
  unfold attributeBase
  cases q : (id == ("super" : Str)) with
  | true =>
    unfold bne at h
    rw [q] at h
    cases h
  | false =>
    have q' : id ≠ ("super" : Str) := by simpa using q
    simp [q, q']
theorem sh_base {e : Expr} (h : okSh e = true) (n : Str) (env : Env) : attributeBase e n env (eval e env) = eval e env := by
  cases e <;> first
    | rfl
    | (cases h; done)
    | skip
  rename_i f args kw pos
  cases f <;> first
    | rfl
    | skip
  cases args with
  | nil =>
    cases kw with
    | nil =>
      have h' : (_ != ("super" : Str)) = true := h
      exact attr_base0 h'
    | cons => cases h
  | cons => rfl
theorem sh_fold {e : Expr} (h : okSh e = true) (env : Env) : ∀ x, foldedSetIterable e env x = pure x := by
  intro x
  cases e <;> first | rfl | cases h
theorem sh_in {e : Expr} (h : okSh e = true) (o : CmpOp) : behindInMarks o e = false := by
  cases e <;> first | rfl | cases h
theorem sh_ix {e : Expr} (h : okSh e = true) : PlainIx e := by
  intro o i
  cases e <;> first | rfl | cases h
theorem sh_sw {e : Expr} (h : okSh e = true) (hc : isComp e = false) (t : Option Expr) (l : Nat) (env : Env) : swapsWith e t l env = pure false := by
  cases e <;> first | rfl | (cases h; done) | (cases hc; done)
theorem any_back {pos : Pos} : ∀ {l : List (Bool × Sem Value)}, (∀ p, p ∈ l → p.1 = false) → (backTo pos l).any (·.1) = false
  | [], _ => rfl
  | p :: l, h => by
    have h1 := h p List.mem_cons_self
    have h2 := any_back (pos := pos) fun q hq => h q (List.mem_cons_of_mem _ hq)
    unfold backTo at h2 ⊢
    rw [List.map_cons, List.any_cons, h2]
    simp [h1]
theorem all_back {pos : Pos} : ∀ {l : List (Bool × Sem Value)}, (∀ p, p ∈ l → p.1 = false) → (backTo pos l).all (fun x => !x.1) = true
  | [], _ => rfl
  | p :: l, h => by
    have h1 := h p List.mem_cons_self
    have h2 := all_back (pos := pos) fun q hq => h q (List.mem_cons_of_mem _ hq)
    unfold backTo at h2 ⊢
    rw [List.map_cons, List.all_cons, h2]
    simp [h1]
theorem star_no {env : Env} : ∀ {es : List Expr}, es.all okSh = true → ∀ p, p ∈ starEach es env → p.1 = false
  | [], _, p, h => by cases h
  | e :: es, ho, p, h => by
    rw [List.all_cons, Bool.and_eq_true] at ho
    rw [sh_star ho.1] at h
    rcases List.mem_cons.mp h with rfl | h
    · rfl
    · exact star_no ho.2 p h
/-- what an expression's core is to be -/
structure EOk (Γ : Gam) (lev : Nat) (c : SC) (e : Expr) (x : Sd.X) : Prop where
  sh : okSh e = true
  pe : ∀ X Wh, XOk Γ lev c X → Takes X Wh → PE X e (LE X.K Wh (wE Γ x))
  pt : ∀ X Wh, XOk Γ lev c X → Takes X Wh → PT X e (LT X.K Wh (aTru (wE Γ x)))
/-- .. where its test is its value's truth -/
theorem EOk.plain {e : Expr} {x : Sd.X} (sh : okSh e = true) (he : ∀ env whole, isTrue e env whole = (do let v ← whole; standAt e.pos; holding [v] (truthy v))) (pe : ∀ X Wh, XOk Γ lev c X → Takes X Wh → PE X e (LE X.K Wh (wE Γ x))) : EOk Γ lev c e x :=
  ⟨sh, pe, fun X Wh ok tk => l_test (pe X Wh ok tk) (he X.env)⟩
theorem cTy_ok {e : Expr} {t : TyN} (h : cTy c e = some t) (ok : XOk Γ lev c X) : ClsE X e t := by
  cases e <;> (try (cases h; done))
  rename_i x pos
  simp only [cTy] at h
  split at h
  · rename_i hp
    rw [Bool.and_eq_true] at hp
    obtain ⟨p1, p2, p3⟩ := plain_parts hp.1
    have hg := ok.gl hp.2
    split at h
    · rename_i k ek
      cases h
      obtain ⟨z1, z2, z3⟩ := ok.F.cls x k ek
      subst z1
      exact ⟨.ref (gaK X.K (clsN k)), _, pe_glob hg z3 rfl p1, ⟨z2, rfl, rfl⟩, fun es => rfl⟩
    · split at h
      · rename_i n en
        cases h
        have key : x ∈ bltAll ∧ bootBuiltins x = some (.type n) ∧ n ∈ btNames := by
          unfold btX at en
          by_cases h1 : x = "int"
          · subst h1; cases en; exact ⟨by decide, by decide +kernel, by decide⟩
          rw [if_neg h1] at en
          by_cases h2 : x = "bool"
          · subst h2; cases en; exact ⟨by decide, by decide +kernel, by decide⟩
          rw [if_neg h2] at en
          by_cases h3 : x = "tuple"
          · subst h3; cases en; exact ⟨by decide, by decide +kernel, by decide⟩
          rw [if_neg h3] at en
          by_cases h4 : x = "list"
          · subst h4; cases en; exact ⟨by decide, by decide +kernel, by decide⟩
          rw [if_neg h4] at en
          by_cases h5 : x = "str"
          · subst h5; cases en; exact ⟨by decide, by decide +kernel, by decide⟩
          rw [if_neg h5] at en
          by_cases h6 : x = "dict"
          · subst h6; cases en; exact ⟨by decide, by decide +kernel, by decide⟩
          rw [if_neg h6] at en
          by_cases h7 : x = "ValueError"
          · subst h7; cases en; exact ⟨by decide, by decide +kernel, by decide⟩
          rw [if_neg h7] at en
          cases en
        exact ⟨.ty n, .type n, pe_bltn hg (ok.F.blt x key.1) key.2.1 rfl p3 p1, ⟨key.2.2, rfl, rfl⟩, fun es => rfl⟩
      · cases h
  · cases h
theorem cTys_ok : ∀ {es : List Expr} {ts : List TyN}, cTys c es = some ts → XOk Γ lev c X → ∃ cs us, ClsEs X es ts cs us
  | [], _, h, _ => by
    cases h
    exact ⟨[], [], .nil⟩
  | e :: es, ts, h, ok => by
    simp only [cTys] at h
    split at h
    · rename_i t tr e1 e2
      cases h
      obtain ⟨cv, u, h1, h2, h3⟩ := cTy_ok e1 ok
      obtain ⟨cs, us, h4⟩ := cTys_ok e2 ok
      exact ⟨cv :: cs, u :: us, .cons h1 h2 (h3 es) h4⟩
    · cases h
theorem o1_some {α β : Type} {f : α → β} {o : Option α} {y : β} (h : o1 f o = some y) : ∃ a, o = some a ∧ y = f a := by
  cases o with
  | none => cases h
  | some a => exact ⟨a, rfl, (Option.some.inj h).symm⟩
theorem o2_some {α β γ : Type} {f : α → β → γ} {o : Option α} {p : Option β} {y : γ} (h : o2 f o p = some y) : ∃ a b, o = some a ∧ p = some b ∧ y = f a b := by
  cases o with
  | none => cases h
  | some a =>
    cases p with
    | none => cases h
    | some b => exact ⟨a, b, rfl, rfl, (Option.some.inj h).symm⟩
theorem o3_some {α β γ δ : Type} {f : α → β → γ → δ} {o : Option α} {p : Option β} {q : Option γ} {y : δ} (h : o3 f o p q = some y) : ∃ a b d, o = some a ∧ p = some b ∧ q = some d ∧ y = f a b d := by
  cases o with
  | none => cases h
  | some a =>
    cases p with
    | none => cases h
    | some b =>
      cases q with
      | none => cases h
      | some d => exact ⟨a, b, d, rfl, rfl, rfl, (Option.some.inj h).symm⟩
/-- the methods -/
theorem me_ok {x : Str} {n : Nat} {m : ME} (h : meOf x n = some m) : ∃ r, Slot "list" x (meId m) ∧ typeOf (.builtin (meId m)) = pure (.type "method_descriptor") ∧ MtR X (meId m) r ∧ MeAbs X.K r (meS m) := by
  unfold meOf at h
  split at h
  · by_cases h1 : x = "append"
    · rw [if_pos h1] at h; cases h; subst h1
      exact ⟨_, PySem.F.slot_list_append, PySem.F.type_list_append, mt_append, me_append⟩
    · rw [if_neg h1] at h
      by_cases h2 : x = "extend"
      · rw [if_pos h2] at h; cases h; subst h2
        exact ⟨_, PySem.F.slot_list_extend, PySem.F.type_list_extend, mt_extend, me_extend⟩
      · rw [if_neg h2] at h; cases h
  · split at h
    · by_cases h1 : x = "insert"
      · rw [if_pos h1] at h; cases h; subst h1
        exact ⟨rInsert, PySem.F.slot_list_insert, PySem.F.type_list_insert, mt_insert, me_insert⟩
      · rw [if_neg h1] at h; cases h
    split at h
    · by_cases h1 : x = "pop"
      · rw [if_pos h1] at h; cases h; subst h1
        exact ⟨_, PySem.F.slot_list_pop, PySem.F.type_list_pop, mt_pop, me_pop0⟩
      rw [if_neg h1] at h
      by_cases h2 : x = "reverse"
      · rw [if_pos h2] at h; cases h; subst h2
        exact ⟨_, PySem.F.slot_list_reverse, PySem.F.type_list_reverse, mt_reverse, me_reverse⟩
      rw [if_neg h2] at h
      by_cases h3 : x = "clear"
      · rw [if_pos h3] at h; cases h; subst h3
        exact ⟨_, PySem.F.slot_list_clear, PySem.F.type_list_clear, mt_clear, me_clear⟩
      rw [if_neg h3] at h
      cases h
    · cases h
end
end Sd
namespace Sd
open PySem PySem.Spec PyProof.Rows L2
section
variable {Γ : Gam} {lev : Nat} {X : Cx} {Wh : WX}
theorem takes_blk {X : Cx} {s : Shared} {H : Hp} {scope : Scope} {cenv : Env} {fp : List Addr} : Takes (X.blk s H scope cenv fp) (fun _ _ _ _ => False) := fun _ _ x => by
  obtain ⟨_, _, _, _, _, _, _, _, _, _, _, _, _, _, _, _, z⟩ := x
  exact z.elim
theorem XOk.blk {c : SC} (ok : XOk Γ lev c X) (scope : Scope) (s : Shared) (H : Hp) (C : Addr) (cl : List (Str × Addr)) (fp : List Addr) : XOk Γ lev (c.blk scope) (X.blk s H scope (compEnvC scope cl C X.env) fp) where
  N := ok.N
  nd := ok.nd
  sc := by
    show relabel scope X.env = relS scope c.sc
    rw [← ok.sc]
    rfl
  fn := fun x h => h
  calm := ok.calm
  room := ok.room
  F := ok.F.blk scope
def BOk (Γ : Gam) (lev : Nat) (c : SC) (o : BoolOp) (es : List Expr) (x : Sd.X) : Prop := ∀ X Wh pos, XOk Γ lev c X → Takes X Wh → PE X (.BoolOp o es pos) (LE X.K Wh (wE Γ x)) ∧ PW X (.BoolOp o es pos) (LT X.K Wh (aTru (wE Γ x)))
def AOk (Γ : Gam) (lev : Nat) (c : SC) (es : List Expr) (xs : List Sd.X) : Prop := es.all okSh = true ∧ ∀ X Wh, XOk Γ lev c X → Takes X Wh → PA X es (LA X.K Wh (wEs Γ xs))
def OOk (Γ : Gam) (lev : Nat) (c : SC) (o : Option Expr) (x : Sd.X) : Prop := ∀ X Wh, XOk Γ lev c X → Takes X Wh → PO X o (LO X.K Wh (wE Γ x))
def IfOk (Γ : Gam) (lev : Nat) (c : SC) (es : List Expr) (x : Sd.X) : Prop := ∀ X Wh, XOk Γ lev c X → Takes X Wh → PTs X es (LT X.K Wh (aTru (wE Γ x)))
def TOk (Γ : Gam) (lev : Nat) (c : SC) (sl : List Nat) (e : Expr) (t : T) : Prop := (∀ es env, (assignEach (e :: es) env) = (false, assign e env) :: assignEach es env) ∧ ∀ X Wh, XOk Γ lev c X → Takes X Wh → PG X e (LG X.K Wh sl (wT Γ t))
def TsOk (Γ : Gam) (lev : Nat) (c : SC) (sl : List Nat) (es : List Expr) (ts : List T) : Prop := (∀ env, (assignEach es env).length = ts.length ∧ (assignEach es env).findIdx? (·.1) = none) ∧ ∀ X Wh, XOk Γ lev c X → Takes X Wh → PGs X es (LGs X.K Wh sl (wTs Γ ts))
def IOk (Γ : Gam) (lev : Nat) (c : SC) (e : Expr) (it : I) : Prop := okSh e = true ∧ ∀ X Wh tg, tgOk it tg = true → XOk Γ lev c X → Takes X Wh → PI X tg e (LI X.K Wh (wI Γ it))
theorem i_of {c : SC} {e : Expr} {x : Sd.X} (h : EOk Γ lev c e x) : IOk Γ lev c e (.e x) := ⟨h.sh, fun X Wh tg _ ok tk => i_seq (h.pe X Wh ok tk)⟩
theorem lo_non {X : Cx} {A : AE} {o : Option Expr} (h : PO X o (LO X.K Wh A)) : PO X o (LO X.K Wh A) := h
theorem ifs_nil {c : SC} : IfOk Γ lev c [] (.c (.bl true)) := fun X Wh ok tk => by
  have h := pts_nil (X := X)
  refine ⟨fun pins s σ H Q I hw => h.run pins s σ H Q I ?_⟩
  obtain ⟨ρ, S, W, P, se, wl, pl, hw⟩ := hw
  exact pl true S hw H (Kp.refl H) se.sto
theorem ifs_one {c : SC} {e : Expr} {x : Sd.X} (h : EOk Γ lev c e x) : IfOk Γ lev c [e] x := fun X Wh ok tk => pts_one (h.pt X Wh ok tk)
theorem e_lc {c : SC} {elt tg iter : Expr} {ifs : List Expr} {scope : Scope} {pos : Pos} {own : List (Str × Nat)} {e cond : Sd.X} {t : T} {it : I} (hb : blkC c.N c.sc scope own = true) (he : EOk Γ lev (c.blk scope) elt e) (ht : TOk Γ lev (c.blk scope) (own.map (·.2)) tg t) (hi : IOk Γ lev c iter it) (hk : tgOk it tg = true) (hf : IfOk Γ lev (c.blk scope) ifs cond) :
    EOk Γ lev c (.ListComp elt [⟨tg, iter, ifs, 0⟩] scope pos) (.lc e t it cond (own.map (·.2))) :=
  EOk.plain rfl (fun _ _ => rfl) fun X Wh ok tk => by
    have bo : BlkOk X.N X.env.scope scope own := by
      rw [ok.N, ok.sc]
      exact blkOk_by hb
    exact l_lc ok.calm (by rw [ok.N]; exact ok.nd) (hi.2 X Wh tg hk ok tk) bo (fun s H C cl fp => ht.2 _ _ (ok.blk scope s H C cl fp) takes_blk) (fun s H C cl fp => hf _ _ (ok.blk scope s H C cl fp) takes_blk) (fun s H C cl fp => he.pe _ _ (ok.blk scope s H C cl fp) takes_blk) (sh_fold hi.1 X.env)
theorem e_bool {c : SC} {o : BoolOp} {es : List Expr} {x : Sd.X} {pos : Pos} (h : BOk Γ lev c o es x) : EOk Γ lev c (.BoolOp o es pos) x := ⟨rfl, fun X Wh ok tk => (h X Wh pos ok tk).1, fun X Wh ok tk => (h X Wh pos ok tk).2.pt⟩
theorem b_one {c : SC} {o : BoolOp} {e : Expr} {x : Sd.X} (h : EOk Γ lev c e x) : BOk Γ lev c o [e] x := fun X Wh pos ok tk => ⟨pe_one (h.pe X Wh ok tk), by
  cases o with
  | And => exact pw_and1 (h.pt X Wh ok tk)
  | Or => exact pw_or1 (h.pt X Wh ok tk)⟩
theorem b_an {c : SC} {e e' : Expr} {es : List Expr} {x y : Sd.X} (h : EOk Γ lev c e x) (hr : BOk Γ lev c .And (e' :: es) y) : BOk Γ lev c .And (e :: e' :: es) (.an x y) := fun X Wh pos ok tk =>
  ⟨l_an (h.pe X Wh ok tk) (hr X Wh pos ok tk).1, l_anT (h.pt X Wh ok tk) (hr X Wh pos ok tk).2⟩
theorem b_ro {c : SC} {e e' : Expr} {es : List Expr} {x y : Sd.X} (h : EOk Γ lev c e x) (hr : BOk Γ lev c .Or (e' :: es) y) : BOk Γ lev c .Or (e :: e' :: es) (.ro x y) := fun X Wh pos ok tk =>
  ⟨l_ro (h.pe X Wh ok tk) (hr X Wh pos ok tk).1, l_roT (h.pt X Wh ok tk) (hr X Wh pos ok tk).2⟩
theorem a_cons {c : SC} {e : Expr} {es : List Expr} {x : Sd.X} {xs : List Sd.X} (h : EOk Γ lev c e x) (hr : AOk Γ lev c es xs) : AOk Γ lev c (e :: es) (x :: xs) :=
  ⟨by rw [List.all_cons, h.sh, hr.1]; rfl, fun X Wh ok tk => l_cons (h.pe X Wh ok tk) (hr.2 X Wh ok tk) (sh_star h.sh es X.env)⟩
theorem t_name {c : SC} {x : Str} {pos : Pos} {i : Nat} {sl : List Nat} (h1 : c.can x = true) (h2 : ixOf x c.N = some i) (h3 : sl.contains i = true) : TOk Γ lev c sl (.Name x pos) (.nm i) :=
  ⟨fun _ _ => rfl, fun X Wh ok tk => g_nm (by rw [ok.N]; exact ok.nd) (by rw [ok.N]; exact ixOf_get h2) (ok.can h1).1 (ok.can h1).2 (by simpa using h3)⟩
theorem t_tp {c : SC} {es : List Expr} {ts : List T} {sl : List Nat} {k : Nat} {pos : Pos} (h : TsOk Γ lev c sl es ts) : TOk Γ lev c sl (.Tuple es k pos) (.tp ts) :=
  ⟨fun _ _ => rfl, fun X Wh ok tk => g_tp ok.calm (h.2 X Wh ok tk) (h.1 X.env).1 (h.1 X.env).2⟩
theorem t_ix {c : SC} {a b : Expr} {x y : Sd.X} {sl : List Nat} {pos : Pos} (hs : isSlice b = false) (ha : EOk Γ lev c a x) (hb : EOk Γ lev c b y) : TOk Γ lev c sl (.Subscript a b pos) (.ix x y) :=
  ⟨fun _ _ => rfl, fun X Wh ok tk => g_ix (ha.pe X Wh ok tk) (hb.pe X Wh ok tk) (by
    intro v
    cases b <;> first | rfl | (cases hs; done))⟩
theorem ts_nil {c : SC} {sl : List Nat} : TsOk Γ lev c sl [] [] := ⟨fun _ => ⟨rfl, rfl⟩, fun X Wh ok tk => gs_nil⟩
theorem ts_cons {c : SC} {sl : List Nat} {e : Expr} {es : List Expr} {t : T} {ts : List T} (h : TOk Γ lev c sl e t) (hr : TsOk Γ lev c sl es ts) : TsOk Γ lev c sl (e :: es) (t :: ts) := by
  refine ⟨fun env => ?_, fun X Wh ok tk => gs_cons (h.2 X Wh ok tk) (hr.2 X Wh ok tk) (by rw [h.1 es X.env]; rfl)⟩
  obtain ⟨h1, h2⟩ := hr.1 env
  rw [h.1 es env]
  refine ⟨by simp [h1], ?_⟩
  rw [List.findIdx?_cons, h2]
  rfl
end
end Sd
namespace Sd
open PySem PySem.Spec PyProof.Rows L2
section
variable {Γ : Gam} {lev : Nat} (hlev : 2 ≤ lev)
include hlev
omit hlev in
theorem call_ok {c : SC} {n : Str} {np p : Pos} {args : List Expr} {x : Sd.X} (hA : ∀ xs, cEs c args = some xs → AOk Γ lev c args xs) (hH : ∀ x, cHd c args = some x → ∃ e es, args = e :: es ∧ EOk Γ lev c e x) (h : cCall c n args (cEs c args) (cHd c args) = some x) :
    EOk Γ lev c (.Call (.Name n np) args [] p) x := by
  unfold cCall at h
  split at h
  · rename_i hp
    rw [Bool.and_eq_true] at hp
    obtain ⟨p1, p2, p3⟩ := plain_parts hp.1
    split at h
    · rename_i k ek
      cases args with
      | nil =>
        have h' : (if (n != ("super" : Str)) = true then some (X.fn k []) else none) = some x := h
        clear h
        have h := h'
        split at h
        · rename_i hsu
          cases h
          refine EOk.plain hsu (fun _ _ => rfl) fun X Wh ok tk => ?_
          obtain ⟨f, fd, ps, f1, f2, f3, f4⟩ := ok.F.fn n k ek
          exact l_fn0 tk f4 ok.room (ok.gl hp.2) f1 f2 f3 p1
        · cases h
      | cons e es =>
        rw [if_neg (by simp)] at h
        obtain ⟨xs, h1, rfl⟩ := o1_some h
        have ha := hA xs h1
        have h3 := ha.1
        rw [List.all_cons, Bool.and_eq_true] at h3
        refine EOk.plain rfl (fun _ _ => rfl) fun X Wh ok tk => ?_
        obtain ⟨f, fd, ps, f1, f2, f3, f4⟩ := ok.F.fn n k ek
        exact l_fn tk f4 ok.room (ok.gl hp.2) f1 f2 f3 (ha.2 X Wh ok tk) p1 (sh_star h3.1 es X.env) (any_back (star_no h3.2))
    · split at h
      · rename_i hn
        subst hn
        split at h
        · rename_i a t
          split at h
          · rename_i ty ety
            obtain ⟨xa, h1, rfl⟩ := o1_some h
            obtain ⟨e, es, he, ha⟩ := hH xa h1
            cases he
            exact EOk.plain rfl (fun _ _ => rfl) fun X Wh ok tk => l_isi1 ok.F.cfs (ok.gl hp.2) (ok.F.blt _ (by decide)) (ha.pe X Wh ok tk) (cTy_ok ety ok) (sh_star ha.sh _ X.env)
          · split at h
            · rename_i ts tk1 tp _
              split at h
              · rename_i t1 tr ets
                split at h
                · rename_i hz
                  obtain ⟨xa, h1, rfl⟩ := o1_some h
                  obtain ⟨e, es, he, ha⟩ := hH xa h1
                  cases he
                  refine EOk.plain rfl (fun _ _ => rfl) fun X Wh ok tk => ?_
                  obtain ⟨cs, us, hcs⟩ := cTys_ok ets ok
                  exact l_isiT ok.F.cfs (ok.gl hp.2) (ok.F.blt _ (by decide)) (ha.pe X Wh ok tk) hcs hz (sh_star ha.sh _ X.env)
                · cases h
              · cases h
            · cases h
        · cases h
      · split at h
        · rename_i b eb
          have hx := biOf_x eb
          cases args with
          | nil => simp at h
          | cons e es =>
            rw [if_neg (by simp)] at h
            obtain ⟨xs, h1, rfl⟩ := o1_some h
            have ha := hA xs h1
            have h3 := ha.1
            rw [List.all_cons, Bool.and_eq_true] at h3
            subst hx
            refine EOk.plain rfl (fun _ _ => rfl) fun X Wh ok tk => ?_
            exact l_bi ok.calm (ok.gl hp.2) (ok.F.blt _ (by cases b <;> decide)) (ha.2 X Wh ok tk) (sh_star h3.1 es X.env) (any_back (star_no h3.2))
        · cases h
  · cases h
omit hlev in
theorem sub_ok {c : SC} {a i : Expr} {p : Pos} {x : Sd.X} (hA : ∀ x, cE c a = some x → EOk Γ lev c a x) (hI : ∀ x, cE c i = some x → EOk Γ lev c i x) (hS : ∀ p, cSl c i = some p → ∃ lo hi q, i = .Slice lo hi none q ∧ OOk Γ lev c lo p.1 ∧ OOk Γ lev c hi p.2)
    (h : cSub (cE c a) (cSl c i) (cE c i) = some x) : EOk Γ lev c (.Subscript a i p) x := by
  unfold cSub at h
  split at h
  · rename_i sp es
    obtain ⟨xa, h1, rfl⟩ := o1_some h
    have ha := hA xa h1
    obtain ⟨lo, hi, q, rfl, hl, hh⟩ := hS sp es
    exact EOk.plain rfl (fun _ _ => rfl) fun X Wh ok tk => l_sl (ha.pe X Wh ok tk) (hl X Wh ok tk) (hh X Wh ok tk)
  · obtain ⟨xa, xi, h1, h2, rfl⟩ := o2_some h
    have ha := hA xa h1
    have hi := hI xi h2
    exact EOk.plain rfl (fun _ _ => rfl) fun X Wh ok tk => l_ix (ha.pe X Wh ok tk) (hi.pe X Wh ok tk) (sh_ix hi.sh)
mutual
theorem cE_ok : ∀ (e : Expr) (c : SC) (x : Sd.X), cE c e = some x → EOk Γ lev c e x
  | .Name n p, c, x, h => by
    simp only [cE] at h
    split at h
    · rename_i hp
      obtain ⟨p1, p2, p3⟩ := plain_parts hp
      split at h
      · rename_i hv
        split at h
        · rename_i i ei
          cases h
          exact EOk.plain rfl (fun _ _ => rfl) fun X Wh ok tk => l_var (by rw [ok.N]; exact ixOf_get ei) (ok.vis hv) p1 p2
        · cases h
      · split at h
        · rename_i hg
          split at h
          · rename_i k ek
            cases h
            refine EOk.plain rfl (fun _ _ => rfl) fun X Wh ok tk => ?_
            cases q : Γ.cst k with
            | none =>
              refine ⟨fun pins s σ H Q I hw => ?_⟩
              obtain ⟨ρ, S, W, P, se, wl, pl, hw⟩ := hw
              simp only [wE, q] at hw
            | some d =>
              obtain ⟨v, u, h1, h2, h3⟩ := ok.F.cst n k d ek q
              refine PE.imp (pe_glob (ok.gl hg) h1 h2 p1) fun σ H Q ⟨ρ, S, W, P, se, wl, pl, hw⟩ => ?_
              simp only [wE, q] at hw
              exact pl.now hw se.sto (h3 H)
          · cases h
        · cases h
    · cases h
  | .Constant v k p, c, x, h => by
    simp only [cE] at h
    cases v <;> (try (cases h; done))
    · cases h; exact EOk.plain rfl (fun _ _ => rfl) fun X Wh ok tk => l_c pe_non fun H => rfl
    · cases h; exact EOk.plain rfl (fun _ _ => rfl) fun X Wh ok tk => l_c pe_bl fun H => rfl
    · cases h; exact EOk.plain rfl (fun _ _ => rfl) fun X Wh ok tk => l_c pe_int fun H => rfl
    · cases h; exact EOk.plain rfl (fun _ _ => rfl) fun X Wh ok tk => l_c pe_str fun H => rfl
  | .BinOp a o b p, c, x, h => by
    simp only [cE] at h
    obtain ⟨xa, xb, h1, h2, rfl⟩ := o2_some h
    have ha := cE_ok a c xa h1
    have hb := cE_ok b c xb h2
    exact EOk.plain rfl (fun _ _ => rfl) fun X Wh ok tk => l_op (ha.pe X Wh ok tk) (hb.pe X Wh ok tk)
  | .UnaryOp o a p, c, x, h => by
    cases o <;> simp only [cE] at h <;> (try (cases h; done))
    · obtain ⟨xa, h1, rfl⟩ := o1_some h
      have ha := cE_ok a c xa h1
      exact ⟨rfl, fun X Wh ok tk => l_no (ha.pe X Wh ok tk), fun X Wh ok tk => l_noT (ha.pt X Wh ok tk)⟩
    · obtain ⟨xa, h1, rfl⟩ := o1_some h
      have ha := cE_ok a c xa h1
      exact EOk.plain rfl (fun _ _ => rfl) fun X Wh ok tk => l_neg (ha.pe X Wh ok tk)
  | .BoolOp o es p, c, x, h => by
    simp only [cE] at h
    exact e_bool (cB_ok es c o x h)
  | .IfExp t a b p, c, x, h => by
    simp only [cE] at h
    obtain ⟨xt, xa, xb, h1, h2, h3, rfl⟩ := o3_some h
    have ht := cE_ok t c xt h1
    have ha := cE_ok a c xa h2
    have hb := cE_ok b c xb h3
    refine ⟨rfl, fun X Wh ok tk => l_ite (ht.pt X Wh ok tk) (ha.pe X Wh ok tk) (hb.pe X Wh ok tk), fun X Wh ok tk => ?_⟩
    exact l_iteT (ht.pt X Wh ok tk) (ha.pt X Wh ok tk) (hb.pt X Wh ok tk)
  | .Compare a ops bs p, c, x, h => by
    match ops, bs, h with
    | [o], [b], h =>
      simp only [cE] at h
      obtain ⟨xa, xb, h1, h2, rfl⟩ := o2_some h
      have ha := cE_ok a c xa h1
      have hb := cE_ok b c xb h2
      exact ⟨rfl, fun X Wh ok tk => l_cmp (ok.units hlev) (ha.pe X Wh ok tk) (hb.pe X Wh ok tk) (sh_in hb.sh o), fun X Wh ok tk => l_cmpT (ok.units hlev) (ha.pe X Wh ok tk) (hb.pe X Wh ok tk) (sh_in hb.sh o)⟩
    | [o, o'], [b, d], h =>
      simp only [cE] at h
      obtain ⟨xa, xb, xd, h1, h2, h3, rfl⟩ := o3_some h
      have ha := cE_ok a c xa h1
      have hb := cE_ok b c xb h2
      have hd := cE_ok d c xd h3
      exact ⟨rfl, fun X Wh ok tk => l_chain (ok.units hlev) (ha.pe X Wh ok tk) (hb.pe X Wh ok tk) (hd.pe X Wh ok tk) (sh_in hb.sh o) (sh_in hd.sh o'), fun X Wh ok tk => l_chainT (ok.units hlev) (ha.pe X Wh ok tk) (hb.pe X Wh ok tk) (hd.pe X Wh ok tk) (sh_in hb.sh o) (sh_in hd.sh o')⟩
  | .Tuple es k p, c, x, h => by
    simp only [cE] at h
    obtain ⟨xs, h1, rfl⟩ := o1_some h
    have ha := cEs_ok es c xs h1
    exact EOk.plain rfl (fun _ _ => rfl) fun X Wh ok tk => l_tp (ha.2 X Wh ok tk)
  | .List es p, c, x, h => by
    simp only [cE] at h
    obtain ⟨xs, h1, rfl⟩ := o1_some h
    have ha := cEs_ok es c xs h1
    exact EOk.plain rfl (fun _ _ => rfl) fun X Wh ok tk => l_ls (ha.2 X Wh ok tk)
  | .Subscript a i p, c, x, h => by
    simp only [cE] at h
    have hA : ∀ x, cE c a = some x → EOk Γ lev c a x := fun x hx => cE_ok a c x hx
    have hI : ∀ x, cE c i = some x → EOk Γ lev c i x := fun x hx => cE_ok i c x hx
    have hS : ∀ p, cSl c i = some p → ∃ lo hi q, i = .Slice lo hi none q ∧ OOk Γ lev c lo p.1 ∧ OOk Γ lev c hi p.2 := fun p hx => cSl_ok i c p hx
    cases hr : stOf i with
    | some q =>
      rw [hr] at h
      obtain ⟨xa, h1, rfl⟩ := o1_some h
      have ha := hA xa h1
      unfold stOf at hr
      split at hr
      · rename_i lo k p3
        split at hr
        · rename_i l j e1 e2
          cases hr
          refine EOk.plain rfl (fun _ _ => rfl) fun X Wh ok tk => l_st (ha.pe X Wh ok tk) ?_ ?_
          · unfold loK at e1
            split at e1
            · cases e1; exact po_pt_none
            · cases e1; exact po_pt_int
            · cases e1
          · unfold stK at e2
            split at e2
            · cases e2; exact po_pt_neg
            · cases e2; exact po_pt_int
            · cases e2
        · cases hr
      · cases hr
    | none =>
    rw [hr] at h
    exact sub_ok hA hI hS h
  | .Call f args kw p, c, x, h => by
    cases kw with
    | cons k1 k2 => cases f <;> simp [cE] at h
    | nil =>
      cases f <;> (try (simp [cE] at h; done))
      · -- a method
        rename_i o m ap
        simp only [cE] at h
        split at h
        · rename_i me hm
          split at h
          · rename_i hl
            obtain ⟨xo, xs, h1, h2, rfl⟩ := o2_some h
            have ho := cE_ok o c xo h1
            have ha := cEs_ok args c xs h2
            refine EOk.plain rfl (fun _ _ => rfl) fun X Wh ok tk => ?_
            obtain ⟨r, r1, r2, r3, r4⟩ := me_ok (X := X) hm
            cases args with
            | nil =>
              have e : xs = [] := by
                simp only [cEs] at h2
                exact (Option.some.inj h2).symm
              subst e
              exact l_me0 r1 r2 r3 r4 (ho.pe X Wh ok tk) (sh_base ho.sh m X.env) hl
            | cons e es =>
              have hall := star_no (env := X.env) ha.1
              have h3 := ha.1
              rw [List.all_cons, Bool.and_eq_true] at h3
              have hz : (e :: es).length < 20 := by
                unfold meOf at hm
                split at hm
                · rename_i q; rw [q]; decide
                · split at hm
                  · rename_i q; rw [q]; decide
                  · split at hm
                    · rename_i q; rw [q]; decide
                    · cases hm
              exact l_me r1 r2 r3 r4 (ho.pe X Wh ok tk) (ha.2 X Wh ok tk) (sh_base ho.sh m X.env) (sh_star h3.1 es X.env) (any_back (star_no h3.2)) hz hl (all_back hall)
          · cases h
        · cases h
      · -- a name
        rename_i n np
        simp only [cE] at h
        split at h
        · rename_i r er
          cases h
          exact cSet_ok args c n x np p er
        have hA : ∀ xs, cEs c args = some xs → AOk Γ lev c args xs := fun xs hx => cEs_ok args c xs hx
        have hH : ∀ x, cHd c args = some x → ∃ e es, args = e :: es ∧ EOk Γ lev c e x := fun x hx => cHd_ok args c x hx
        exact call_ok hA hH h
  | .ListComp elt gens scope p, c, x, h => by
    match gens, h with
    | [⟨tg, iter, ifs, 0⟩], h =>
      simp only [cE] at h
      split at h
      · rename_i own eo
        split at h
        · rename_i hb
          split at h
          · rename_i e t it cond e1 e2 e3 e4
            cases h
            have he := cE_ok elt (c.blk scope) e e1
            have ht := cT_ok tg (c.blk scope) (own.map (·.2)) t e2
            have hf : IfOk Γ lev (c.blk scope) ifs cond := cIfs_ok ifs (c.blk scope) cond e4
            obtain ⟨e3, hk⟩ := chkT_some e3
            have hi : IOk Γ lev c iter it := by
              split at e3
              · rename_i it2 er
                cases e3
                exact cR_ok iter c it er
              · obtain ⟨xi, h1, rfl⟩ := o1_some e3
                exact i_of (cE_ok iter c xi h1)
            exact e_lc hb he ht hi hk hf
          · cases h
        · cases h
      · cases h
  | .NamedExpr .., c, x, h => by simp [cE] at h
  | .Lambda .., c, x, h => by simp [cE] at h
  | .Dict .., c, x, h => by simp [cE] at h
  | .Set .., c, x, h => by simp [cE] at h
  | .SetComp .., c, x, h => by simp [cE] at h
  | .DictComp .., c, x, h => by simp [cE] at h
  | .GeneratorExp .., c, x, h => by simp [cE] at h
  | .Await .., c, x, h => by simp [cE] at h
  | .Yield .., c, x, h => by simp [cE] at h
  | .YieldFrom .., c, x, h => by simp [cE] at h
  | .FormattedValue .., c, x, h => by simp [cE] at h
  | .JoinedStr .., c, x, h => by simp [cE] at h
  | .Attribute o f p, c, x, h => by
    simp only [cE] at h
    split at h
    · obtain ⟨xo, h1, rfl⟩ := o1_some h
      have ho := cE_ok o c xo h1
      exact EOk.plain rfl (fun _ _ => rfl) fun X Wh ok tk => l_fld ok.F.cfs (ho.pe X Wh ok tk) (sh_base ho.sh f X.env)
    · cases h
  | .Starred .., c, x, h => by simp [cE] at h
  | .Slice .., c, x, h => by simp [cE] at h
theorem cSet_ok : ∀ (es : List Expr) (c : SC) (n : Str) (x : Sd.X) (np p : Pos), cSet c n es = some x → EOk Γ lev c (.Call (.Name n np) es [] p) x
  | [], c, n, x, np, p, h => by simp [cSet] at h
  | e :: es, c, n, x, np, p, h => by
    simp only [cSet] at h
    split at h
    · rename_i hp
      simp only [Bool.and_eq_true, decide_eq_true_eq, List.isEmpty_iff] at hp
      obtain ⟨rfl, rfl⟩ := hp
      exact cSt_ok e c x np p h
    · cases h
theorem cSt_ok : ∀ (e : Expr) (c : SC) (x : Sd.X) (np p : Pos), cSt c e = some x → EOk Γ lev c (.Call (.Name "len" np) [e] [] p) x
  | .Call f args kw q, c, x, np, p, h => by
    cases kw with
    | cons k1 k2 => cases f <;> simp [cSt] at h
    | nil =>
      cases f <;> (try (simp [cSt] at h; done))
      rename_i n yp
      rw [cSt.eq_def] at h
      dsimp only at h
      split at h
      · rename_i hn
        subst hn
        split at h
        · rename_i hp
          rw [Bool.and_eq_true] at hp
          split at h
          · rename_i a
            obtain ⟨xa, h1, rfl⟩ := o1_some h
            have ha := cE_ok a c xa h1
            exact EOk.plain rfl (fun _ _ => rfl) fun X Wh ok tk => l_sz ok.calm (ok.gl hp.1) (ok.F.blt _ (by decide)) (ok.gl hp.2) (ok.F.blt _ (by decide)) (ha.pe X Wh ok tk) (sh_star ha.sh [] X.env)
          · cases h
        · cases h
      · cases h
  | .BoolOp .., c, t, _, _, h | .NamedExpr .., c, t, _, _, h | .BinOp .., c, t, _, _, h | .UnaryOp .., c, t, _, _, h | .Lambda .., c, t, _, _, h | .IfExp .., c, t, _, _, h | .Dict .., c, t, _, _, h | .Set .., c, t, _, _, h | .ListComp .., c, t, _, _, h | .SetComp .., c, t, _, _, h
  | .DictComp .., c, t, _, _, h | .GeneratorExp .., c, t, _, _, h | .Await .., c, t, _, _, h | .Yield .., c, t, _, _, h | .YieldFrom .., c, t, _, _, h | .Compare .., c, t, _, _, h | .FormattedValue .., c, t, _, _, h | .JoinedStr .., c, t, _, _, h
  | .Constant .., c, t, _, _, h | .Attribute .., c, t, _, _, h | .Starred .., c, t, _, _, h | .List .., c, t, _, _, h | .Slice .., c, t, _, _, h | .Name .., c, t, _, _, h | .Tuple .., c, t, _, _, h | .Subscript .., c, t, _, _, h => by simp [cSt] at h
theorem cB_ok : ∀ (es : List Expr) (c : SC) (o : BoolOp) (x : Sd.X), cB c o es = some x → BOk Γ lev c o es x
  | [], c, o, x, h => by simp [cB] at h
  | [e], c, o, x, h => by
    simp only [cB] at h
    exact b_one (cE_ok e c x h)
  | e :: e' :: es, c, o, x, h => by
    cases o <;> simp only [cB] at h
    · obtain ⟨xa, xb, h1, h2, rfl⟩ := o2_some h
      exact b_an (cE_ok e c xa h1) (cB_ok (e' :: es) c .And xb h2)
    · obtain ⟨xa, xb, h1, h2, rfl⟩ := o2_some h
      exact b_ro (cE_ok e c xa h1) (cB_ok (e' :: es) c .Or xb h2)
theorem cEs_ok : ∀ (es : List Expr) (c : SC) (xs : List Sd.X), cEs c es = some xs → AOk Γ lev c es xs
  | [], c, xs, h => by
    simp only [cEs, Option.some.injEq] at h
    subst h
    exact ⟨rfl, fun X Wh ok tk => l_nil⟩
  | e :: es, c, xs, h => by
    simp only [cEs] at h
    obtain ⟨xa, xb, h1, h2, rfl⟩ := o2_some h
    exact a_cons (cE_ok e c xa h1) (cEs_ok es c xb h2)
theorem cSl_ok : ∀ (e : Expr) (c : SC) (p : Sd.X × Sd.X), cSl c e = some p → ∃ lo hi q, e = .Slice lo hi none q ∧ OOk Γ lev c lo p.1 ∧ OOk Γ lev c hi p.2
  | .Slice lo hi none q, c, p, h => by
    simp only [cSl] at h
    obtain ⟨xl, xh, h1, h2, rfl⟩ := o2_some h
    exact ⟨lo, hi, q, rfl, cO_ok lo c xl h1, cO_ok hi c xh h2⟩
  | .Slice lo hi (some st) q, c, p, h => by simp [cSl] at h
  | .BoolOp .., c, t, h | .NamedExpr .., c, t, h | .BinOp .., c, t, h | .UnaryOp .., c, t, h | .Lambda .., c, t, h | .IfExp .., c, t, h | .Dict .., c, t, h | .Set .., c, t, h | .ListComp .., c, t, h | .SetComp .., c, t, h
  | .DictComp .., c, t, h | .GeneratorExp .., c, t, h | .Await .., c, t, h | .Yield .., c, t, h | .YieldFrom .., c, t, h | .Compare .., c, t, h | .FormattedValue .., c, t, h | .JoinedStr .., c, t, h
  | .Constant .., c, t, h | .Attribute .., c, t, h | .Starred .., c, t, h | .List .., c, t, h | .Call .., c, t, h | .Name .., c, t, h | .Tuple .., c, t, h | .Subscript .., c, t, h => by simp [cSl] at h
theorem cHd_ok : ∀ (es : List Expr) (c : SC) (x : Sd.X), cHd c es = some x → ∃ e r, es = e :: r ∧ EOk Γ lev c e x
  | [], c, x, h => by simp [cHd] at h
  | e :: es, c, x, h => by
    simp only [cHd] at h
    exact ⟨e, es, rfl, cE_ok e c x h⟩
theorem cO_ok : ∀ (o : Option Expr) (c : SC) (x : Sd.X), cO c o = some x → OOk Γ lev c o x
  | none, c, x, h => by
    simp only [cO, Option.some.injEq] at h
    subst h
    exact fun X Wh ok tk => l_nopart rfl
  | some e, c, x, h => by
    simp only [cO] at h
    obtain ⟨xa, h1, rfl⟩ := o1_some h
    have he := cE_ok e c xa h1
    exact fun X Wh ok tk => l_part (he.pe X Wh ok tk)
theorem cIfs_ok : ∀ (es : List Expr) (c : SC) (x : Sd.X), cIfs c es = some x → IfOk Γ lev c es x
  | [], c, x, h => by
    simp only [cIfs, Option.some.injEq] at h
    subst h
    exact ifs_nil
  | [e], c, x, h => by
    simp only [cIfs] at h
    exact ifs_one (cE_ok e c x h)
  | _ :: _ :: _, c, x, h => by simp [cIfs] at h
theorem cT_ok : ∀ (e : Expr) (c : SC) (sl : List Nat) (t : T), cT c sl e = some t → TOk Γ lev c sl e t
  | .Name n p, c, sl, t, h => by
    simp only [cT] at h
    split at h
    · rename_i h1
      split at h
      · rename_i i ei
        split at h
        · rename_i h3
          cases h
          exact t_name h1 ei h3
        · cases h
      · cases h
    · cases h
  | .Tuple es k p, c, sl, t, h => by
    simp only [cT] at h
    obtain ⟨ts, h1, rfl⟩ := o1_some h
    exact t_tp (cTs_ok es c sl ts h1)
  | .Subscript a i p, c, sl, t, h => by
    simp only [cT] at h
    split at h
    · cases h
    · rename_i hs
      obtain ⟨xa, xi, h1, h2, rfl⟩ := o2_some h
      exact t_ix (by simpa using hs) (cE_ok a c xa h1) (cE_ok i c xi h2)
  | .BoolOp .., c, sl, t, h | .NamedExpr .., c, sl, t, h | .BinOp .., c, sl, t, h | .UnaryOp .., c, sl, t, h | .Lambda .., c, sl, t, h | .IfExp .., c, sl, t, h | .Dict .., c, sl, t, h | .Set .., c, sl, t, h | .ListComp .., c, sl, t, h | .SetComp .., c, sl, t, h
  | .DictComp .., c, sl, t, h | .GeneratorExp .., c, sl, t, h | .Await .., c, sl, t, h | .Yield .., c, sl, t, h | .YieldFrom .., c, sl, t, h | .Compare .., c, sl, t, h | .Call .., c, sl, t, h | .FormattedValue .., c, sl, t, h | .JoinedStr .., c, sl, t, h
  | .Constant .., c, sl, t, h | .Attribute .., c, sl, t, h | .Starred .., c, sl, t, h | .List .., c, sl, t, h | .Slice .., c, sl, t, h => by simp [cT] at h
theorem cTs_ok : ∀ (es : List Expr) (c : SC) (sl : List Nat) (ts : List T), cTs c sl es = some ts → TsOk Γ lev c sl es ts
  | [], c, sl, ts, h => by
    simp only [cTs, Option.some.injEq] at h
    subst h
    exact ts_nil
  | e :: es, c, sl, ts, h => by
    simp only [cTs] at h
    obtain ⟨xa, xb, h1, h2, rfl⟩ := o2_some h
    exact ts_cons (cT_ok e c sl xa h1) (cTs_ok es c sl xb h2)
theorem cR_ok : ∀ (e : Expr) (c : SC) (it : I), cR c e = some it → IOk Γ lev c e it
  | .Call f args kw p, c, it, h => by
    cases kw with
    | cons k1 k2 => cases f <;> simp [cR] at h
    | nil =>
      cases f <;> (try (simp [cR] at h; done))
      rename_i n np
      rw [cR.eq_def] at h
      dsimp only at h
      split at h
      · rename_i hn
        subst hn
        split at h
        · rename_i hp
          rw [Bool.and_eq_true, Bool.and_eq_true] at hp
          split at h
          · rename_i b
            obtain ⟨xb, h1, rfl⟩ := o1_some h
            have hb := cE_ok b c xb h1
            exact ⟨rfl, fun X Wh tg _ ok tk => i_rng1 (ok.gl hp.2.1) (ok.F.blt _ (by decide)) (hb.pe X Wh ok tk) (sh_star hb.sh [] X.env)⟩
          · rename_i a b
            obtain ⟨xa, xb, h1, h2, rfl⟩ := o2_some h
            have ha := cE_ok a c xa h1
            have hb := cE_ok b c xb h2
            exact ⟨rfl, fun X Wh tg _ ok tk => i_rng2 (ok.gl hp.2.1) (ok.F.blt _ (by decide)) (ha.pe X Wh ok tk) (hb.pe X Wh ok tk) (sh_star hb.sh [] X.env) (sh_star ha.sh [b] X.env)⟩
          · cases h
        · cases h
      · split at h
        · rename_i hn
          subst hn
          split at h
          · rename_i hp
            rw [Bool.and_eq_true, Bool.and_eq_true] at hp
            split at h
            · rename_i a b
              obtain ⟨xa, xb, h1, h2, rfl⟩ := o2_some h
              have ha := cE_ok a c xa h1
              have hb := cE_ok b c xb h2
              refine ⟨rfl, fun X Wh tg ht ok tk => ?_⟩
              cases tg <;> (try (cases ht; done))
              exact i_zip (ok.gl hp.2.1) (ok.F.blt _ (by decide)) (ha.pe X Wh ok tk) (hb.pe X Wh ok tk) (sh_star hb.sh [] X.env) (sh_star ha.sh [b] X.env)
            · cases h
          · cases h
        · cases h
  | .BoolOp .., c, t, h | .NamedExpr .., c, t, h | .BinOp .., c, t, h | .UnaryOp .., c, t, h | .Lambda .., c, t, h | .IfExp .., c, t, h | .Dict .., c, t, h | .Set .., c, t, h | .ListComp .., c, t, h | .SetComp .., c, t, h
  | .DictComp .., c, t, h | .GeneratorExp .., c, t, h | .Await .., c, t, h | .Yield .., c, t, h | .YieldFrom .., c, t, h | .Compare .., c, t, h | .FormattedValue .., c, t, h | .JoinedStr .., c, t, h
  | .Constant .., c, t, h | .Attribute .., c, t, h | .Starred .., c, t, h | .List .., c, t, h | .Slice .., c, t, h | .Name .., c, t, h | .Tuple .., c, t, h | .Subscript .., c, t, h => by simp [cR] at h
end
end
end Sd
namespace Sd
open PySem PySem.Spec PyProof.Rows L2
def isLoc : Option NameKind → Bool
  | some .local => true
  | _ => false
/-- x = [..], the list stored within -/
def swC (c : SC) (e : Expr) (x : Str) (pl : Nat) : Bool := match e with
  | .ListComp _ _ s p => isLoc (c.look x) && (pl == p.line && !(s.names.any fun (n, k) => n == x && (k == .local || k == .cell)))
  | _ => false
/-- a, b = x, y with plain names -/
def parB (c : SC) (x : Str) (px : Pos) (y : Str) (py : Pos) (a b : Expr) : Bool := isLoc (c.look x) && (isLoc (c.look y) && (py.line == px.line && (!decide (x = y) && (!(foldedForSure 8 a && foldedForSure 8 b) && !(constantsAlone 8 a && constantsAlone 8 b)))))
/-- targets that are no plain names -/
def noNames : List Expr → Bool
  | [] => false
  | .Name _ _ :: r => noNames r
  | _ => true
/-- targets that are no plain local names -/
def anyCell (c : SC) : List Expr → Bool
  | [] => false
  | .Name x _ :: r => !isLoc (c.look x) || anyCell c r
  | _ => true
def genT (c : SC) (ts : List Expr) : Bool := anyCell c ts || decide (3 < ts.length)
/-- a, b, c = x, y, z with plain names -/
def parT (c : SC) (x : Str) (px : Pos) (y : Str) (py : Pos) (z : Str) (pz : Pos) (a b d : Expr) : Bool := isLoc (c.look x) && (isLoc (c.look y) && (isLoc (c.look z) && (py.line == px.line && (pz.line == px.line && (!decide (x = y) && (!decide (x = z) && (!decide (y = z) && (!(foldedForSure 8 a && (foldedForSure 8 b && foldedForSure 8 d)) && !(constantsAlone 8 a && (constantsAlone 8 b && constantsAlone 8 d))))))))))
def cAsg (c : SC) (tg e : Expr) (xe : Option X) (t : Option T) (xa xb xc : Option X) : Option Z := match tg, e with
  | .Name x p, e => (match ixOf x c.N with
    | some i => if c.can x then o1 (fun v => Z.asg (.nm i) v) xe else none
    | none => none)
  | .Tuple [.Name x px, .Name y py] _ _, .Tuple [a, b] _ _ => if parB c x px y py a b then (match ixOf x c.N, ixOf y c.N with
      | some i, some j => o2 (fun u v => Z.asg (.tp [.nm i, .nm j]) (.tp [u, v])) xa xb
      | _, _ => none) else if genT c [.Name x px, .Name y py] || [a, b].all (foldedForSure 8) then o2 (fun v t => Z.asg t v) xe t else none
  | .Tuple [.Name x px, .Name y py, .Name z pz] _ _, .Tuple [a, b, d] _ _ => if parT c x px y py z pz a b d then (match ixOf x c.N, ixOf y c.N, ixOf z c.N with
      | some i, some j, some l => o3 (fun u v w => Z.asg (.tp [.nm i, .nm j, .nm l]) (.tp [u, v, w])) xa xb xc
      | _, _, _ => none) else if genT c [.Name x px, .Name y py, .Name z pz] || [a, b, d].all (foldedForSure 8) then o2 (fun v t => Z.asg t v) xe t else none
  | .Tuple ts _ _, e => if isTup e && !genT c ts then none else o2 (fun v t => Z.asg t v) xe t
  | .Subscript .., e => o2 (fun v t => Z.asg t v) xe t
  | _, _ => none
def twoE : Expr → Option (Expr × Expr × Expr)
  | .Tuple [a, b] _ _ => some (a, b, a)
  | .Tuple [a, b, d] _ _ => some (a, b, d)
  | _ => none
def plainC (k : Nat) : Bool := !(k == 4 || (k == 15 || k == 17))
def cRz (c : SC) : Option Expr → Option Expr → Option Z
  | some (.Call (.Name x _) [.Constant (.str _) _ _] [] _), none => if plainN x && isGlo (c.look x) then (match c.cls.lookup x with
    | some k => if plainC k then some (.rz k) else none
    | none => none) else none
  | some (.Call (.Name x _) [e] [] _), none => if plainN x && isGlo (c.look x) then (match c.rzs.lookup x with
    | some k => o1 (Z.rzf k) (cE c e)
    | none => none) else none
  | _, _ => none
/-- except x as n: y = n; z = None -/
def cHand2 (c : SC) : List ExceptHandler → Option (Nat × Nat × Nat × Nat)
  | [.ExceptHandler (some (.Name x _)) (some n) [.Assign [.Name y _] (.Name m _) _, .Assign [.Name z _] (.Constant .none _ _) _] _] => if plainN x && (isGlo (c.look x) && (plainN n && (isLoc (c.look n) && (c.can y && (c.can z && decide (m = n)))))) then (match c.cls.lookup x, ixOf n c.N, ixOf y c.N, ixOf z c.N with
    | some k, some i, some j, some l => if i = j ∨ i = l then none else some (k, i, j, l)
    | _, _, _, _ => none) else none
  | _ => none
/-- except x as n: y = n; z = ("t",) -/
def cHand3 (c : SC) : List ExceptHandler → Option (Nat × Nat × Nat × Nat × Str)
  | [.ExceptHandler (some (.Name x _)) (some n) [.Assign [.Name y _] (.Name m _) _, .Assign [.Name z _] (.Tuple [.Constant (.str t) _ _] _ _) _] _] => if plainN x && (isGlo (c.look x) && (plainN n && (isLoc (c.look n) && (c.can y && (c.can z && decide (m = n)))))) then (match c.cls.lookup x, ixOf n c.N, ixOf y c.N, ixOf z c.N with
    | some k, some i, some j, some l => if i = j ∨ i = l then none else some (k, i, j, l, t)
    | _, _, _, _ => none) else none
  | _ => none
/-- except x as n: y = n -/
def cHand (c : SC) : List ExceptHandler → Option (Nat × Nat × Nat)
  | [.ExceptHandler (some (.Name x _)) (some n) [.Assign [.Name y _] (.Name m _) _] _] => if plainN x && (isGlo (c.look x) && (plainN n && (isLoc (c.look n) && (c.can y && decide (m = n))))) then (match c.cls.lookup x, ixOf n c.N, ixOf y c.N with
    | some k, some i, some j => if i = j then none else some (k, i, j)
    | _, _, _ => none) else none
  | _ => none
def augOp : Operator → Bool
  | .Add => true
  | .Sub => true
  | _ => false
mutual
def cZ (c : SC) (all : List Nat) : Stmt → Option Z
  | .Assign [tg] e p => cAsg c tg e (cE c e) (cT c all tg) ((twoE e).bind fun q => cE c q.1) ((twoE e).bind fun q => cE c q.2.1) ((twoE e).bind fun q => cE c q.2.2)
  | .AugAssign (.Name x _) o e _ => if augOp o && c.can x then (match ixOf x c.N with
    | some i => o1 (Z.aug i o) (cE c e)
    | none => none) else none
  | .Expr e _ => if isComp e then none else o1 Z.ex (cE c e)
  | .Return (some e) _ => o1 Z.ret (cE c e)
  | .Return none _ => some (.ret (.c .non))
  | .If t a b _ => o3 Z.iff (cE c t) (cZs c all a) (cZs c all b)
  | .While t b [] _ => o2 Z.whl (cE c t) (cZs c all b)
  | .For tg it b [] _ => o3 Z.for_ (cT c all tg) (cI c tg it) (cZs c all b)
  | .Raise a b _ => cRz c a b
  | .Try b hs [] [] _ => (match cHand c hs with
    | some q => o1 (fun zs => Z.tr zs q.1 q.2.1 q.2.2) (cZs c all b)
    | none => (match cHand2 c hs with
      | some q => o1 (fun zs => Z.tr2 zs q.1 q.2.1 q.2.2.1 q.2.2.2) (cZs c all b)
      | none => (match cHand3 c hs with
        | some q => o1 (fun zs => Z.tr3 zs q.1 q.2.1 q.2.2.1 q.2.2.2.1 q.2.2.2.2) (cZs c all b)
        | none => none)))
  | .Pass _ => some .pass
  | .Continue _ => some .cont
  | .Break _ => some .brk
  | _ => none
def cZs (c : SC) (all : List Nat) : List Stmt → Option (List Z)
  | [] => some []
  | s :: r => o2 (fun z zs => z :: zs) (cZ c all s) (cZs c all r)
end
/-- a def's body: all slots may be stored -/
def cBody (c : SC) (ss : List Stmt) : Option (List Z) := cZs c (List.range c.N.length) ss
/-- what raising a class with a field wants -/
def IniOk (P : Program) (w : World) (K : PySem.W.Frag) (mg : Str → Option Value) (base : Heap) (k : Nat) : Prop := Kn K k ∧ mg (clsN k) = some (.ref (gaK K (clsN k))) ∧ ∃ fI fd ps, OexC K (gaK K (clsN k)) ∧ PySem.W.findIn K (.ref (gaK K (clsN k))) "__init__" = some (some (.ref fI)) ∧ PySem.W.typeIn K (.ref fI) = some (.type "function") ∧
  FnOk P w K mg base (L2.CX P w) 1 fI fd ps (spI (gaK K (clsN k)) (fldN k)) ∧ Binds K fd ps []
structure XS (Γ : Gam) (c : SC) (X : Cx) : Prop where
  kind : X.env.scope.kind = .function
  stk : X.stack = X.env :: X.outer
  frm : X.env.frame = some X.env.locals
  exn : X.ex = []
  own : PassesOwn (model X.prog X.w) X.A X.env X.xe
  rz : ∀ x k, c.cls.lookup x = some k → plainC k = true → PySem.W.excIn X.K (gaK X.K (clsN k)) [.type "ValueError", .type "Exception", .type "BaseException", .type "object"] "ValueError.__new__" = true ∧ PySem.W.keepIn X.K (.ref (gaK X.K (clsN k))) = true ∧
    PySem.W.subIn X.K (.ref (gaK X.K (clsN k))) (.type "BaseException") = some true ∧ PySem.W.typeIn X.K (.ref (gaK X.K (clsN k))) = some (.type "type")
  ini : ∀ x k, c.rzs.lookup x = some k → clsN k = x ∧ IniOk X.prog X.w X.K X.mg X.base k
def ZOk (Γ : Gam) (lev : Nat) (c : SC) (st : Stmt) (z : Z) : Prop := ∀ X Wh, XOk Γ lev c X → XS Γ c X → Takes X Wh → PS X st (LS X.K Wh (wZ Γ z))
def ZsOk (Γ : Gam) (lev : Nat) (c : SC) (st : List Stmt) (z : List Z) : Prop := ∀ X Wh, XOk Γ lev c X → XS Γ c X → Takes X Wh → PSs X st (LS X.K Wh (wZs Γ z))
section
variable {Γ : Gam} {lev : Nat} {c : SC} {X : Cx} {Wh : WX}
theorem isLoc_eq {o : Option NameKind} (h : isLoc o = true) : o = some .local := by
  cases o with
  | none => cases h
  | some k => cases k <;> first | rfl | cases h
theorem XOk.tr (ok : XOk Γ lev c X) (pn : List (Addr × Obj)) (xe : Value → Shared → Prop) : XOk Γ lev c (X.tr pn xe) := ⟨ok.N, ok.nd, ok.sc, ok.fn, ok.calm, ok.room, ok.F⟩
theorem XS.tr (s : XS Γ c X) {pn : List (Addr × Obj)} {xe : Value → Shared → Prop} (h : PassesOwn (model X.prog X.w) X.A X.env xe) : XS Γ c (X.tr pn xe) := ⟨s.kind, s.stk, s.frm, s.exn, h, s.rz, s.ini⟩
theorem blkFn {env : Env} (h : env.scope.kind = .function) : env.blockKind = .function := by
  unfold Env.blockKind
  rw [h]
  rfl
theorem sw_no {e : Expr} {x : Str} {px : Pos} {l : Nat} (sc : X.env.scope = c.sc) (sh : okSh e = true) (h : swC c e x px.line = false) (hk : X.env.scope.kind = .function) : swapsWith e (some (.Name x px)) l X.env = pure false := by
  by_cases hc : isComp e = false
  · exact sh_sw sh hc _ _ _
  · cases e <;> (try exact absurd rfl hc)
    rename_i elt gs s p
    unfold swapsWith
    have hb := blkFn hk
    simp only [hb, Expr.pos]
    have ek : X.env.kindOf x = c.look x := by
      unfold Env.kindOf SC.look
      rw [sc]
    rw [ek]
    have h' : (isLoc (c.look x) && (px.line == p.line && !(s.names.any fun (n, k) => n == x && (k == .local || k == .cell)))) = false := h
    have e1 : (c.look x == some NameKind.local) = isLoc (c.look x) := by
      cases q : c.look x with
      | none => rfl
      | some k => cases k <;> rfl
    rw [e1]
    have e2 : ((ScopeKind.function == ScopeKind.function) && isLoc (c.look x) && px.line == p.line && !(s.names.any fun (n, k) => n == x && (k == .local || k == .cell))) = false := by
      rw [← h']
      simp [Bool.and_assoc]
    rw [e2]
theorem par_st {x y : Str} {px py pt pt2 : Pos} {a b : Expr} {k k2} (sc : X.env.scope = c.sc) (sa : okSh a = true) (sb : okSh b = true) (h : parB c x px y py a b = true) (hk : X.env.scope.kind = .function) :
    swappedStores [.Tuple [.Name x px, .Name y py] k pt] (.Tuple [a, b] k2 pt2) X.env = pure (some [x, y]) := by
  unfold parB at h
  simp only [Bool.and_eq_true, Bool.not_eq_true', decide_eq_false_iff_not] at h
  obtain ⟨h1, h2, h3, h4, h5, h6⟩ := h
  have k1 : X.env.kindOf x = some .local := by
    unfold Env.kindOf
    rw [sc]
    exact isLoc_eq h1
  have k2' : X.env.kindOf y = some .local := by
    unfold Env.kindOf
    rw [sc]
    exact isLoc_eq h2
  have hb := blkFn hk
  have h3' : py.line = px.line := by simpa using h3
  have n2 : ([x, y] : List Str).eraseDups = [x, y] := by
    rw [List.eraseDups_cons]
    have : ([y] : List Str).filter (fun b => !b == x) = [y] := by
      simp [Ne.symm h4]
    rw [this]
    rfl
  have n3 : ([a, b] : List Expr).all (foldedForSure 8) = false := by simpa using h5
  have n4 : ([a, b] : List Expr).all (constantsAlone 8) = false := by simpa using h6
  have q1 : (Expr.Name x px).pos = px := by first | rfl | simp [Expr.pos]
  unfold swappedStores
  cases a <;> (try (cases sa; done)) <;> cases b <;> (try (cases sb; done)) <;>
    simp [hb, List.filterMap_cons, k1, k2', q1, h3', n2, n3, n4, h5, h6]
theorem par3_st {x y z : Str} {px py pz pt pt2 : Pos} {a b d : Expr} {k k2} (sc : X.env.scope = c.sc) (sa : okSh a = true) (sb : okSh b = true) (sd : okSh d = true) (h : parT c x px y py z pz a b d = true) (hk : X.env.scope.kind = .function) :
    swappedStores [.Tuple [.Name x px, .Name y py, .Name z pz] k pt] (.Tuple [a, b, d] k2 pt2) X.env = pure (some [x, y, z]) := by
  unfold parT at h
  simp only [Bool.and_eq_true, Bool.not_eq_true', decide_eq_false_iff_not] at h
  obtain ⟨h1, h2, h3, h4, h5, h6, h7, h8, h9, h10⟩ := h
  have kx : X.env.kindOf x = some .local := by
    unfold Env.kindOf
    rw [sc]
    exact isLoc_eq h1
  have ky : X.env.kindOf y = some .local := by
    unfold Env.kindOf
    rw [sc]
    exact isLoc_eq h2
  have kz : X.env.kindOf z = some .local := by
    unfold Env.kindOf
    rw [sc]
    exact isLoc_eq h3
  have hb := blkFn hk
  have h4' : py.line = px.line := by simpa using h4
  have h5' : pz.line = px.line := by simpa using h5
  have n2 : ([x, y, z] : List Str).eraseDups = [x, y, z] := by
    have f1 : ([y, z] : List Str).filter (fun b => !b == x) = [y, z] := by
      simp [Ne.symm h6, Ne.symm h7]
    have f2 : ([z] : List Str).filter (fun b => !b == y) = [z] := by
      simp [Ne.symm h8]
    rw [List.eraseDups_cons, f1, List.eraseDups_cons, f2]
    rfl
  have n3 : ([a, b, d] : List Expr).all (foldedForSure 8) = false := by simpa using h9
  have n4 : ([a, b, d] : List Expr).all (constantsAlone 8) = false := by simpa using h10
  have q1 : (Expr.Name x px).pos = px := by first | rfl | simp [Expr.pos]
  unfold swappedStores
  dsimp only
  split
  · rename_i h0
    simp [hb] at h0
  · split
    · rename_i h0
      exfalso
      simp only [List.any_cons, List.any_nil, Bool.or_false, Bool.or_eq_true] at h0
      rcases h0 with h0 | h0 | h0
      · cases a <;> first | (cases h0; done) | (cases sa; done)
      · cases b <;> first | (cases h0; done) | (cases sb; done)
      · cases d <;> first | (cases h0; done) | (cases sd; done)
    · simp [List.filterMap_cons, kx, ky, kz, q1, h4', h5', n2, n3, n4, h9, h10]
end
end Sd
namespace Sd
open PySem PySem.Spec PyProof.Rows L2
section
variable {Γ : Gam} {lev : Nat} {c : SC} {X : Cx} {Wh : WX}
theorem lc_parts (hlev : 2 ≤ lev) {elt : Expr} {gens : List Comprehension} {scope : Scope} {p : Pos} {x : Sd.X} (h : cE c (.ListComp elt gens scope p) = some x) :
    ∃ tg iter ifs own e t it cond, gens = [⟨tg, iter, ifs, 0⟩] ∧ x = .lc e t it cond (own.map (·.2)) ∧ blkC c.N c.sc scope own = true ∧ EOk Γ lev (c.blk scope) elt e ∧ TOk Γ lev (c.blk scope) (own.map (·.2)) tg t ∧ IOk Γ lev c iter it ∧ tgOk it tg = true ∧ IfOk Γ lev (c.blk scope) ifs cond := by
  match gens, h with
  | [⟨tg, iter, ifs, 0⟩], h =>
    simp only [cE] at h
    split at h
    · rename_i own eo
      split at h
      · rename_i hb
        split at h
        · rename_i e t it cond e1 e2 e3 e4
          cases h
          obtain ⟨e3, hk⟩ := chkT_some e3
          have hi : IOk Γ lev c iter it := by
            split at e3
            · rename_i it2 er
              cases e3
              exact cR_ok hlev iter c it er
            · obtain ⟨xi, h1, rfl⟩ := o1_some e3
              exact i_of (cE_ok hlev iter c xi h1)
          exact ⟨tg, iter, ifs, own, e, t, it, cond, rfl, rfl, hb, cE_ok hlev elt _ e e1, cT_ok hlev tg _ _ t e2, hi, hk, cIfs_ok hlev ifs _ cond e4⟩
        · cases h
      · cases h
    · cases h
theorem sw_yes {elt : Expr} {gs : List Comprehension} {s : Scope} {p px : Pos} {x : Str} {l : Nat} (ok : XOk Γ lev c X) (hk : X.env.scope.kind = .function) (h : swC c (.ListComp elt gs s p) x px.line = true) :
    X.env.scope.names.lookup x = some .local ∧ swapsWith (.ListComp elt gs s p) (some (.Name x px)) l X.env = pure true := by
  have h' : (isLoc (c.look x) && (px.line == p.line && !(s.names.any fun (n, k) => n == x && (k == .local || k == .cell)))) = true := h
  rw [Bool.and_eq_true, Bool.and_eq_true, Bool.not_eq_true'] at h'
  have e : X.env.scope.names.lookup x = some .local := by
    rw [ok.sc]
    exact isLoc_eq h'.1
  exact ⟨e, sw_true hk e h'.2.1 h'.2.2⟩
theorem no_names {f : Expr → Option Str} (hf : ∀ e, f e ≠ none → ∃ x p, e = .Name x p) : ∀ {ts : List Expr}, noNames ts = true → (ts.filterMap f).length ≠ ts.length
  | [], h => by cases h
  | e :: r, h => by
    have hl : ∀ r : List Expr, (r.filterMap f).length ≤ r.length := fun r => List.length_filterMap_le f r
    cases q : f e with
    | none =>
      rw [List.filterMap_cons, q]
      have := hl r
      simp only [List.length_cons]
      omega
    | some y =>
      obtain ⟨x, p, rfl⟩ := hf e (by rw [q]; simp)
      have h' : noNames r = true := h
      rw [List.filterMap_cons, q]
      have := no_names hf h'
      simpa using this
theorem st_none {ts : List Expr} {k : Nat} {pt : Pos} {e : Expr} {env : Env} (h : (isTup e && !noNames ts) = false) : swappedStores [.Tuple ts k pt] e env = pure none := by
  by_cases he : isTup e = true
  · cases e <;> (try (cases he; done))
    rename_i vs k2 p2
    have hn : noNames ts = true := by
      cases q : noNames ts with
      | true => rfl
      | false => rw [q] at h; cases h
    unfold swappedStores
    dsimp only
    split
    · rfl
    · split
      · rfl
      · rw [if_pos]
        rw [Bool.or_eq_true]
        left
        refine bne_iff_ne.mpr (no_names ?_ hn)
        intro e0 h0
        cases e0 <;> first
          | exact ⟨_, _, rfl⟩
          | exact absurd rfl h0
  · cases e <;> first | rfl | exact absurd rfl he
theorem any_cell {c : SC} {f : Expr → Option Str} (hf : ∀ e, f e ≠ none → ∃ x p, e = .Name x p ∧ isLoc (c.look x) = true) : ∀ {ts : List Expr}, anyCell c ts = true → (ts.filterMap f).length ≠ ts.length
  | [], h => by cases h
  | e :: r, h => by
    have hl : ∀ r : List Expr, (r.filterMap f).length ≤ r.length := fun r => List.length_filterMap_le f r
    cases q : f e with
    | none =>
      rw [List.filterMap_cons, q]
      have := hl r
      simp only [List.length_cons]
      omega
    | some y =>
      obtain ⟨x, p, rfl, hx⟩ := hf e (by rw [q]; simp)
      have h' : (!isLoc (c.look x) || anyCell c r) = true := h
      rw [hx, Bool.not_true, Bool.false_or] at h'
      rw [List.filterMap_cons, q]
      have := any_cell hf h'
      simpa using this
theorem st_gen {ts : List Expr} {k : Nat} {pt : Pos} {e : Expr} (sc : X.env.scope = c.sc) (h : (isTup e && !genT c ts) = false) : swappedStores [.Tuple ts k pt] e X.env = pure none := by
  by_cases he : isTup e = true
  · cases e <;> (try (cases he; done))
    rename_i vs k2 p2
    have hn : genT c ts = true := by
      cases q : genT c ts with
      | true => rfl
      | false => rw [q] at h; cases h
    unfold genT at hn
    rw [Bool.or_eq_true] at hn
    unfold swappedStores
    dsimp only
    split
    · rfl
    · rename_i hlen
      split
      · rfl
      · rcases hn with hn | hn
        · rw [if_pos]
          rw [Bool.or_eq_true]
          left
          refine bne_iff_ne.mpr (any_cell (c := c) ?_ hn)
          intro e0 h0
          cases e0 <;> (try (exact absurd rfl h0))
          rename_i x px
          refine ⟨x, px, rfl, ?_⟩
          dsimp only at h0
          have ek : X.env.kindOf x = c.look x := by
            unfold Env.kindOf SC.look
            rw [sc]
          rw [ek] at h0
          cases ql : c.look x with
          | none => rw [ql] at h0; exact absurd rfl h0
          | some kk => cases kk <;> first | rfl | (rw [ql] at h0; exact absurd rfl h0)
        · exfalso
          have hn' : 3 < ts.length := of_decide_eq_true hn
          apply hlen
          simp only [Bool.or_eq_true, Bool.not_eq_true', Bool.or_eq_false_iff, beq_eq_false_iff_ne, ne_eq]
          left
          left
          omega
  · cases e <;> first | rfl | exact absurd rfl he
theorem st_fold {ts vs : List Expr} {k k2 : Nat} {pt p2 : Pos} {env : Env} (h : vs.all (foldedForSure 8) = true) : swappedStores [.Tuple ts k pt] (.Tuple vs k2 p2) env = pure none := by
  unfold swappedStores
  dsimp only
  split
  · rfl
  · split
    · rfl
    · split
      · rfl
      · first | rfl | (rw [if_pos h]; done) | (rw [if_pos h]; rfl)
theorem sole_no {tg e : Expr} {l : Nat} {env : Env} (h : ∀ x p, tg ≠ .Name x p) : swapsWithSole [tg] e l env = pure false := by
  unfold swapsWithSole swapsWith
  cases e <;> first
    | rfl
    | (cases tg <;> first | rfl | exact absurd rfl (h _ _))
theorem sub_none {a i e : Expr} {p : Pos} {env : Env} : swappedStores [.Subscript a i p] e env = pure none := by
  cases e <;> rfl
theorem asg_ok (hlev : 2 ≤ lev) {tg e : Expr} {p : Pos} {all : List Nat} {z : Z} (h : cAsg c tg e (cE c e) (cT c all tg) ((twoE e).bind fun q => cE c q.1) ((twoE e).bind fun q => cE c q.2.1) ((twoE e).bind fun q => cE c q.2.2) = some z) : ZOk Γ lev c (.Assign [tg] e p) z := by
  unfold cAsg at h
  split at h
  · rename_i x px
    split at h
    · rename_i i ei
      split at h
      · rename_i hc
        obtain ⟨v, h1, rfl⟩ := o1_some h
        intro X Wh ok s tk
        cases hsw : swC c e x px.line with
        | true =>
          cases e <;> (try (cases hsw; done))
          rename_i elt gens scope pe
          obtain ⟨tg, iter, ifs, own, e, t, it, cond, rfl, rfl, hb, he, ht, hi, hk, hf⟩ := lc_parts (Γ := Γ) hlev h1
          obtain ⟨w1, w2⟩ := sw_yes (l := p.line) ok s.kind hsw
          have bo : BlkOk X.N X.env.scope scope own := by
            rw [ok.N, ok.sc]
            exact blkOk_by hb
          exact s_setLc ok.calm (by rw [ok.N]; exact ok.nd) (by rw [ok.N]; exact ixOf_get ei) w1 w2 (hi.2 X Wh tg hk ok tk) bo (fun s H C cl fp => ht.2 _ _ (ok.blk scope s H C cl fp) takes_blk) (fun s H C cl fp => hf _ _ (ok.blk scope s H C cl fp) takes_blk) (fun s H C cl fp => he.pe _ _ (ok.blk scope s H C cl fp) takes_blk) (sh_fold hi.1 X.env)
        | false =>
          have he := cE_ok (Γ := Γ) hlev e c v h1
          exact s_set (by rw [ok.N]; exact ok.nd) (by rw [ok.N]; exact ixOf_get ei) (ok.can hc).1 (he.pe X Wh ok tk) (sw_no ok.sc he.sh hsw s.kind) (ok.can hc).2
      · cases h
    · cases h
  · rename_i x px y py k1 p1 a b k2 p2
    split at h
    · rename_i hp
      split at h
      · rename_i i j ei ej
        obtain ⟨u, v, h1, h2, rfl⟩ := o2_some h
        have ha := cE_ok (Γ := Γ) hlev a c u h1
        have hb := cE_ok (Γ := Γ) hlev b c v h2
        intro X Wh ok s tk
        have hp' := hp
        unfold parB at hp'
        simp only [Bool.and_eq_true, Bool.not_eq_true', decide_eq_false_iff_not] at hp'
        have hij : i ≠ j := fun q => by
          subst q
          have e1 := ixOf_get ei
          rw [ixOf_get ej] at e1
          exact hp'.2.2.2.1 (Option.some.inj e1).symm
        have key : (wZ Γ (.asg (.tp [.nm i, .nm j]) (.tp [u, v]))) = fun N ρ S W => wE Γ u ρ S (fun d S1 => wE Γ v ρ S1 (fun d' S2 => N.nx ((ρ.set i (some d)).set j (some d')) S2) W) W := by
          funext N ρ S W
          simp only [wZ, wE, wEs, wT, wTs, List.length_cons, List.length_nil]
          have e0 : (0 + 1 + 1 ≤ sizeLine) = True := by
            rw [sizeLine_eq]
            simp
          simp only [e0, true_and]
        rw [key]
        exact s_par ok.calm (by rw [ok.N]; exact ok.nd) (by rw [ok.N]; exact ixOf_get ei) (by rw [ok.N]; exact ixOf_get ej) hij (by rw [ok.sc]; exact isLoc_eq hp'.1) (by rw [ok.sc]; exact isLoc_eq hp'.2.1) (ha.pe X Wh ok tk) (hb.pe X Wh ok tk) (sh_star ha.sh _ _) (sh_star hb.sh _ _) (par_st ok.sc ha.sh hb.sh hp s.kind)
      · cases h
    · split at h
      · rename_i hg
        obtain ⟨v, t, h1, h2, rfl⟩ := o2_some h
        have he := cE_ok (Γ := Γ) hlev _ c v h1
        have ht := cT_ok (Γ := Γ) hlev _ c all t h2
        intro X Wh ok s tk
        rw [Bool.or_eq_true] at hg
        refine s_asg (he.pe X Wh ok tk) (ht.2 X Wh ok tk) (sole_no (fun _ _ q => by cases q)) ?_ rfl
        rcases hg with hg | hg
        · exact st_gen ok.sc (by rw [hg]; simp)
        · exact st_fold hg
      · cases h
  · rename_i x px y py z pz k1 p1 a b d k2 p2
    split at h
    · rename_i hp
      split at h
      · rename_i i j l ei ej el
        obtain ⟨u, v, w, h1, h2, h3, rfl⟩ := o3_some h
        have ha := cE_ok (Γ := Γ) hlev a c u h1
        have hb := cE_ok (Γ := Γ) hlev b c v h2
        have hd := cE_ok (Γ := Γ) hlev d c w h3
        intro X Wh ok s tk
        have hp' := hp
        unfold parT at hp'
        simp only [Bool.and_eq_true, Bool.not_eq_true', decide_eq_false_iff_not] at hp'
        obtain ⟨w1, w2, w3, _, _, w6, w7, w8, _, _⟩ := hp'
        have hij : i ≠ j := fun q => by
          subst q
          have e1 := ixOf_get ei
          rw [ixOf_get ej] at e1
          exact w6 (Option.some.inj e1).symm
        have hil : i ≠ l := fun q => by
          subst q
          have e1 := ixOf_get ei
          rw [ixOf_get el] at e1
          exact w7 (Option.some.inj e1).symm
        have hjl : j ≠ l := fun q => by
          subst q
          have e1 := ixOf_get ej
          rw [ixOf_get el] at e1
          exact w8 (Option.some.inj e1).symm
        have key : (wZ Γ (.asg (.tp [.nm i, .nm j, .nm l]) (.tp [u, v, w]))) = fun N ρ S W => wE Γ u ρ S (fun d S1 => wE Γ v ρ S1 (fun d' S2 => wE Γ w ρ S2 (fun d'' S3 => N.nx (((ρ.set i (some d)).set j (some d')).set l (some d'')) S3) W) W) W := by
          funext N ρ S W
          simp only [wZ, wE, wEs, wT, wTs, List.length_cons, List.length_nil]
          have e0 : (0 + 1 + 1 + 1 ≤ sizeLine) = True := by
            rw [sizeLine_eq]
            simp
          simp only [e0, true_and]
        rw [key]
        exact s_par3 ok.calm (by rw [ok.N]; exact ok.nd) (by rw [ok.N]; exact ixOf_get ei) (by rw [ok.N]; exact ixOf_get ej) (by rw [ok.N]; exact ixOf_get el) hij hil hjl (by rw [ok.sc]; exact isLoc_eq w1) (by rw [ok.sc]; exact isLoc_eq w2) (by rw [ok.sc]; exact isLoc_eq w3) (ha.pe X Wh ok tk) (hb.pe X Wh ok tk) (hd.pe X Wh ok tk) (sh_star ha.sh _ _) (sh_star hb.sh _ _) (sh_star hd.sh _ _) (par3_st ok.sc ha.sh hb.sh hd.sh hp s.kind)
      · cases h
    · split at h
      · rename_i hg
        obtain ⟨v, t, h1, h2, rfl⟩ := o2_some h
        have he := cE_ok (Γ := Γ) hlev _ c v h1
        have ht := cT_ok (Γ := Γ) hlev _ c all t h2
        intro X Wh ok s tk
        rw [Bool.or_eq_true] at hg
        refine s_asg (he.pe X Wh ok tk) (ht.2 X Wh ok tk) (sole_no (fun _ _ q => by cases q)) ?_ rfl
        rcases hg with hg | hg
        · exact st_gen ok.sc (by rw [hg]; simp)
        · exact st_fold hg
      · cases h
  · rename_i ts k1 p1 e _ 
    split at h
    · cases h
    · rename_i hn
      obtain ⟨v, t, h1, h2, rfl⟩ := o2_some h
      have he := cE_ok (Γ := Γ) hlev _ c v h1
      have ht := cT_ok (Γ := Γ) hlev _ c all t h2
      intro X Wh ok s tk
      exact s_asg (he.pe X Wh ok tk) (ht.2 X Wh ok tk) (sole_no (fun _ _ q => by cases q)) (st_gen ok.sc (by simpa using hn)) rfl
  · rename_i a i p1 e
    obtain ⟨v, t, h1, h2, rfl⟩ := o2_some h
    have he := cE_ok (Γ := Γ) hlev _ c v h1
    have ht := cT_ok (Γ := Γ) hlev _ c all t h2
    intro X Wh ok s tk
    exact s_asg (he.pe X Wh ok tk) (ht.2 X Wh ok tk) (sole_no (fun _ _ q => by cases q)) sub_none rfl
  · cases h
theorem rz_ok {a b : Option Expr} {p : Pos} {z : Z} (hlev : 2 ≤ lev) (h : cRz c a b = some z) : ZOk Γ lev c (.Raise a b p) z := by
  unfold cRz at h
  split at h
  · rename_i x px m j p2 pc
    split at h
    · rename_i hp
      rw [Bool.and_eq_true] at hp
      split at h
      · rename_i k ek
        split at h
        · rename_i hk
          cases h
          intro X Wh ok s tk
          obtain ⟨z1, z2, z3⟩ := ok.F.cls x k ek
          obtain ⟨r1, r2, r3, r4⟩ := s.rz x k ek hk
          subst z1
          exact s_rz ok.calm tk z2 r1 z3 r2 r3 r4 (ok.gl hp.2) (plain_parts hp.1).1
        · cases h
      · cases h
    · cases h
  · rename_i x px e pc _
    split at h
    · rename_i hp
      rw [Bool.and_eq_true] at hp
      split at h
      · rename_i k ek
        obtain ⟨xe, h1, rfl⟩ := o1_some h
        have he := cE_ok (Γ := Γ) hlev e c xe h1
        intro X Wh ok s tk
        obtain ⟨z1, kn, gC, fI, fd, ps, T, iC, tI, F1, hb⟩ := s.ini x k ek
        subst z1
        have hst := sh_star he.sh [] X.env
        refine PS.imp (s_rzf ok.calm tk kn T iC tI F1 (ok.room.mono hlev) hb (ok.gl hp.2) gC (l_cons (he.pe X Wh ok tk) l_nil hst) (plain_parts hp.1).1 hst) fun D0 σ H ⟨ρ, S, W, N, se, wl, sl, hw⟩ => ⟨ρ, S, W, N, se, wl, sl, ?_⟩
        have e2 : (fun (x : Sd.D) (S1 : Sto) => ∃ d, [x] = [d] ∧ W k (some d) ρ S1) = fun d S1 => W k (some d) ρ S1 := by
          funext x S1
          exact propext ⟨fun ⟨d, e, h⟩ => by cases e; exact h, fun h => ⟨x, rfl, h⟩⟩
        show wE Γ xe ρ S (fun x S1 => ∃ d, [x] = [d] ∧ W k (some d) ρ S1) W
        rw [e2]
        simp only [wZ] at hw
        exact hw
      · cases h
    · cases h
  · cases h
theorem tr_ok {b : List Stmt} {hs : List ExceptHandler} {p : Pos} {zs : List Z} {q : Nat × Nat × Nat} (hq : cHand c hs = some q) (hb : ZsOk Γ lev c b zs) : ZOk Γ lev c (.Try b hs [] [] p) (.tr zs q.1 q.2.1 q.2.2) := by
  unfold cHand at hq
  split at hq
  · rename_i x px n y py m pm pa ph
    split at hq
    · rename_i hc
      simp only [Bool.and_eq_true, decide_eq_true_eq] at hc
      obtain ⟨c1, c2, c3, c4, c5, rfl⟩ := hc
      split at hq
      · rename_i k i j ek ei ej
        split at hq
        · cases hq
        · rename_i hij
          cases hq
          intro X Wh ok s tk
          obtain ⟨z1, z2, z3⟩ := ok.F.cls x k ek
          have hl : X.env.kindOf m = some .local := by
            unfold Env.kindOf
            rw [ok.sc]
            exact isLoc_eq c4
          refine PS.imp (ps_try_keep (tb := fun W => LS X.K W (wZs Γ zs)) s.stk s.frm s.exn (by rw [ok.N]; exact ok.nd) (by rw [ok.N]; exact ixOf_get ei) hl (by rw [ok.N]; exact ixOf_get ej) (ok.can c5).1 (ok.can c5).2 (plain_parts c3).1 (plain_parts c3).2.1
            ⟨ok.gl c2, (plain_parts c1).1, .inl z3⟩ tk (fun W pn xe tw po => hb (X.tr pn xe) W (ok.tr pn xe) (s.tr po) tw)) fun D σ H ⟨ρ, S, W, N, se, wl, sl, h⟩ => ?_
          refine ⟨ρ, S, _, N, se, fun jj f ρ1 S1 w d σ1 H1 k1 se1 fl => ?_, sl, h⟩
          subst z1
          have f2 := ok.F.cfs.two jj k fl.kn z2
          refine ⟨subK jj k, f2.exm, fun hb2 a ha => ?_, fun hb2 => ?_⟩
          · rw [if_pos hb2] at w
            have sn : S1 a = none := se1.sto.free ha
            have so2 : StoOk X.K (upd H1 a (ExV (.ref (gaK X.K (clsN jj))) d a)) (S1.up a (.exc jj f)) := se1.sto.new ha ⟨d, upd_same, fl.sm (Sm.new ha)⟩
            have se2 := se1.at (Kp.new (o := ExV (.ref (gaK X.K (clsN jj))) d a) ha) so2
            have se3 := ((se2.set i (d := .ref a) (v := .ref a) rfl).set j (d := .ref a) (v := .ref a) rfl).unset i none
            have el : (((ρ1.set i (some (Sd.D.ref a))).set j (some (Sd.D.ref a))).set i none) = (ρ1.set j (some (Sd.D.ref a))).set i none := by
              rw [List.set_comm _ _ hij, List.set_set]
            rw [el] at se3
            exact sl.nx _ _ (w a sn) _ _ (k1.trans (Kp.new ha)) se3
          · rw [if_neg (by rw [hb2]; simp)] at w
            exact wl jj f ρ1 S1 w d σ1 H1 k1 se1 fl
      · cases hq
    · cases hq
  · cases hq
theorem tr2_ok {b : List Stmt} {hs : List ExceptHandler} {p : Pos} {zs : List Z} {q : Nat × Nat × Nat × Nat} (hq : cHand2 c hs = some q) (hb : ZsOk Γ lev c b zs) : ZOk Γ lev c (.Try b hs [] [] p) (.tr2 zs q.1 q.2.1 q.2.2.1 q.2.2.2) := by
  unfold cHand2 at hq
  split at hq
  · rename_i x px n y py m pm pa z pz kz pk pa2 ph
    split at hq
    · rename_i hc
      simp only [Bool.and_eq_true, decide_eq_true_eq] at hc
      obtain ⟨c1, c2, c3, c4, c5, c6, rfl⟩ := hc
      split at hq
      · rename_i k i j l ek ei ej el
        split at hq
        · cases hq
        · rename_i hij
          cases hq
          intro X Wh ok s tk
          obtain ⟨z1, z2, z3⟩ := ok.F.cls x k ek
          have hl : X.env.kindOf m = some .local := by
            unfold Env.kindOf
            rw [ok.sc]
            exact isLoc_eq c4
          refine PS.imp (ps_try_keep2 (tb := fun W => LS X.K W (wZs Γ zs)) s.stk s.frm s.exn (by rw [ok.N]; exact ok.nd) (by rw [ok.N]; exact ixOf_get ei) hl (by rw [ok.N]; exact ixOf_get ej) (ok.can c5).1 (ok.can c5).2 (by rw [ok.N]; exact ixOf_get el) (ok.can c6).1 (ok.can c6).2 (plain_parts c3).1 (plain_parts c3).2.1
            ⟨ok.gl c2, (plain_parts c1).1, .inl z3⟩ tk (fun W pn xe tw po => hb (X.tr pn xe) W (ok.tr pn xe) (s.tr po) tw)) fun D σ H ⟨ρ, S, W, N, se, wl, sl, h⟩ => ?_
          refine ⟨ρ, S, _, N, se, fun jj f ρ1 S1 w d σ1 H1 k1 se1 fl => ?_, sl, h⟩
          subst z1
          have f2 := ok.F.cfs.two jj k fl.kn z2
          refine ⟨subK jj k, f2.exm, fun hb2 a ha => ?_, fun hb2 => ?_⟩
          · rw [if_pos hb2] at w
            have sn : S1 a = none := se1.sto.free ha
            have so2 : StoOk X.K (upd H1 a (ExV (.ref (gaK X.K (clsN jj))) d a)) (S1.up a (.exc jj f)) := se1.sto.new ha ⟨d, upd_same, fl.sm (Sm.new ha)⟩
            have se2 := se1.at (Kp.new (o := ExV (.ref (gaK X.K (clsN jj))) d a) ha) so2
            have se3 := (((se2.set i (d := .ref a) (v := .ref a) rfl).set j (d := .ref a) (v := .ref a) rfl).set l (d := .non) (v := .non) rfl).unset i none
            have hil : i ≠ l := fun e => hij (.inr e)
            have el2 : ((((ρ1.set i (some (Sd.D.ref a))).set j (some (Sd.D.ref a))).set l (some .non)).set i none) = ((ρ1.set j (some (Sd.D.ref a))).set l (some .non)).set i none := by
              rw [List.set_comm _ _ (fun e => hij (.inl e) : i ≠ j), List.set_comm _ _ hil, List.set_set]
            rw [el2] at se3
            exact sl.nx _ _ (w a sn) _ _ (k1.trans (Kp.new ha)) se3
          · rw [if_neg (by rw [hb2]; simp)] at w
            exact wl jj f ρ1 S1 w d σ1 H1 k1 se1 fl
      · cases hq
    · cases hq
  · cases hq
theorem tr3_ok {b : List Stmt} {hs : List ExceptHandler} {p : Pos} {zs : List Z} {q : Nat × Nat × Nat × Nat × Str} (hq : cHand3 c hs = some q) (hb : ZsOk Γ lev c b zs) : ZOk Γ lev c (.Try b hs [] [] p) (.tr3 zs q.1 q.2.1 q.2.2.1 q.2.2.2.1 q.2.2.2.2) := by
  unfold cHand3 at hq
  split at hq
  · rename_i x px n y py m pm pa z pz t kt pt kz pk pa2 ph
    split at hq
    · rename_i hc
      simp only [Bool.and_eq_true, decide_eq_true_eq] at hc
      obtain ⟨c1, c2, c3, c4, c5, c6, rfl⟩ := hc
      split at hq
      · rename_i k i j l ek ei ej el
        split at hq
        · cases hq
        · rename_i hij
          cases hq
          intro X Wh ok s tk
          obtain ⟨z1, z2, z3⟩ := ok.F.cls x k ek
          have hl : X.env.kindOf m = some .local := by
            unfold Env.kindOf
            rw [ok.sc]
            exact isLoc_eq c4
          refine PS.imp (ps_try_keepG (t2 := tTup (tCons (tC (.str t)) tNil)) (tb := fun W => LS X.K W (wZs Γ zs)) s.stk s.frm s.exn (by rw [ok.N]; exact ok.nd) (by rw [ok.N]; exact ixOf_get ei) hl (by rw [ok.N]; exact ixOf_get ej) (ok.can c5).1 (ok.can c5).2 (by rw [ok.N]; exact ixOf_get el) (ok.can c6).1 (ok.can c6).2 (plain_parts c3).1 (plain_parts c3).2.1
            ⟨ok.gl c2, (plain_parts c1).1, .inl z3⟩ tk (fun Y _ => pe_tup (pa_cons pe_str pa_nil)) (fun σ H Q Q' hq h => ⟨h.1, fun p hp => hq _ _ (h.2 p hp)⟩) (fun _ => rfl) (fun W pn xe tw po => hb (X.tr pn xe) W (ok.tr pn xe) (s.tr po) tw)) fun D σ H ⟨ρ, S, W, N, se, wl, sl, h⟩ => ?_
          refine ⟨ρ, S, _, N, se, fun jj f ρ1 S1 w d σ1 H1 k1 se1 fl => ?_, sl, h⟩
          subst z1
          have f2 := ok.F.cfs.two jj k fl.kn z2
          refine ⟨subK jj k, f2.exm, fun hb2 a ha => ?_, fun hb2 => ?_⟩
          · rw [if_pos hb2] at w
            refine ⟨by rw [sizeLine_eq]; simp, fun p hp ha6 => ?_⟩
            have hpa : a ≠ p := fun z => by rw [← z, upd_same] at ha6; cases ha6
            have sn : S1 a = none := se1.sto.free ha
            have so1 : StoOk X.K (upd H1 p (.tup [.str t])) S1 := se1.sto.sm (Sm.new hp)
            have so2 : StoOk X.K (upd (upd H1 p (.tup [.str t])) a (ExV (.ref (gaK X.K (clsN jj))) d a)) (S1.up a (.exc jj f)) := so1.new ha6 ⟨d, upd_same, (fl.sm (Sm.new hp)).sm (Sm.new ha6)⟩
            have se2 := se1.at ((Kp.new (o := .tup [.str t]) hp).trans (Kp.new (o := ExV (.ref (gaK X.K (clsN jj))) d a) ha6)) so2
            have hat : (upd (upd H1 p (.tup [.str t])) a (ExV (.ref (gaK X.K (clsN jj))) d a)) p = some (.tup [.str t]) := by rw [upd_ne (fun z => hpa z.symm), upd_same]
            have se3 := (((se2.set i (d := .ref a) (v := .ref a) rfl).set j (d := .ref a) (v := .ref a) rfl).set l (d := .tup [.str t]) (v := .ref p) ⟨p, [.str t], rfl, .inl (.inl hat), ⟨.str t, [], rfl, rfl, rfl⟩⟩).unset i none
            have hil : i ≠ l := fun e => hij (.inr e)
            have el2 : ((((ρ1.set i (some (Sd.D.ref a))).set j (some (Sd.D.ref a))).set l (some (.tup [.str t]))).set i none) = ((ρ1.set j (some (Sd.D.ref a))).set l (some (.tup [.str t]))).set i none := by
              rw [List.set_comm _ _ (fun e => hij (.inl e) : i ≠ j), List.set_comm _ _ hil, List.set_set]
            rw [el2] at se3
            exact sl.nx _ _ (w a sn) _ _ (k1.trans ((Kp.new hp).trans (Kp.new ha6))) se3
          · rw [if_neg (by rw [hb2]; simp)] at w
            exact wl jj f ρ1 S1 w d σ1 H1 k1 se1 fl
      · cases hq
    · cases hq
  · cases hq
end
section
variable {Γ : Gam} {lev : Nat} (hlev : 2 ≤ lev)
include hlev
mutual
theorem cZ_ok : ∀ (st : Stmt) (c : SC) (all : List Nat) (z : Z), cZ c all st = some z → ZOk Γ lev c st z
  | .Assign tgs e p, c, all, z, h => by
    match tgs, h with
    | [tg], h =>
      simp only [cZ] at h
      exact asg_ok hlev h
    | [], h => simp [cZ] at h
    | _ :: _ :: _, h => simp [cZ] at h
  | .AugAssign tg o e p, c, all, z, h => by
    cases tg <;> (try (simp [cZ] at h; done))
    rename_i x px
    simp only [cZ] at h
    split at h
    · rename_i hc
      rw [Bool.and_eq_true] at hc
      split at h
      · rename_i i ei
        obtain ⟨v, h1, rfl⟩ := o1_some h
        have he := cE_ok (Γ := Γ) hlev e c v h1
        intro X Wh ok s tk
        exact s_aug (by cases o <;> first | exact .inl rfl | exact .inr rfl | (cases hc.1; done)) (by rw [ok.N]; exact ok.nd) (by rw [ok.N]; exact ixOf_get ei) (ok.can hc.2).1 (he.pe X Wh ok tk) (ok.can hc.2).2
      · cases h
    · cases h
  | .Expr e p, c, all, z, h => by
    simp only [cZ] at h
    split at h
    · cases h
    · rename_i hc
      obtain ⟨v, h1, rfl⟩ := o1_some h
      have he := cE_ok (Γ := Γ) hlev e c v h1
      intro X Wh ok s tk
      exact s_ex (he.pe X Wh ok tk) (sh_sw he.sh (by simpa using hc) _ _ _)
  | .Return o p, c, all, z, h => by
    cases o with
    | none =>
      simp only [cZ, Option.some.injEq] at h
      subst h
      intro X Wh ok s tk
      exact s_retN
    | some e =>
      simp only [cZ] at h
      obtain ⟨v, h1, rfl⟩ := o1_some h
      have he := cE_ok (Γ := Γ) hlev e c v h1
      intro X Wh ok s tk
      exact s_ret (he.pe X Wh ok tk)
  | .If t a b p, c, all, z, h => by
    simp only [cZ] at h
    obtain ⟨xt, za, zb, h1, h2, h3, rfl⟩ := o3_some h
    have ht := cE_ok (Γ := Γ) hlev t c xt h1
    have ha := cZs_ok a c all za h2
    have hb := cZs_ok b c all zb h3
    intro X Wh ok s tk
    exact s_if (ht.pt X Wh ok tk) (ha X Wh ok s tk) (hb X Wh ok s tk)
  | .While t b els p, c, all, z, h => by
    cases els with
    | cons => simp [cZ] at h
    | nil =>
      simp only [cZ] at h
      obtain ⟨xt, zb, h1, h3, rfl⟩ := o2_some h
      have ht := cE_ok (Γ := Γ) hlev t c xt h1
      have hb := cZs_ok b c all zb h3
      intro X Wh ok s tk
      exact s_while s.own (ht.pt X Wh ok tk) (hb X Wh ok s tk)
  | .For tg it b els p, c, all, z, h => by
    cases els with
    | cons => simp [cZ] at h
    | nil =>
      simp only [cZ] at h
      obtain ⟨t, i, zb, h1, h2, h3, rfl⟩ := o3_some h
      have ht := cT_ok (Γ := Γ) hlev tg c all t h1
      unfold cI at h2
      obtain ⟨h2, hk⟩ := chkT_some h2
      have hi : IOk Γ lev c it i := by
        split at h2
        · rename_i it2 er
          cases h2
          exact cR_ok hlev it c i er
        · obtain ⟨xi, h4, rfl⟩ := o1_some h2
          exact i_of (cE_ok hlev it c xi h4)
      have hb := cZs_ok b c all zb h3
      intro X Wh ok s tk
      exact s_for s.own ok.calm (hi.2 X Wh tg hk ok tk) (ht.2 X Wh ok tk) (hb X Wh ok s tk) (sh_fold hi.1 X.env)
  | .Raise a b p, c, all, z, h => by
    simp only [cZ] at h
    exact rz_ok hlev h
  | .Try b hs els fin p, c, all, z, h => by
    cases els with
    | cons => simp [cZ] at h
    | nil =>
      cases fin with
      | cons => simp [cZ] at h
      | nil =>
        simp only [cZ] at h
        split at h
        · rename_i q hq
          obtain ⟨zs, h1, rfl⟩ := o1_some h
          exact tr_ok hq (cZs_ok b c all zs h1)
        · split at h
          · rename_i q hq
            obtain ⟨zs, h1, rfl⟩ := o1_some h
            exact tr2_ok hq (cZs_ok b c all zs h1)
          · split at h
            · rename_i q hq
              obtain ⟨zs, h1, rfl⟩ := o1_some h
              exact tr3_ok hq (cZs_ok b c all zs h1)
            · cases h
  | .Pass p, c, all, z, h => by
    simp only [cZ, Option.some.injEq] at h
    subst h
    intro X Wh ok s tk
    exact s_pass
  | .Continue p, c, all, z, h => by
    simp only [cZ, Option.some.injEq] at h
    subst h
    intro X Wh ok s tk
    exact s_cont
  | .Break p, c, all, z, h => by
    simp only [cZ, Option.some.injEq] at h
    subst h
    intro X Wh ok s tk
    exact s_brk
  | .FunctionDef .., c, all, z, h | .AsyncFunctionDef .., c, all, z, h | .ClassDef .., c, all, z, h | .Delete .., c, all, z, h | .TypeAlias .., c, all, z, h | .AnnAssign .., c, all, z, h | .AsyncFor .., c, all, z, h | .With .., c, all, z, h | .AsyncWith .., c, all, z, h
  | .Match .., c, all, z, h | .TryStar .., c, all, z, h | .Assert .., c, all, z, h | .Import .., c, all, z, h | .ImportFrom .., c, all, z, h | .Global .., c, all, z, h | .Nonlocal .., c, all, z, h => by simp [cZ] at h
theorem cZs_ok : ∀ (ss : List Stmt) (c : SC) (all : List Nat) (zs : List Z), cZs c all ss = some zs → ZsOk Γ lev c ss zs
  | [], c, all, zs, h => by
    simp only [cZs, Option.some.injEq] at h
    subst h
    intro X Wh ok s tk
    exact s_nil
  | st :: ss, c, all, zs, h => by
    simp only [cZs] at h
    obtain ⟨z, zr, h1, h2, rfl⟩ := o2_some h
    have hz := cZ_ok st c all z h1
    have hr := cZs_ok ss c all zr h2
    intro X Wh ok s tk
    show PSs X (st :: ss) (LS X.K Wh fun N ρ S W => wZ Γ z { N with nx := fun ρ1 S1 => wZs Γ zr N ρ1 S1 W } ρ S W)
    exact s_cons (hz X Wh ok s tk) (hr X Wh ok s tk)
end
end
end Sd
namespace Sd
open PySem PySem.Spec PyProof.Rows L2
/-! ### a def keeps its contract -/
def startD (n : Nat) (ds : List D) : DSt := ds.map some ++ List.replicate (n - ds.length) none
def retE (P : PD) : DE := { nx := fun _ S => ∃ S', Sto.le S' S ∧ P .non S', rt := fun d S => ∃ S', Sto.le S' S ∧ P d S' }
def errW (W : FW) : AW := fun k f _ S => ∃ S', Sto.le S' S ∧ W k f S'
/-- what is to be shown of a body -/
def Meets (Γ : Gam) (n : Nat) (zs : List Z) (con : Con) : Prop := ∀ ds S P W, con ds S P W → wZs Γ zs (retE P) (startD n ds) S (errW W)
theorem start_sees {K : PySem.W.Frag} {H : Hp} {S : Sto} {N : List Str} {ds : List D} {vs : List V} (r : Rps K H ds vs) (s : StoOk K H S) : Sees K H (L2.start N vs) (startD N.length ds) S := by
  have hl := r.length
  refine ⟨by simp [startD, L2.start, hl], fun i d e => ?_, s⟩
  unfold startD at e
  unfold L2.start
  by_cases hi : i < ds.length
  · rw [List.getElem?_append_left (by simpa using hi), List.getElem?_map] at e
    cases q : ds[i]? with
    | none => rw [q] at e; cases e
    | some d' =>
      rw [q] at e
      cases e
      obtain ⟨v, h1, h2⟩ := r.get q
      exact ⟨v, by rw [List.getElem?_append_left (by rw [List.length_map, hl]; exact hi), List.getElem?_map, h1]; rfl, h2⟩
  · rw [List.getElem?_append_right (by simpa using hi), List.getElem?_replicate] at e
    split at e <;> cases e
structure DefOk (c : SC) (ps : List Str) (zs : List Z) (body : List Stmt) : Prop where
  sco : FnScope c.N ps c.sc
  all : c.st = fun _ => true
  com : cBody c body = some zs
theorem fn_ok {Γ : Gam} {lev : Nat} (hlev : 2 ≤ lev) {P : Program} {w : World} {K : PySem.W.Frag} {mg : Str → Option Value} {base : Heap} {x qual : Str} {params : Arguments} {body : List Stmt} {c : SC} {ps : List Str} {zs : List Z} {dvs : List V} {kws : List (Str × V)} {f : Addr} {fd : FuncData} {con : Con}
    (F : FunD K x qual params body c.sc dvs kws f fd) (dk : DefOk c ps zs body) (fx : Fx Γ lev c P w K mg base)
    (rz : ∀ x k, c.cls.lookup x = some k → plainC k = true → PySem.W.excIn K (gaK K (clsN k)) [.type "ValueError", .type "Exception", .type "BaseException", .type "object"] "ValueError.__new__" = true ∧ PySem.W.keepIn K (.ref (gaK K (clsN k))) = true ∧
      PySem.W.subIn K (.ref (gaK K (clsN k))) (.type "BaseException") = some true ∧ PySem.W.typeIn K (.ref (gaK K (clsN k))) = some (.type "type"))
    (ini : ∀ x k, c.rzs.lookup x = some k → clsN k = x ∧ IniOk P w K mg base k)
    (hm : Meets Γ c.N.length zs con) : FnOk P w K mg base (L2.CX P w) (lev + 1) f fd ps (spOf K ps.length con) := by
  refine F.ok dk.sco (fun vs H Q E h => h.1) (fun cdv A outer s H vs Q E hr h => ?_)
  have X := cxOf (L2.CX P w) P w K mg base c.N qual c.sc f cdv A outer s H E
  let Wh : WX := fun cls d _ H' => E cls d H'
  have ok : XOk Γ lev c (cxOf (L2.CX P w) P w K mg base c.N qual c.sc f cdv A outer s H E) := ⟨rfl, dk.sco.nd, rfl, fun _ _ => rfl, rfl, hr, fx⟩
  have tk : Takes (cxOf (L2.CX P w) P w K mg base c.N qual c.sc f cdv A outer s H E) Wh := takes_of rfl rfl rfl rfl
  have xs : XS Γ c (cxOf (L2.CX P w) P w K mg base c.N qual c.sc f cdv A outer s H E) := ⟨dk.sco.kind, rfl, rfl, rfl, PassesOwn.leaving, rz, ini⟩
  refine ⟨_, cZs_ok hlev body c _ zs dk.com _ Wh ok xs tk, ?_⟩
  obtain ⟨hl, ds, S, Pd, W, rd, so, pl, fl, hc⟩ := h
  refine ⟨startD c.N.length ds, S, errW W, retE Pd, start_sees rd so, fun k f' ρ S1 ⟨S2, le, w2⟩ d σ H' k1 se fd' => fl k f' S2 w2 d H' k1 (se.sto.le le) fd', ⟨fun ρ S1 ⟨S2, le, p2⟩ σ H' k1 se => pl .non S2 p2 _ H' k1 (se.sto.le le) rfl, fun d S1 ⟨S2, le, p2⟩ v H' k1 so1 r1 => pl d S2 p2 v H' k1 (so1.le le) r1, fun _ _ q => q.elim, fun _ _ q => q.elim⟩, hm ds S Pd W hc⟩
end Sd
namespace Sd
open PySem PySem.Spec PyProof.Rows L2
/-! ### the facts of the written part, as one Bool -/
def eqF (a b : Option (Option Value)) : Bool := decide (a = b)
def knB (K : PySem.W.Frag) (k : Nat) : Bool := eqF (PySem.W.nsIn K mainGlobals (clsN k)) (some (some (.ref (gaK K (clsN k)))))
def excB (K : PySem.W.Frag) (C : Addr) : Bool :=
  eqF (PySem.W.findIn K (.ref C) "__getattribute__") (some (some (.builtin "BaseException.__getattribute__"))) && (eqF (PySem.W.findIn K (.ref C) "__getattr__") (some none) && (decide (PySem.W.subIn K (.ref C) (.type "BaseException") = some true) && (PySem.W.hasDictIn K C &&
    (eqF (PySem.W.findIn K (.ref C) "__class__") (some (some (.builtin "object.__class__"))) && (eqF (PySem.W.specialIn K (.builtin "object.__class__") "__get__") (some (some (.builtin "getset_descriptor.__get__"))) && (decide (PySem.W.takesIn K (.builtin "object.__class__") = some true) && decide (PySem.W.mroIn K C (.type "object") = some true)))))))
theorem excB_ok {K : PySem.W.Frag} {C : Addr} (h : excB K C = true) : ExcC K C := by
  unfold excB eqF at h
  simp only [Bool.and_eq_true, decide_eq_true_eq] at h
  obtain ⟨h1, h2, h3, h4, h5, h6, h7, h8⟩ := h
  exact ⟨h1, h2, h3, h4, h5, h6, h7, h8⟩
def cfB (K : PySem.W.Frag) (k : Nat) : Bool :=
  excB K (gaK K (clsN k)) && (eqF (PySem.W.findIn K (.ref (gaK K (clsN k))) (fldN k)) (some none) && (btNames.all (fun n => decide (PySem.W.kitOne K (.ref (gaK K (clsN k))) (.type n) = some (n == "ValueError"))) && btKinds.all (fun b => decide (PySem.W.kitOne K (.type b) (.ref (gaK K (clsN k))) = some false))))
theorem cfB_ok {K : PySem.W.Frag} {k : Nat} (h : cfB K k = true) : CF K k := by
  unfold cfB eqF at h
  simp only [Bool.and_eq_true, decide_eq_true_eq, List.all_eq_true] at h
  exact ⟨excB_ok h.1, h.2.1, h.2.2.1, h.2.2.2⟩
def cf2B (K : PySem.W.Frag) (j k : Nat) : Bool := decide (PySem.W.exmOne K (.ref (gaK K (clsN j))) (.ref (gaK K (clsN k))) = some (subK j k)) && decide (PySem.W.kitOne K (.ref (gaK K (clsN j))) (.ref (gaK K (clsN k))) = some (subK j k))
/-- the classes that stand in the text are those of the list -/
def clsB (L : List Nat) (K : PySem.W.Frag) : Bool := (List.range 18).all (fun k => L.contains k || !knB K k) && (L.all (fun k => decide (k < 18) && (knB K k && cfB K k)) && L.all fun j => L.all fun k => cf2B K j k)
theorem clsB_ok {L : List Nat} {K : PySem.W.Frag} (h : clsB L K = true) : CFs K ∧ ∀ k, k ∈ L → Kn K k := by
  unfold clsB at h
  simp only [Bool.and_eq_true, List.all_eq_true, decide_eq_true_eq, Bool.or_eq_true, Bool.not_eq_true', List.mem_range] at h
  obtain ⟨h1, h2, h3⟩ := h
  have inL : ∀ k, Kn K k → k ∈ L := fun k kn => by
    rcases h1 k kn.1 with z | z
    · simpa using z
    · have e : knB K k = true := by
        unfold knB eqF
        exact decide_eq_true kn.2
      rw [e] at z
      cases z
  refine ⟨⟨fun k kn => cfB_ok (h2 k (inL k kn)).2.2, fun j k kj kk => ?_⟩, fun k hk => ⟨(h2 k hk).1, ?_⟩⟩
  · have z := h3 j (inL j kj) k (inL k kk)
    unfold cf2B at z
    simp only [Bool.and_eq_true, decide_eq_true_eq] at z
    exact ⟨z.1, z.2⟩
  · have z := (h2 k hk).2.1
    unfold knB eqF at z
    exact of_decide_eq_true z
def rzB (L : List Nat) (K : PySem.W.Frag) : Bool := L.all fun k => !plainC k || (PySem.W.excIn K (gaK K (clsN k)) [.type "ValueError", .type "Exception", .type "BaseException", .type "object"] "ValueError.__new__" && (PySem.W.keepIn K (.ref (gaK K (clsN k))) &&
    (decide (PySem.W.subIn K (.ref (gaK K (clsN k))) (.type "BaseException") = some true) && decide (PySem.W.typeIn K (.ref (gaK K (clsN k))) = some (.type "type")))))
/-- the class at C is made over ValueError, its instances have a dict -/
def oexB (K : PySem.W.Frag) (C : Addr) : Bool := (match K.lookup C with
    | some ⟨.type "type", _, .cls cc, ss⟩ => (match cc.mro, ss.toList with
      | .ref C1 :: ms, [_, _, _, _, some (.builtin nw), _] => decide (C1 = C) && (decide (nw = "ValueError.__new__") && (cc.hasDict && (!cc.hasDel && PySem.HandSPX.refsVE ms)))
      | _, _ => false)
    | _ => false) && (eqF (PySem.W.findIn K (.ref C) "__setattr__") (some (some (.builtin "object.__setattr__"))) && (decide (PySem.W.subIn K (.ref C) (.type "BaseException") = some true) && (decide (PySem.W.typeIn K (.ref C) = some (.type "type")) && PySem.W.keepIn K (.ref C))))
theorem oexB_ok {K : PySem.W.Frag} {C : Addr} (h : oexB K C = true) : OexC K C := by
  unfold oexB eqF at h
  simp only [Bool.and_eq_true, decide_eq_true_eq] at h
  obtain ⟨h0, h1, h2, h3, h4⟩ := h
  refine ⟨?_, h1, h2, h3, h4⟩
  split at h0
  · rename_i dd cc ss ho
    split at h0
    · rename_i C1 ms q0 q1 q2 q3 nw q5 hm hs
      simp only [Bool.and_eq_true, decide_eq_true_eq, Bool.not_eq_true'] at h0
      obtain ⟨rfl, rfl, z1, z2, z3⟩ := h0
      obtain ⟨y1, y2, y3, y4, y5, y6, y7, y8, y9, y10, y11⟩ := cc
      dsimp only at hm z1 z2
      subst hm z1 z2
      have hss : ss = #[q0, q1, q2, q3, some (.builtin "ValueError.__new__"), q5] := by
        obtain ⟨l⟩ := ss
        simp only at hs
        rw [hs]
      subst hss
      exact ⟨y1, y5, y4, y2, ms, y7, y8, y9, y10, dd, q0, q1, q2, q3, q5, ho, z3⟩
    · cases h0
  · cases h0
/-- its own __init__ stands there -/
def iniB (K : PySem.W.Frag) (k : Nat) : Bool := oexB K (gaK K (clsN k)) && (eqF (PySem.W.findIn K (.ref (gaK K (clsN k))) "__init__") (some (some (.ref (He.ma K (gaK K (clsN k)) "__init__")))) && decide (PySem.W.typeIn K (.ref (He.ma K (gaK K (clsN k)) "__init__")) = some (.type "function")))
/-- no list is written, the built-ins are free -/
def plainB (free : List Str) (K : PySem.W.Frag) : Bool := (K.all fun p => !decide (p.2.cls = .type "list")) && free.all fun x => eqF (PySem.W.nsIn K mainGlobals x) (some none)
def gloB (xs : List Str) (K : PySem.W.Frag) : Bool := xs.all fun x => eqF (PySem.W.nsIn K mainGlobals x) (some (some (.ref (gaK K x))))
/-- the whole look -/
def lookB (L : List Nat) (xs : List Str) (more : PySem.W.Frag → Bool) (K : PySem.W.Frag) : Bool := clsB L K && (rzB L K && (plainB bltAll K && (gloB xs K && more K)))
def obsX (ex : PySem.W.Frag → Bool) (fn : List He.DefD) (K : PySem.W.Frag) : He.AlD := (ex K && fn.all fun d => d.ok K, fn.map fun d => He.fnW K d.at_)
def valX (fn : List He.DefD) : He.AlD := (true, fn.map He.DefD.val)
def obsXG (n : Nat) (ex : PySem.W.Frag → Bool) (fn : List He.DefD) (g : Addr → Option Obj) : He.AlD := obsX ex fn (He.frG g (He.asD g n))
def hookX (n : Nat) (ex : PySem.W.Frag → Bool) (fn : List He.DefD) : PySem.W.Hook where
  α := He.AlD
  obs := fun s => obsXG n ex fn s.heap.get?
  val := fun _ => valX fn
  says := fun _ h => ∃ K : PySem.W.Frag, K.In h ∧ obsX ex fn K = valX fn
  of := fun _ _ e => ⟨_, He.frG_in, e⟩
  keeps := fun _ _ _ ⟨K, hK, c⟩ k => ⟨K, hK.keeps k, c⟩
theorem obsXG_eq {n : Nat} {ex : PySem.W.Frag → Bool} {fn : List He.DefD} {g : Addr → Option Obj} {s : Shared} (h : ∀ a, g a = s.heap.get? a) : obsXG n ex fn g = (hookX n ex fn).obs s := by
  have e : g = s.heap.get? := funext h
  rw [e]
  rfl
section
variable {ex : PySem.W.Frag → Bool} {fn : List He.DefD} {K : PySem.W.Frag}
theorem says_ex (c : obsX ex fn K = valX fn) : ex K = true := by
  have z := congrArg Prod.fst c
  have z' : (ex K && fn.all fun d => d.ok K) = true := z
  exact (Bool.and_eq_true_iff.mp z').1
theorem says_def (c : obsX ex fn K = valX fn) (i : Nat) {d : He.DefD} (h : fn[i]? = some d) : ∃ fd, FunD K d.name d.qual d.params d.body d.scope (d.dvs K) (d.kws K) (He.fAd K d.at_) fd := by
  have z' : (ex K && fn.all fun d => d.ok K) = true := congrArg Prod.fst c
  have z2 := (Bool.and_eq_true_iff.mp z').2
  have e : fn.map (fun d => He.fnW K d.at_) = fn.map He.DefD.val := congrArg Prod.snd c
  have e2 : (fn.map fun d => He.fnW K d.at_)[i]? = (fn.map He.DefD.val)[i]? := by rw [e]
  rw [List.getElem?_map, List.getElem?_map, h] at e2
  exact He.DefD.funD (Option.some.inj e2) (List.all_eq_true.mp z2 d (List.mem_of_getElem? h))
end
/-! ### the end of a law -/
theorem sq_rd {K : PySem.W.Frag} {H : Hp} {a : Addr} {xs : List V} (hn : (K.all fun p => !decide (p.2.cls = .type "list")) = true) (h : SqL K H a xs) : Rd H a (.lst xs) := by
  rcases h with h | ⟨o, its, n, e, hc, _⟩
  · exact h
  · have m : (a, o) ∈ K := by
      clear hn
      induction K with
      | nil => cases e
      | cons p r ih =>
        obtain ⟨b, u⟩ := p
        have e' : (match a == b with | true => some u | false => List.lookup a r) = some o := e
        cases q : (a == b) with
        | true =>
          rw [q] at e'
          cases e'
          rw [beq_iff_eq.mp q]
          exact List.mem_cons_self
        | false =>
          rw [q] at e'
          exact List.mem_cons_of_mem _ (ih e')
    have z := List.all_eq_true.mp hn _ m
    simp [hc] at z
/-- what the law's contract is to be: at every script it gives True -/
def LawCon (con : Con) : Prop := ∀ (a : Addr) (w : Bool) (ns : List Int) (S : Sto), ns.length ≤ 63 → (∀ z ∈ ns, Builtin.Int.intBits z ≤ 1048576) → S a = some (.lst w (ns.map D.int)) → con [.ref a] S (fun d _ => d = .bl true) (fun _ _ _ => False)
theorem law_sp {K : PySem.W.Frag} {H : Hp} {a : Addr} {ns : List Int} {con : Con} (hn : (K.all fun p => !decide (p.2.cls = .type "list")) = true) (hl : ns.length ≤ 63) (hb : ∀ z ∈ ns, Builtin.Int.intBits z ≤ 1048576) (h : SqL K H a (ns.map V.int)) (hc : LawCon con) :
    spOf K 1 con [.ref a] H (fun v _ => v = .bl true) (fun _ _ _ => False) := by
  have hr := sq_rd hn h
  have key : ∀ w, OkO K H a (.lst w (ns.map D.int)) → spOf K 1 con [.ref a] H (fun v _ => v = .bl true) (fun _ _ _ => False) := fun w ok => by
    refine ⟨rfl, [.ref a], fun b => if b = a then some (.lst w (ns.map D.int)) else none, _, _, Rps.one rfl, fun b o e => ?_, fun d S p v H' _ _ r => ?_, fun _ _ _ q => q.elim, hc a w ns _ hl hb (if_pos rfl)⟩
    · dsimp only at e
      split at e
      · rename_i hb
        cases e
        rw [hb]
        exact ok
      · cases e
    · have p' : d = .bl true := p
      subst p'
      exact r
  rcases hr with hr | ⟨o, hr⟩
  · exact key true ⟨_, hr, rps_ints ns⟩
  · exact key false ⟨o, _, hr, rps_ints ns⟩
theorem walk_X {l : PySem.W.OpenLaw} {k : Nat} {q : Program} {loose : List Str} {XP : (Str → Option Value) → Heap → Prop} {YP : World → Heap → Prop} {d : DefRec} {x : Str}
    (hn : l.most = some 63) (hdf : d.params.defaults = []) (hr : Room k callerA)
    (F : ∀ (w : World) (mg : Str → Option Value) (fa : Addr) (h : Heap), YP w h → h.Ns mainGlobals mg → mg d.name = some (.ref fa) →
      ∃ (K : PySem.W.Frag) (fd : FuncData) (con : Con), K.In h ∧ (K.all fun p => !decide (p.2.cls = .type "list")) = true ∧ LawCon con ∧ (∀ (s : Shared) (u : Value), BindsTo s fd ⟨[u], []⟩ [(x, u)]) ∧
        ∀ base : Heap, K.In base → base.Ns mainGlobals mg → FnOk l.prog w K mg base (L2.CX l.prog w) k fa fd [x] (spOf K 1 con)) :
    PySem.W.WalkO q loose XP YP l.row.toRowW d [] (fun f vs => PySem.call f vs) := by
  refine Att.attach_callB hn hdf fun w s₀ s₁ mg mb fa o pm cd doc a vs ns G Y ho hd hcd hmg hobj hints hlen hbits hg => ?_
  obtain ⟨K, fd, con, KX, hno, hcon, hb, hF⟩ := F w mg fa _ Y G.T.g hmg
  refine law_call KX G.T.g G.T.b G.T.builtins G.T.nolimit hg hobj hints (Nat.le_trans hlen (by decide)) hr hF hb (fun H hO hS => law_sp hno hlen hbits hS hcon) fun H e s' hx => ?_
  obtain ⟨_, _, _, _, _, _, _, _, _, _, _, _, z⟩ := hx
  exact z
end Sd
namespace Sd
open PySem PySem.Spec PyProof.Rows L2
/-- a def by its name and number, at the level lev -/
def FnAt (Γ : Gam) (lev : Nat) (P : Program) (w : World) (K : PySem.W.Frag) (mg : Str → Option Value) (base : Heap) (p : Str × Nat) : Prop :=
  ∃ f fd ps, mg p.1 = some (.ref f) ∧ PySem.W.keepIn K (.ref f) = true ∧ Binds K fd ps [] ∧ FnOk P w K mg base (L2.CX P w) lev f fd ps (spOf K (Γ.ar p.2) (Γ.fn p.2))
section
variable {Γ : Gam} {lev : Nat} {P : Program} {w : World} {K : PySem.W.Frag} {mg : Str → Option Value} {base : Heap}
theorem FnAt.up {p : Str × Nat} {lev' : Nat} (h : FnAt Γ lev P w K mg base p) (hl : lev ≤ lev') : FnAt Γ lev' P w K mg base p := by
  obtain ⟨f, fd, ps, h1, h2, h3, h4⟩ := h
  exact ⟨f, fd, ps, h1, h2, h3, h4.mono hl⟩
theorem look_mem {α : Type} : ∀ {l : List (Str × α)} {x : Str} {k : α}, l.lookup x = some k → (x, k) ∈ l
  | [], _, _, h => by cases h
  | (y, j) :: r, x, k, h => by
    have h' : (match x == y with | true => some j | false => r.lookup x) = some k := h
    cases q : (x == y) with
    | true =>
      rw [q] at h'
      cases h'
      rw [beq_iff_eq.mp q]
      exact List.mem_cons_self
    | false =>
      rw [q] at h'
      exact List.mem_cons_of_mem _ (look_mem h')
/-- what the whole look tells -/
structure World' (L : List Nat) (xs : List Str) (more : PySem.W.Frag → Bool) (K : PySem.W.Frag) (mg : Str → Option Value) : Prop where
  cfs : CFs K
  kn : ∀ k, k ∈ L → Kn K k
  rz : ∀ k, k ∈ L → plainC k = true → PySem.W.excIn K (gaK K (clsN k)) [.type "ValueError", .type "Exception", .type "BaseException", .type "object"] "ValueError.__new__" = true ∧ PySem.W.keepIn K (.ref (gaK K (clsN k))) = true ∧
      PySem.W.subIn K (.ref (gaK K (clsN k))) (.type "BaseException") = some true ∧ PySem.W.typeIn K (.ref (gaK K (clsN k))) = some (.type "type")
  nol : (K.all fun p => !decide (p.2.cls = .type "list")) = true
  blt : ∀ x, x ∈ bltAll → mg x = none
  glo : ∀ x, x ∈ xs → mg x = some (.ref (gaK K x))
  more : more K = true
theorem look_ok {L : List Nat} {xs : List Str} {more : PySem.W.Frag → Bool} {h : Heap} (X : K.In h) (G : h.Ns mainGlobals mg) (c : lookB L xs more K = true) : World' L xs more K mg := by
  unfold lookB at c
  simp only [Bool.and_eq_true] at c
  obtain ⟨c1, c2, c3, c4, c5⟩ := c
  obtain ⟨a1, a2⟩ := clsB_ok c1
  unfold plainB eqF at c3
  unfold gloB eqF at c4
  simp only [Bool.and_eq_true, List.all_eq_true, decide_eq_true_eq] at c3 c4
  refine ⟨a1, a2, fun k hk hp => ?_, ?_, fun x hx => PySem.W.mg_none_of X G (c3.2 x hx), fun x hx => PySem.W.mg_of X G (c4 x hx), c5⟩
  · unfold rzB at c2
    have z := List.all_eq_true.mp c2 k hk
    rw [hp] at z
    simp only [Bool.not_true, Bool.false_or, Bool.and_eq_true, decide_eq_true_eq] at z
    exact z
  · exact List.all_eq_true.mpr c3.1
/-- the constants that a def reads -/
def CstAt (Γ : Gam) (K : PySem.W.Frag) (mg : Str → Option Value) (p : Str × Nat) : Prop := ∀ d, Γ.cst p.2 = some d → ∃ v u, mg p.1 = some u ∧ RelV v u ∧ ∀ H, Rp K H d v
theorem mk_fx {L : List Nat} {xs : List Str} {more : PySem.W.Frag → Bool} {c : SC} (W : World' L xs more K mg) (hf : ∀ p, p ∈ c.fns → FnAt Γ lev P w K mg base p) (hc : ∀ p, p ∈ c.css → CstAt Γ K mg p) (hk : (c.cls.all fun p => decide (clsN p.2 = p.1) && (L.contains p.2 && xs.contains p.1)) = true) :
    Fx Γ lev c P w K mg base where
  fn := fun x k e => hf (x, k) (look_mem e)
  cst := fun x k d e e2 => hc (x, k) (look_mem e) d e2
  blt := W.blt
  cls := fun x k e => by
    have z := List.all_eq_true.mp hk _ (look_mem e)
    simp only [Bool.and_eq_true, decide_eq_true_eq] at z
    obtain ⟨z1, z2, z3⟩ := z
    have e1 : clsN k = x := z1
    exact ⟨e1, W.kn k (by simpa using z2), W.glo x (by simpa using z3)⟩
  cfs := W.cfs
/-- a class whose __init__ keeps one argument in its field -/
theorem mk_ini {L : List Nat} {xs : List Str} {more : PySem.W.Frag → Bool} {ex : PySem.W.Frag → Bool} {fn : List He.DefD} {k : Nat} {me qual : Str} {params : Arguments} {body : List Stmt} {scope : Scope} (W : World' L xs more K mg) (says : obsX ex fn K = valX fn) (i : Nat)
    (hd : fn[i]? = some ⟨(clsN k, some "__init__"), "__init__", qual, params, body, scope, [], []⟩) (hs : FnScope [me, fldN k] [me, fldN k] scope) (hb0 : ∃ p1 p2 p3 p4, body = [.Assign [.Attribute (.Name me p1) (fldN k) p2] (.Name (fldN k) p3) p4])
    (hv : (scope.names.lookup me == some .local && (scope.names.lookup (fldN k) == some .local && (!(me == ("__debug__" : Str)) && (!(me == ("__classdict__" : Str)) && (!(fldN k == ("__debug__" : Str)) && !(fldN k == ("__classdict__" : Str))))))) = true) (hi : iniB K k = true) (hL : L.contains k = true) (hx : xs.contains (clsN k) = true)
    (hb : ∀ (kV doc pm : Value) (an : Option Addr) (cdv ct : Value) (us : List Value), us.length = [me, fldN k].length → bindArgs (PySem.W.fnOf "__init__" qual params body scope .none kV doc pm an cdv ct) ⟨us, []⟩ = pure ([me, fldN k].zip us)) : IniOk P w K mg base k := by
  obtain ⟨fd, F⟩ := says_def says i hd
  unfold iniB eqF at hi
  simp only [Bool.and_eq_true, decide_eq_true_eq] at hi
  obtain ⟨i1, i2, i3⟩ := hi
  have T := oexB_ok i1
  have kn := W.kn k (by simpa using hL)
  simp only [Bool.and_eq_true, beq_iff_eq, Bool.not_eq_true'] at hv
  obtain ⟨v1, v2, v3, v4, v5, v6⟩ := hv
  have F' : FunD K "__init__" qual params body scope [] [] (He.ma K (gaK K (clsN k)) "__init__") fd := F
  refine ⟨kn, W.glo _ (by simpa using hx), _, fd, [me, fldN k], T, i2, i3, ?_, F'.bindsN hb⟩
  refine F'.ok (k := 0) hs (fun vs H Q E h => ?_) (fun cdv A outer s H vs Q E hr h => ?_)
  · obtain ⟨a, y, rfl, _⟩ := h; rfl
  · obtain ⟨a, y, rfl, ha, hq⟩ := h
    obtain ⟨p1, p2, p3, p4, rfl⟩ := hb0
    refine ⟨_, pss_one (ps_ost (pe_var (i := 0) rfl (.inl v1) v3 v4) (pe_var (i := 1) rfl (.inl v2) v5 v6) rfl), ?_⟩
    exact ⟨y, rfl, .ref a, rfl, a, gaK K (clsN k), rfl, T, (W.cfs.one k kn).nof, .inl ⟨ha, fun dx hdx ne => hq dx hdx ne⟩⟩
theorem mk_fn {L : List Nat} {xs : List Str} {more : PySem.W.Frag → Bool} {ex : PySem.W.Frag → Bool} {fn : List He.DefD} {c : SC} {ps : List Str} {zs : List Z} {x : Str} {k : Nat} {params : Arguments} {body : List Stmt} {con : Con} (hlev : 2 ≤ lev) (W : World' L xs more K mg) (says : obsX ex fn K = valX fn) (i : Nat)
    (hd : fn[i]? = some ⟨(x, none), x, x, params, body, c.sc, [], []⟩) (dk : DefOk c ps zs body) (hf : ∀ p, p ∈ c.fns → FnAt Γ lev P w K mg base p) (hc : ∀ p, p ∈ c.css → CstAt Γ K mg p) (hk : (c.cls.all fun p => decide (clsN p.2 = p.1) && (L.contains p.2 && xs.contains p.1)) = true)
    (hx : xs.contains x = true) (hb : ∀ (kV doc pm : Value) (an : Option Addr) (cdv ct : Value) (us : List Value), us.length = ps.length → bindArgs (PySem.W.fnOf x x params body c.sc .none kV doc pm an cdv ct) ⟨us, []⟩ = pure (ps.zip us))
    (hi : ∀ p, p ∈ c.rzs → clsN p.2 = p.1 ∧ IniOk P w K mg base p.2) (ha : Γ.ar k = ps.length) (hcon : Γ.fn k = con) (hm : Meets Γ c.N.length zs con) : FnAt Γ (lev + 1) P w K mg base (x, k) := by
  obtain ⟨fd, F⟩ := says_def says i hd
  have F' : FunD K x x params body c.sc [] [] (He.fAd K (x, none)) fd := F
  have fx := mk_fx (Γ := Γ) (lev := lev) (P := P) (w := w) (base := base) W hf hc hk
  have ok := fn_ok hlev F' dk fx (fun y j e hp => by
    have z := List.all_eq_true.mp hk _ (look_mem e)
    simp only [Bool.and_eq_true, decide_eq_true_eq] at z
    exact W.rz j (by simpa using z.2.1) hp) (fun y j e => hi _ (look_mem e)) hm
  refine ⟨_, fd, ps, W.glo x (by simpa using hx), F'.kp, F'.bindsN hb, ?_⟩
  show FnOk P w K mg base (L2.CX P w) (lev + 1) (gaK K x) fd ps (spOf K (Γ.ar k) (Γ.fn k))
  rw [ha, hcon]
  exact ok
/-- the law itself -/
theorem mk_law {L : List Nat} {xs : List Str} {more : PySem.W.Frag → Bool} {ex : PySem.W.Frag → Bool} {fn : List He.DefD} {c : SC} {zs : List Z} {x px : Str} {params : Arguments} {body : List Stmt} {con : Con} (hlev : 2 ≤ lev) (W : World' L xs more K mg) (says : obsX ex fn K = valX fn) (i : Nat)
    (hd : fn[i]? = some ⟨(x, none), x, x, params, body, c.sc, [], []⟩) (dk : DefOk c [px] zs body) (hf : ∀ base, K.In base → base.Ns mainGlobals mg → ∀ p, p ∈ c.fns → FnAt Γ lev P w K mg base p) (hc : ∀ p, p ∈ c.css → CstAt Γ K mg p) (hk : (c.cls.all fun p => decide (clsN p.2 = p.1) && (L.contains p.2 && xs.contains p.1)) = true)
    (hx : xs.contains x = true) (hb : ∀ (kV doc pm : Value) (an : Option Addr) (cdv ct : Value) (us : List Value), us.length = [px].length → bindArgs (PySem.W.fnOf x x params body c.sc .none kV doc pm an cdv ct) ⟨us, []⟩ = pure ([px].zip us))
    (hi : c.rzs = []) (hm : Meets Γ c.N.length zs con) {fa : Addr} (hfa : mg x = some (.ref fa)) : ∃ fd : FuncData, (∀ (s : Shared) (u : Value), BindsTo s fd ⟨[u], []⟩ [(px, u)]) ∧ ∀ base : Heap, K.In base → base.Ns mainGlobals mg → FnOk P w K mg base (L2.CX P w) (lev + 1) fa fd [px] (spOf K 1 con) := by
  obtain ⟨fd, F⟩ := says_def says i hd
  have F' : FunD K x x params body c.sc [] [] (He.fAd K (x, none)) fd := F
  have e := hfa.symm.trans (W.glo x (by simpa using hx))
  cases e
  refine ⟨fd, fun s u => F'.bindsA hb s [u] rfl, fun base b1 b2 => ?_⟩
  have fx := mk_fx (Γ := Γ) (lev := lev) (P := P) (w := w) (base := base) W (hf base b1 b2) hc hk
  exact fn_ok hlev F' dk fx (fun y j e hp => by
    have z := List.all_eq_true.mp hk _ (look_mem e)
    simp only [Bool.and_eq_true, decide_eq_true_eq] at z
    exact W.rz j (by simpa using z.2.1) hp) (fun y j e => by rw [hi] at e; cases e) hm
end
end Sd
namespace Sd
open PySem
/-! ### equations for reckoning with the core -/
section
variable {S : Sto} {P : PD} {i j : Int} {x y d : D} {a b p : Addr} {w : Bool} {l m : List D} {s t : Str}
theorem q_add : opS .Add (.int i) (.int j) S P = P (.int (i + j)) S := rfl
theorem q_sub : opS .Sub (.int i) (.int j) S P = P (.int (i - j)) S := rfl
theorem q_mul : opS .Mult (.int i) (.int j) S P = (IntMulOk i j ∧ P (.int (i * j)) S) := rfl
theorem q_div : opS .FloorDiv (.int i) (.int j) S P = (DivOk j ∧ P (.int (i.fdiv j)) S) := rfl
theorem q_mod : opS .Mod (.int i) (.int j) S P = (j ≠ 0 ∧ P (.int (i.fmod j)) S) := rfl
theorem q_pow : opS .Pow (.int i) (.int j) S P = (L2.CPow i j ∧ P (.int (i ^ j.toNat)) S) := rfl
theorem q_cat : opS .Add (.ref a) (.ref b) S P = (match S a, S b with
    | some (.lst _ l), some (.lst _ m) => l.length + m.length ≤ sizeLine ∧ ∀ p, S p = none → P (.ref p) (S.up p (.lst true (l ++ m)))
    | _, _ => False) := rfl
theorem q_catT : opS .Add (.tup l) (.tup m) S P = (l.length + m.length ≤ sizeLine ∧ P (.tup (l ++ m)) S) := rfl
theorem q_lt : cmpS .Lt (.int i) (.int j) S P = P (.bl (decide (i < j))) S := rfl
theorem q_le : cmpS .LtE (.int i) (.int j) S P = P (.bl (decide (i ≤ j))) S := rfl
theorem q_gt : cmpS .Gt (.int i) (.int j) S P = P (.bl (decide (j < i))) S := rfl
theorem q_ge : cmpS .GtE (.int i) (.int j) S P = P (.bl (decide (j ≤ i))) S := rfl
theorem q_eq : cmpS .Eq (.int i) (.int j) S P = P (.bl (decide (i = j))) S := rfl
theorem q_ne : cmpS .NotEq (.int i) (.int j) S P = P (.bl (!decide (i = j))) S := rfl
theorem q_is : cmpS .Is x .non S P = P (.bl (isNo x)) S := by cases x <;> rfl
theorem q_isnt : cmpS .IsNot x .non S P = P (.bl (!isNo x)) S := by cases x <;> rfl
theorem q_eqT : cmpS .Eq (.tup l) y S P = (match pdS S (.tup l), pdS S y with
    | some p, some q => P (.bl (PyData.eqv p q)) S
    | _, _ => False) := by cases y <;> rfl
theorem q_neT : cmpS .NotEq (.tup l) y S P = (match pdS S (.tup l), pdS S y with
    | some p, some q => P (.bl (!PyData.eqv p q)) S
    | _, _ => False) := by cases y <;> rfl
theorem q_eqL : cmpS .Eq (.ref a) y S P = (match pdS S (.ref a), pdS S y with
    | some p, some q => P (.bl (PyData.eqv p q)) S
    | _, _ => lenS false (.ref a) y S P) := by cases y <;> rfl
theorem q_neL : cmpS .NotEq (.ref a) y S P = (match pdS S (.ref a), pdS S y with
    | some p, some q => P (.bl (!PyData.eqv p q)) S
    | _, _ => lenS true (.ref a) y S P) := by cases y <;> rfl
theorem q_eqS : cmpS .Eq (.str s) y S P = (match pdS S (.str s), pdS S y with
    | some p, some q => P (.bl (PyData.eqv p q)) S
    | _, _ => False) := by cases y <;> rfl
/-- a list against none -/
theorem q_neN {m : List D} {v : Bool} (e1 : S a = some (.lst w l)) (e2 : S b = some (.lst v [])) : cmpS .NotEq (.ref a) (.ref b) S P ↔ P (.bl (!l.isEmpty)) S ∨ cmpS .NotEq (.ref a) (.ref b) S P := ⟨.inr, fun h => h.elim (fun z => by
    rw [q_neL]
    have e3 : pdS S (.ref b) = some (PyData.list []) := by
      show (match S b with
        | some (.lst _ l) => (match pdWs (gL S 2) 12 l with
          | some ps => some (PyData.list ps)
          | none => none)
        | _ => none) = _
      rw [e2]
      rfl
    rw [e3]
    cases l with
    | nil =>
      have e4 : pdS S (.ref a) = some (PyData.list []) := by
        show (match S a with
          | some (.lst _ l) => (match pdWs (gL S 2) 12 l with
            | some ps => some (PyData.list ps)
            | none => none)
          | _ => none) = _
        rw [e1]
        rfl
      rw [e4]
      simp only [PyData.eqv, PyData.eqvAll]
      exact z
    | cons d l =>
      cases hp : pdS S (.ref a) with
      | none =>
        show lenS true (.ref a) (.ref b) S P
        unfold lenS
        simp only [e1, e2]
        exact ⟨by simp, z⟩
      | some p =>
        have hq : ∃ q qs, p = PyData.list (q :: qs) := by
          have hp' : (match S a with
            | some (.lst _ l) => (match pdWs (gL S 2) 12 l with
              | some ps => some (PyData.list ps)
              | none => none)
            | _ => none) = some p := hp
          rw [e1] at hp'
          dsimp only at hp'
          split at hp'
          · rename_i ps eps
            cases hp'
            unfold pdWs at eps
            split at eps
            · cases eps
              exact ⟨_, _, rfl⟩
            · cases eps
          · cases hp'
        obtain ⟨q, qs, rfl⟩ := hq
        simp only [PyData.eqv, PyData.eqvAll]
        exact z) id⟩
theorem q_in : cmpS .In x (.ref a) S P = (match pdS S x, pdS S (.ref a) with
    | some p, some (.list ps) => P (.bl (anyEq p ps)) S
    | _, _ => False) := by cases x <;> rfl
theorem q_notin : cmpS .NotIn x (.ref a) S P = (match pdS S x, pdS S (.ref a) with
    | some p, some (.list ps) => P (.bl (!anyEq p ps)) S
    | _, _ => False) := by cases x <;> rfl
theorem q_tb {k : Bool} : truB S (.bl k) = some k := rfl
theorem q_tn : truB S .non = some false := rfl
theorem q_ti : truB S (.int i) = some (i != 0) := rfl
theorem q_tt : truB S (.tup l) = some (!l.isEmpty) := rfl
theorem q_tl : truB S (.ref a) = (match S a with
    | some (.lst _ l) => some (!l.isEmpty)
    | _ => none) := rfl
theorem q_ixT : ixS (.tup l) (.int i) S P = (match L2.atI l i with
    | some d => P d S
    | none => False) := rfl
theorem q_ixL : ixS (.ref a) (.int i) S P = (match S a with
    | some (.lst _ l) => (match L2.atI l i with
      | some d => P d S
      | none => False)
    | _ => False) := rfl
theorem q_sl {lo hi : Option Int} : slS (.ref a) lo hi S P = (match S a with
    | some (.lst _ l) => ∀ p, S p = none → P (.ref p) (S.up p (.lst true (cutD l lo hi)))
    | _ => False) := rfl
theorem q_slT {lo hi : Option Int} : slS (.tup l) lo hi S P = P (.tup (cutD l lo hi)) S := rfl
theorem q_stL : stS (.ref a) none (-1) S P = (match S a with
    | some (.lst _ l) => ∀ p, S p = none → P (.ref p) (S.up p (.lst true l.reverse))
    | _ => False) := propext ⟨fun h => h.2.2, fun h => ⟨rfl, rfl, h⟩⟩
theorem q_stT {lo : Option Int} {k : Int} : stS (.tup l) lo k S P = (k ≠ 0 ∧ k ≠ 1 ∧ (pickT l lo k).length ≤ sizeLine ∧ P (.tup (pickT l lo k)) S) := rfl
theorem q_abs : biS .abs [.int i] S P = P (.int (i.natAbs : Int)) S := by
  have e : (if i < 0 then -i else i) = (i.natAbs : Int) := by split <;> omega
  show P (.int (if i < 0 then -i else i)) S = _
  rw [e]
theorem q_intI : biS .int [.int i] S P = P (.int i) S := rfl
theorem q_intB {k : Bool} : biS .int [.bl k] S P = P (.int (if k then 1 else 0)) S := rfl
theorem q_lenT : biS .len [.tup l] S P = P (.int l.length) S := rfl
theorem q_lenL : biS .len [.ref a] S P = (match seqD S (.ref a) with
    | some l => P (.int l.length) S
    | none => False) := by
  show (match seqD S (.ref a) with
    | some l => P (.int l.length) S
    | none => (match D.ref a with
      | .str z => z.length ≤ sizeLine ∧ P (.int z.length) S
      | _ => False)) = _
  cases seqD S (.ref a) <;> rfl
theorem q_min2 : biS .min2 [.int i, .int j] S P = P (.int (if j < i then j else i)) S := rfl
theorem q_max2 : biS .max2 [.int i, .int j] S P = P (.int (if j > i then j else i)) S := rfl
theorem q_append : meS .append (.ref a) [y] S P = (match S a with
    | some (.lst true l) => l.length < sizeLine ∧ P .non (S.up a (.lst true (l ++ [y])))
    | _ => False) := by
  show (match S a with
    | some (.lst true l) => (match ME.append, [y] with
      | .append, [y] => l.length < sizeLine ∧ P .non (S.up a (.lst true (l ++ [y])))
      | .pop0, [] => (match l[l.length - 1]? with
        | some y => P y (S.up a (.lst true l.dropLast))
        | none => False)
      | .reverse, [] => P .non (S.up a (.lst true l.reverse))
      | .clear, [] => P .non (S.up a (.lst true []))
      | .insert, [.int i, y] => l.length < sizeLine ∧ 0 ≤ i ∧ i < 2 ^ 63 ∧ P .non (S.up a (.lst true (l.take i.toNat ++ [y] ++ l.drop i.toNat)))
      | .extend, [.ref b] => (match S b with
        | some (.lst true m) => l.length + m.length ≤ sizeLine ∧ P .non (S.up a (.lst true (l ++ m)))
        | _ => False)
      | _, _ => False)
    | _ => False) = _
  rfl
theorem q_insert {e : S a = some (.lst true l)} : meS .insert (.ref a) [.int i, y] S P = (l.length < sizeLine ∧ 0 ≤ i ∧ i < 2 ^ 63 ∧ P .non (S.up a (.lst true (l.take i.toNat ++ [y] ++ l.drop i.toNat)))) := by
  simp only [meS, e]
theorem q_extend {e : S a = some (.lst true l)} {e2 : S b = some (.lst true m)} : meS .extend (.ref a) [.ref b] S P = (l.length + m.length ≤ sizeLine ∧ P .non (S.up a (.lst true (l ++ m)))) := by
  simp only [meS, e, e2]
theorem q_isL : isL S (.ref a) = (match S a with
    | some (.lst true _) => True
    | _ => False) := rfl
theorem q_seqT : seqD S (.tup l) = some l := rfl
theorem q_seqL : seqD S (.ref a) = (match S a with
    | some (.lst _ l) => some l
    | _ => none) := rfl
theorem q_lst : lstD S (.ref a) = (match S a with
    | some (.lst _ l) => some l
    | _ => none) := rfl
/-! ### places of written lists -/
theorem at0 : L2.atI (x :: l) 0 = some x := by
  unfold L2.atI L2.ixN
  simp
theorem at1 {x0 : D} : L2.atI (x0 :: x :: l) 1 = some x := by
  unfold L2.atI L2.ixN
  rw [if_pos (by omega), if_pos (by simp; omega)]
  rfl
theorem at2 {x0 x1 : D} : L2.atI (x0 :: x1 :: x :: l) 2 = some x := by
  unfold L2.atI L2.ixN
  rw [if_pos (by omega), if_pos (by simp; omega)]
  rfl
theorem at_nat {n : Nat} (h : n < l.length) : L2.atI l (n : Int) = some l[n] := L2.atI_nat (List.getElem?_eq_getElem h)
theorem ixn0 {n : Nat} : L2.ixN (n + 1) 0 = some 0 := by
  unfold L2.ixN
  rw [if_pos (by omega), if_pos (by omega)]
  rfl
theorem ixn1 {n : Nat} : L2.ixN (n + 1 + 1) 1 = some 1 := by
  unfold L2.ixN
  rw [if_pos (by omega), if_pos (by omega)]
  rfl
theorem upup {o u : O} : (S.up a o).up a u = S.up a u := by
  funext b
  unfold Sto.up
  split <;> rfl
/-! ### == of pairs -/
theorem pd_int {n : Nat} {g : Addr → Option PyData} : pdW g n (.int i) = some (.int i) := by cases n <;> rfl
theorem pd_bl {n : Nat} {g : Addr → Option PyData} {k : Bool} : pdW g n (.bl k) = some (.bool k) := by cases n <;> rfl
theorem pd_non {n : Nat} {g : Addr → Option PyData} : pdW g n .non = some .none := by cases n <;> rfl
theorem pd_tup {n : Nat} {g : Addr → Option PyData} : pdW g (n + 1) (.tup l) = (match pdWs g n l with
    | some ps => some (.tuple ps)
    | none => none) := rfl
theorem pd_nil {n : Nat} {g : Addr → Option PyData} : pdWs g n [] = some [] := by cases n <;> rfl
theorem pd_cons {n : Nat} {g : Addr → Option PyData} : pdWs g n (x :: l) = (match pdW g n x, pdWs g n l with
    | some p, some ps => some (p :: ps)
    | _, _ => none) := rfl
theorem pds_tup : pdS S (.tup l) = (match pdWs (gL S 3) 11 l with
    | some ps => some (.tuple ps)
    | none => none) := by
  unfold pdS
  exact pd_tup
theorem pds_int : pdS S (.int i) = some (.int i) := pd_int
theorem pds_ref : pdS S (.ref a) = (match S a with
    | some (.lst _ l) => (match pdWs (gL S 2) 12 l with
      | some ps => some (.list ps)
      | none => none)
    | _ => none) := rfl
theorem ev_int : PyData.eqv (.int i) (.int j) = decide (i = j) := by
  simp only [PyData.eqv]
  by_cases z : i = j <;> simp [z]
theorem ev_tup {xs ys : List PyData} : PyData.eqv (.tuple xs) (.tuple ys) = PyData.eqvAll xs ys := by simp only [PyData.eqv]
theorem ev_cons {x y : PyData} {xs ys : List PyData} : PyData.eqvAll (x :: xs) (y :: ys) = (PyData.eqv x y && PyData.eqvAll xs ys) := by simp only [PyData.eqvAll]
theorem ev_nil : PyData.eqvAll [] [] = true := by simp only [PyData.eqvAll]
theorem ret_now (h : P d S) : (retE P).rt d S := ⟨S, Sto.le.refl S, h⟩
theorem ret_le {S' : Sto} (l : Sto.le S' S) (h : P d S') : (retE P).rt d S := ⟨S', l, h⟩
theorem err_now {W : FW} {k : Nat} {f : Option D} {ρ : DSt} (h : W k f S) : errW W k f ρ S := ⟨S, Sto.le.refl S, h⟩
/-- an if over a truth -/
theorem if_b {c : Prop} [Decidable c] {A B : Prop} (h1 : c → A) (h2 : ¬ c → B) : if decide c = true then A else B := by
  by_cases h : c
  · rw [if_pos (decide_eq_true h)]; exact h1 h
  · rw [if_neg (by simpa using h)]; exact h2 h
theorem if_nb {c : Prop} [Decidable c] {A B : Prop} (h1 : ¬ c → A) (h2 : c → B) : if (!decide c) = true then A else B := by
  by_cases h : c
  · rw [if_neg (by simpa using h)]; exact h2 h
  · rw [if_pos (by simpa using h)]; exact h1 h
theorem up_ls {p : Addr} {o : O} (h : S p = none) : Sto.le S (S.up p o) := (Sto.le.refl S).up h
end
end Sd
namespace Sd
open PySem
theorem up_oth {S : Sto} {a b : Addr} {o : O} (h : a ≠ b) : (S.up a o) b = S b := by
  unfold Sto.up
  rw [if_neg (fun e => h e.symm)]
theorem le_none {S S' : Sto} {p : Addr} (h : Sto.le S S') (n : S' p = none) : S p = none := by
  cases e : S p with
  | none => rfl
  | some o => rw [h p o e] at n; cases n
/-- a walk by an invariant that the walked list's place keeps -/
theorem for_inv {t : ATg} {b : AS} {src : Src} {N : DE} {W : AW} (R : DSt → Sto → Prop) (ok : ∀ ρ S, R ρ S → src.ok S) (fin : ∀ ρ S, R ρ S → N.nx ρ S)
    {ds : List D} (step : ∀ (F : DSt → Sto → Prop) d ρ S, d ∈ ds → R ρ S → (∀ ρ' S', R ρ' S' → F ρ' S') → t d ρ S (fun ρ1 S1 => b { nx := F, rt := N.rt, bk := N.nx, ct := F } ρ1 S1 W) W) :
    ∀ {ρ : DSt} {S : Sto}, R ρ S → forS t b src N W ds ρ S := by
  induction ds with
  | nil => exact fun {ρ S} h => ⟨ok ρ S h, fin ρ S h⟩
  | cons d ds ih =>
    intro ρ S h
    exact ⟨ok ρ S h, step _ d ρ S (by simp) h fun ρ' S' h' => ih (fun F d ρ S hd => step F d ρ S (by simp [hd])) h'⟩
/-- the laws' walk: for cell in [0] + script[:m] -/
theorem law_for {Γ : Gam} {m : Nat} {b : List Z} {N : DE} {W : AW} {ρ : DSt} {S : Sto} {a : Addr} {w : Bool} {ns : List Int} {i : Nat} (R : DSt → Prop) (hR : R ρ) (hl : ns.length ≤ 63) (h0 : lk ρ 0 = some (.ref a)) (e : S a = some (.lst w (ns.map D.int)))
    (fin : ∀ ρ S1, R ρ → Sto.le S S1 → N.nx ρ S1)
    (step : ∀ (Sb : Sto) (F : DSt → Sto → Prop) (c : Int) ρ S1, Sto.le S Sb → Sto.le Sb S1 → R ρ → (∀ ρ' S', R ρ' → Sto.le Sb S' → F ρ' S') → wZs Γ b { nx := F, rt := N.rt, bk := N.nx, ct := F } (ρ.set i (some (.int c))) S1 W) :
    wZ Γ (.for_ (.nm i) (.e (.op .Add (.ls [(.c (.int 0))]) (.sl (.var 0) (.c .non) (.aI (.c (.int m)))))) b) N ρ S W := by
  dsimp only [wZ, wI, wE, wEs, lk, partS]
  simp only [List.length_cons, List.length_nil, sizeLine_eq, Nat.reduceAdd, Nat.reduceLeDiff, true_and, h0]
  intro p1 n1
  have d1 : p1 ≠ a := fun x => by rw [x, e] at n1; cases n1
  simp only [q_sl, up_oth d1, e]
  intro p2 n2
  have d2 : p2 ≠ p1 := fun x => by rw [x, up_same] at n2; cases n2
  simp only [q_cat, up_same, up_oth d2]
  have hc : ∀ d, d ∈ [D.int 0] ++ cutD (ns.map D.int) none (some (m : Int)) → ∃ c, d = D.int c := by
    intro d hd
    rcases List.mem_append.mp hd with h | h
    · exact ⟨0, by simpa using h⟩
    · unfold cutD at h
      have := List.mem_of_mem_drop (List.mem_of_mem_take h)
      obtain ⟨c, _, hc⟩ := List.mem_map.mp this
      exact ⟨c, hc.symm⟩
  have hlen : ([D.int 0] : List D).length + (cutD (ns.map D.int) none (some (m : Int))).length ≤ sizeLine := by
    rw [sizeLine_eq]
    unfold cutD
    rw [List.length_take, List.length_drop, List.length_map]
    simp only [List.length_cons, List.length_nil]
    omega
  refine ⟨hlen, fun p3 n3 => ?_⟩
  generalize hit : [D.int 0] ++ cutD (ns.map D.int) none (some (m : Int)) = its at hc
  have l1 : Sto.le S (S.up p1 (.lst true [.int 0])) := up_ls n1
  have l2 := l1.trans (up_ls (o := .lst true (cutD (ns.map D.int) none (some (m : Int)))) n2)
  have l3 := l2.trans (up_ls (o := .lst true its) n3)
  generalize hSb : (((S.up p1 (.lst true [.int 0])).up p2 (.lst true (cutD (ns.map D.int) none (some (m : Int))))).up p3 (.lst true its)) = Sb at l3
  have hp : Sb p3 = some (.lst true its) := by rw [← hSb, up_same]
  refine for_inv (src := .lst p3 true its) (fun ρ S1 => R ρ ∧ Sto.le Sb S1) (fun ρ S1 h => h.2 _ _ hp) (fun ρ S1 h => fin ρ S1 h.1 (l3.trans h.2)) (fun F d ρ S1 hd h hF => ?_) ⟨hR, Sto.le.refl Sb⟩
  obtain ⟨c, rfl⟩ := hc d hd
  exact step Sb F c ρ S1 l3 h.2 h.1 (fun ρ' S' h1 h2 => hF ρ' S' ⟨h1, h2⟩)
end Sd
namespace Sd
open PySem
/-- a walk, by what is left of it -/
theorem for_ind {t : ATg} {b : AS} {src : Src} {N : DE} {W : AW} (R : List D → DSt → Sto → Prop) (ok : ∀ l ρ S, R l ρ S → src.ok S) (fin : ∀ ρ S, R [] ρ S → N.nx ρ S)
    (step : ∀ (F : DSt → Sto → Prop) d l ρ S, R (d :: l) ρ S → (∀ ρ' S', R l ρ' S' → F ρ' S') → t d ρ S (fun ρ1 S1 => b { nx := F, rt := N.rt, bk := N.nx, ct := F } ρ1 S1 W) W) :
    ∀ {ds : List D} {ρ : DSt} {S : Sto}, R ds ρ S → forS t b src N W ds ρ S
  | [], ρ, S, h => ⟨ok _ ρ S h, fin ρ S h⟩
  | d :: ds, ρ, S, h => ⟨ok _ ρ S h, step _ d ds ρ S h fun _ _ h' => for_ind R ok fin step h'⟩
/-- a list made, by what is left of its walk -/
theorem lc_ind {t : ATg} {cond : AT} {e : AE} {src : Src} {p : Addr} {ρ : DSt} {Pd : Sto → Prop} (R : List D → Sto → Prop) (ok : ∀ l S, R l S → src.ok S) (fin : ∀ S, R [] S → Pd S)
    (step : ∀ (F : Sto → Prop) d l S, R (d :: l) S → (∀ S', R l S' → F S') → t d ρ S (fun ρ1 S1 => cond ρ1 S1 (fun b S2 => if b = true then
      e ρ1 S2 (fun y S3 => match S3 p with
        | some (.lst true acc) => acc.length < sizeLine ∧ F (S3.up p (.lst true (acc ++ [y])))
        | _ => False) (fun _ _ _ _ => False)
      else F S2) (fun _ _ _ _ => False)) (fun _ _ _ _ => False)) : ∀ {ds : List D} {S : Sto}, R ds S → lcS t cond e src p ρ Pd ds S
  | [], S, h => ⟨ok _ S h, fin S h⟩
  | d :: ds, S, h => ⟨ok _ S h, step _ d ds S h fun _ h' => lc_ind R ok fin step h'⟩
section
variable {S : Sto} {P : PD} {i j k l : Int}
/-- pairs of numbers as data -/
theorem pd_pair {n : Nat} {g : Addr → Option PyData} : pdW g (n + 2) (.tup [.int i, .int j]) = some (.tuple [.int i, .int j]) := by
  simp only [pd_tup, pd_cons, pd_int, pd_nil]
theorem pds_pair : pdS S (.tup [.int i, .int j]) = some (.tuple [.int i, .int j]) := by
  unfold pdS
  exact pd_pair
theorem ev_pair : PyData.eqv (.tuple [.int i, .int j]) (.tuple [.int k, .int l]) = decide (i = k ∧ j = l) := by
  rw [ev_tup, ev_cons, ev_cons, ev_nil, ev_int, ev_int, Bool.and_true]
  by_cases h : i = k <;> by_cases h' : j = l <;> simp [h, h']
theorem q_eqP : cmpS .Eq (.tup [.int i, .int j]) (.tup [.int k, .int l]) S P = P (.bl (decide (i = k ∧ j = l))) S := by
  rw [q_eqT]
  simp only [pds_pair, ev_pair]
theorem q_neP : cmpS .NotEq (.tup [.int i, .int j]) (.tup [.int k, .int l]) S P = P (.bl (!decide (i = k ∧ j = l))) S := by
  rw [q_neT]
  simp only [pds_pair, ev_pair]
theorem pds_bl {b : Bool} : pdS S (.bl b) = some (.bool b) := pd_bl
theorem ev_bl {a b : Bool} : PyData.eqv (.bool a) (.bool b) = decide (a = b) := by
  simp only [PyData.eqv]
  cases a <;> cases b <;> rfl
theorem q_eqB {a b : Bool} : cmpS .Eq (.bl a) (.bl b) S P = P (.bl (decide (a = b))) S := by
  show (match pdS S (.bl a), pdS S (.bl b) with
    | some p, some q => P (.bl (PyData.eqv p q)) S
    | _, _ => False) = _
  simp only [pds_bl, ev_bl]
theorem q_neB {a b : Bool} : cmpS .NotEq (.bl a) (.bl b) S P = P (.bl (!decide (a = b))) S := by
  show (match pdS S (.bl a), pdS S (.bl b) with
    | some p, some q => P (.bl (!PyData.eqv p q)) S
    | _, _ => False) = _
  simp only [pds_bl, ev_bl]
end
/-- a choice over a truth -/
theorem mb_d {c : Prop} [Decidable c] {A B C : Prop} (h1 : c → A) (h2 : ¬ c → B) : match some (decide c) with
    | some true => A
    | some false => B
    | none => C := by
  by_cases h : c
  · rw [decide_eq_true h]; exact h1 h
  · rw [decide_eq_false h]; exact h2 h
theorem mb_n {c : Prop} [Decidable c] {A B C : Prop} (h1 : ¬ c → A) (h2 : c → B) : match some (!decide c) with
    | some true => A
    | some false => B
    | none => C := by
  by_cases h : c
  · rw [decide_eq_true h]; exact h2 h
  · rw [decide_eq_false h]; exact h1 h
/-- a suite in two -/
theorem wZs_append {Γ : Gam} {ys : List Z} {N : DE} {W : AW} : ∀ {xs : List Z} {ρ : DSt} {S : Sto}, wZs Γ (xs ++ ys) N ρ S W = wZs Γ xs { N with nx := fun ρ1 S1 => wZs Γ ys N ρ1 S1 W } ρ S W
  | [], ρ, S => rfl
  | z :: xs, ρ, S => by
    show wZ Γ z { N with nx := fun ρ1 S1 => wZs Γ (xs ++ ys) N ρ1 S1 W } ρ S W = wZ Γ z { N with nx := fun ρ1 S1 => wZs Γ xs { N with nx := fun ρ1 S1 => wZs Γ ys N ρ1 S1 W } ρ1 S1 W } ρ S W
    have e : (fun ρ1 S1 => wZs Γ (xs ++ ys) N ρ1 S1 W) = fun ρ1 S1 => wZs Γ xs { N with nx := fun ρ1 S1 => wZs Γ ys N ρ1 S1 W } ρ1 S1 W := by
      funext ρ1 S1
      exact wZs_append
    rw [e]
/-- a cut behind n statements: what holds there -/
theorem cut {Γ : Gam} (n : Nat) {zs : List Z} {N : DE} {W : AW} {ρ : DSt} {S : Sto} (J : DSt → Sto → Prop) (h1 : ∀ F : DSt → Sto → Prop, (∀ ρ S, J ρ S → F ρ S) → wZs Γ (zs.take n) { N with nx := F } ρ S W) (h2 : ∀ ρ S, J ρ S → wZs Γ (zs.drop n) N ρ S W) : wZs Γ zs N ρ S W := by
  rw [← List.take_append_drop n zs, wZs_append]
  exact h1 _ h2
/-! ### sizes -/
theorem mul_ok {i j : Int} {a b : Nat} (ha : i.natAbs < 2 ^ a) (hb : j.natAbs < 2 ^ b) (h0 : 0 < a) (h1 : 0 < b) (h : a + b ≤ 1000000) : IntMulOk i j := (L2.wide_mul ha hb h0 h1 h).ok
theorem mul_okR {i j : Int} (h : j.natAbs < 2 ^ 64) : IntMulOk i j := L2.CMul.ok (.inr ⟨by omega, by omega⟩)
theorem mul_okL {i j : Int} (h : i.natAbs < 2 ^ 64) : IntMulOk i j := L2.CMul.ok (.inl ⟨by omega, by omega⟩)
theorem div_ok {j : Int} {n : Nat} (h : j ≠ 0) (hn : j.natAbs < 2 ^ n) (h0 : 0 < n) (h9 : n ≤ 9000) : DivOk j := ⟨h, Nat.lt_of_lt_of_le (PySem.Flt.log2_lt_of h0 hn) h9⟩
/-- of at most n bits -/
def Bd (n : Nat) (x : Int) : Prop := x.natAbs < 2 ^ n
theorem Bd.mono {n m : Nat} {x : Int} (h : Bd n x) (l : n ≤ m) : Bd m x := Nat.lt_of_lt_of_le h (Nat.pow_le_pow_right (by decide) l)
theorem Bd.mul {n m : Nat} {x y : Int} (h : Bd n x) (k : Bd m y) : Bd (n + m) (x * y) := by
  unfold Bd at *
  rw [Int.natAbs_mul, Nat.pow_add]
  exact Nat.mul_lt_mul'' h k
theorem Bd.add {n : Nat} {x y : Int} (h : Bd n x) (k : Bd n y) : Bd (n + 1) (x + y) := by
  unfold Bd at *
  rw [Nat.pow_succ]
  omega
theorem Bd.sub {n : Nat} {x y : Int} (h : Bd n x) (k : Bd n y) : Bd (n + 1) (x - y) := by
  unfold Bd at *
  rw [Nat.pow_succ]
  omega
theorem Bd.neg {n : Nat} {x : Int} (h : Bd n x) : Bd n (0 - x) := by
  unfold Bd at *
  omega
theorem Bd.ok {n m : Nat} {x y : Int} (h : Bd n x) (k : Bd m y) (hl : n + m ≤ 999990) : IntMulOk x y :=
  mul_ok (a := n + 1) (b := m + 1) (h.mono (by omega)) (k.mono (by omega)) (by omega) (by omega) (by omega)
theorem Bd.dv {n : Nat} {x : Int} (h : Bd n x) (hx : x ≠ 0) (hl : n ≤ 8999) : DivOk x := div_ok (n := n + 1) hx (h.mono (by omega)) (by omega) (by omega)
theorem Bd.le {n : Nat} {x y : Int} (h : Bd n y) (l : x.natAbs ≤ y.natAbs) : Bd n x := Nat.lt_of_le_of_lt l h
end Sd
namespace Sd
open PySem
/-- law_take, number 0 -/
def z_law_take : List Z := [
  .asg (.ix (.var 0) (.c (.int 1))) (.op .Add (.ix (.var 0) (.c (.int 1))) (.c (.int 1))),
  .iff (.cmp .GtE (.ix (.var 0) (.c (.int 0))) (.op .Pow (.c (.int 10)) (.c (.int 18)))) [
    .asg (.nm 2) (.op .Sub (.op .FloorDiv (.ix (.var 0) (.c (.int 0))) (.op .Pow (.c (.int 10)) (.c (.int 18)))) (.c (.int 1))),
    .asg (.ix (.var 0) (.c (.int 0))) (.op .Mod (.ix (.var 0) (.c (.int 0))) (.op .Pow (.c (.int 10)) (.c (.int 18)))),
    .iff (.cmp .GtE (.var 2) (.var 1)) [
      .asg (.ix (.var 0) (.c (.int 0))) (.op .Add (.ix (.var 0) (.c (.int 0))) (.op .Mult (.op .Add (.op .FloorDiv (.var 2) (.var 1)) (.c (.int 1))) (.op .Pow (.c (.int 10)) (.c (.int 18)))))] [],
    .ret (.op .Mod (.var 2) (.var 1))] [],
  .asg (.nm 3) (.op .Mod (.op .Add (.op .Add (.op .Mult (.op .Mod (.ix (.var 0) (.c (.int 0))) (.c (.int 2147483629))) (.c (.int 48271))) (.op .Mult (.op .Mult (.c (.int 104729)) (.ix (.var 0) (.c (.int 1)))) (.ix (.var 0) (.c (.int 1))))) (.c (.int 17))) (.c (.int 2147483647))),
  .asg (.nm 3) (.op .Mod (.op .Mult (.var 3) (.op .Add (.op .Mod (.var 3) (.c (.int 65521))) (.c (.int 3)))) (.c (.int 2147483587))),
  .iff (.cmp .Gt (.var 1) (.op .Pow (.c (.int 10)) (.c (.int 8)))) [
    .asg (.nm 3) (.op .Mult (.op .Mult (.op .Mult (.var 3) (.var 3)) (.op .Add (.var 3) (.c (.int 104729)))) (.op .Add (.var 3) (.c (.int 7))))] [],
  .ret (.op .Mod (.op .FloorDiv (.var 3) (.c (.int 7))) (.var 1))]
/-- law_number, number 1 -/
def z_law_number : List Z := [
  .asg (.nm 1) (.fn 0 [(.var 0), (.c (.int 4))]),
  .iff (.cmp .Eq (.var 1) (.c (.int 0))) [
    .ret (.op .Sub (.fn 0 [(.var 0), (.c (.int 3))]) (.c (.int 1)))] [],
  .iff (.cmp .Eq (.var 1) (.c (.int 1))) [
    .ret (.op .Sub (.fn 0 [(.var 0), (.c (.int 25))]) (.c (.int 12)))] [],
  .iff (.cmp .Eq (.var 1) (.c (.int 2))) [
    .ret (.op .Sub (.fn 0 [(.var 0), (.op .Mult (.c (.int 2)) (.op .Pow (.c (.int 10)) (.c (.int 9))))]) (.op .Pow (.c (.int 10)) (.c (.int 9))))] [],
  .ret (.op .Add (.op .Sub (.fn 0 [(.var 0), (.op .Sub (.op .Mult (.c (.int 2)) (.op .Pow (.c (.int 10)) (.c (.int 30)))) (.c (.int 1)))]) (.op .Pow (.c (.int 10)) (.c (.int 30)))) (.c (.int 1)))]
/-- divisor, number 2 -/
def z_divisor : List Z := [
  .asg (.tp [(.nm 0), (.nm 1)]) (.tp [(.bi .abs [(.var 0)]), (.bi .abs [(.var 1)])]),
  .whl (.cmp .Gt (.var 1) (.c (.int 0))) [
    .asg (.tp [(.nm 0), (.nm 1)]) (.tp [(.var 1), (.op .Mod (.var 0) (.var 1))])],
  .ret (.var 0)]
/-- frac_of, number 3 -/
def z_frac_of : List Z := [
  .iff (.cmp .Eq (.var 1) (.c (.int 0))) [
    .rz 1] [],
  .asg (.nm 2) (.fn 2 [(.var 0), (.var 1)]),
  .iff (.cmp .Lt (.var 1) (.c (.int 0))) [
    .asg (.nm 2) (.op .Sub (.c (.int 0)) (.var 2))] [],
  .ret (.tp [(.op .FloorDiv (.var 0) (.var 2)), (.op .FloorDiv (.var 1) (.var 2))])]
/-- law_lowest, number 4 -/
def z_law_lowest : List Z := [
  .asg (.tp [(.nm 2), (.nm 3)]) (.tp [(.bi .abs [(.var 0)]), (.bi .abs [(.var 1)])]),
  .whl (.cmp .Gt (.var 3) (.c (.int 0))) [
    .asg (.tp [(.nm 2), (.nm 3)]) (.tp [(.var 3), (.op .Mod (.var 2) (.var 3))])],
  .iff (.cmp .Lt (.var 1) (.c (.int 0))) [
    .asg (.nm 2) (.op .Sub (.c (.int 0)) (.var 2))] [],
  .ret (.tp [(.op .FloorDiv (.var 0) (.var 2)), (.op .FloorDiv (.var 1) (.var 2))])]
/-- law_whole, number 5 -/
def z_law_whole : List Z := [
  .ret (.an (.isi (.var 0) [(.bt "int")]) (.no (.isi (.var 0) [(.bt "bool")])))]
/-- law_divides, number 6 -/
def z_law_divides : List Z := [
  .iff (.ro (.no (.fn 5 [(.var 0)])) (.cmp .Lt (.var 0) (.c (.int 0)))) [
    .ret (.c (.bl false))] [],
  .iff (.an (.cmp .Eq (.var 1) (.c (.int 0))) (.cmp .Eq (.var 2) (.c (.int 0)))) [
    .ret (.cmp .Eq (.var 0) (.c (.int 0)))] [],
  .iff (.ro (.cmp .Eq (.var 0) (.c (.int 0))) (.ro (.cmp .NotEq (.op .Mod (.var 1) (.var 0)) (.c (.int 0))) (.cmp .NotEq (.op .Mod (.var 2) (.var 0)) (.c (.int 0))))) [
    .ret (.c (.bl false))] [],
  .asg (.tp [(.nm 3), (.nm 4)]) (.tp [(.op .FloorDiv (.var 1) (.var 0)), (.op .FloorDiv (.var 2) (.var 0))]),
  .iff (.cmp .Eq (.var 4) (.c (.int 0))) [
    .ret (.cmp .Eq (.bi .abs [(.var 3)]) (.c (.int 1)))] [],
  .ret (.cmp .In (.fn 4 [(.var 3), (.var 4)]) (.ls [(.tp [(.var 3), (.var 4)]), (.tp [(.op .Sub (.c (.int 0)) (.var 3)), (.op .Sub (.c (.int 0)) (.var 4))])]))]
/-- law_refused, number 7 -/
def z_law_refused : List Z := [
  .asg (.nm 1) (.c .non),
  .tr [
    .ex (.fn 3 [(.var 0), (.c (.int 0))])] 0 2 1,
  .iff (.ro (.no (.isi (.var 1) [(.cl 1)])) (.no (.isi (.var 1) [(.bt "ValueError")]))) [
    .ret (.c (.bl false))] [],
  .ret (.no (.isi (.var 1) [(.cl 2), (.cl 3), (.cl 10)]))]
/-- law_is_frac, number 8 -/
def z_law_is_frac : List Z := [
  .iff (.ro (.no (.isi (.var 0) [(.bt "tuple")])) (.ro (.cmp .NotEq (.bi .len [(.var 0)]) (.c (.int 2))) (.ro (.no (.fn 5 [(.ix (.var 0) (.c (.int 0)))])) (.no (.fn 5 [(.ix (.var 0) (.c (.int 1)))]))))) [
    .ret (.c (.bl false))] [],
  .ret (.an (.cmp .Gt (.ix (.var 0) (.c (.int 1))) (.c (.int 0))) (.cmp .Eq (.fn 4 [(.ix (.var 0) (.c (.int 0))), (.ix (.var 0) (.c (.int 1)))]) (.var 0)))]
/-- law, number 9 -/
def z_law : List Z := [
  .for_ (.nm 1) (.e (.op .Add (.ls [(.c (.int 0))]) (.sl (.var 0) (.c .non) (.aI (.c (.int 40)))))) [
    .asg (.nm 2) (.ls [(.var 1), (.c (.int 0))]),
    .asg (.tp [(.nm 3), (.nm 4)]) (.tp [(.fn 1 [(.var 2)]), (.fn 1 [(.var 2)])]),
    .iff (.ro (.no (.fn 6 [(.fn 2 [(.var 3), (.var 4)]), (.var 3), (.var 4)])) (.no (.fn 6 [(.fn 2 [(.var 4), (.var 3)]), (.var 4), (.var 3)]))) [
      .ret (.c (.bl false))] [],
    .iff (.ro (.no (.fn 7 [(.var 3)])) (.no (.fn 6 [(.fn 2 [(.var 3), (.c (.int 0))]), (.var 3), (.c (.int 0))]))) [
      .ret (.c (.bl false))] [],
    .iff (.cmp .NotEq (.var 4) (.c (.int 0))) [
      .asg (.nm 5) (.fn 3 [(.var 3), (.var 4)]),
      .iff (.ro (.no (.fn 8 [(.var 5)])) (.cmp .NotEq (.op .Mult (.ix (.var 5) (.c (.int 0))) (.var 4)) (.op .Mult (.var 3) (.ix (.var 5) (.c (.int 1)))))) [
        .ret (.c (.bl false))] []] []],
  .ret (.c (.bl true))]
end Sd
namespace Sd
open PySem
/-- law_frac, number 10 -/
def z_law_frac : List Z := [
  .asg (.nm 1) (.fn 1 [(.var 0)]),
  .iff (.cmp .Eq (.var 1) (.c (.int 0))) [
    .asg (.nm 1) (.c (.int 1))] [],
  .ret (.fn 4 [(.fn 1 [(.var 0)]), (.var 1)])]
/-- quotient, number 11 -/
def z_quotient : List Z := [
  .iff (.cmp .Eq (.ix (.var 1) (.c (.int 0))) (.c (.int 0))) [
    .rz 1] [],
  .ret (.fn 3 [(.op .Mult (.ix (.var 0) (.c (.int 0))) (.ix (.var 1) (.c (.int 1)))), (.op .Mult (.ix (.var 0) (.c (.int 1))) (.ix (.var 1) (.c (.int 0))))])]
/-- law_refused_2, number 12 -/
def z_law_refused_2 : List Z := [
  .asg (.nm 1) (.c .non),
  .tr [
    .ex (.fn 11 [(.var 0), (.tp [(.c (.int 0)), (.c (.int 1))])])] 0 2 1,
  .ret (.an (.isi (.var 1) [(.cl 1)]) (.an (.isi (.var 1) [(.bt "ValueError")]) (.no (.isi (.var 1) [(.cl 2), (.cl 10)]))))]
/-- is_below, number 13 -/
def z_is_below : List Z := [
  .ret (.cmp .Lt (.op .Mult (.ix (.var 0) (.c (.int 0))) (.ix (.var 1) (.c (.int 1)))) (.op .Mult (.ix (.var 1) (.c (.int 0))) (.ix (.var 0) (.c (.int 1)))))]
/-- added, number 14 -/
def z_added : List Z := [
  .ret (.fn 3 [(.op .Add (.op .Mult (.ix (.var 0) (.c (.int 0))) (.ix (.var 1) (.c (.int 1)))) (.op .Mult (.ix (.var 1) (.c (.int 0))) (.ix (.var 0) (.c (.int 1))))), (.op .Mult (.ix (.var 0) (.c (.int 1))) (.ix (.var 1) (.c (.int 1))))])]
/-- lessened, number 15 -/
def z_lessened : List Z := [
  .ret (.fn 3 [(.op .Sub (.op .Mult (.ix (.var 0) (.c (.int 0))) (.ix (.var 1) (.c (.int 1)))) (.op .Mult (.ix (.var 1) (.c (.int 0))) (.ix (.var 0) (.c (.int 1))))), (.op .Mult (.ix (.var 0) (.c (.int 1))) (.ix (.var 1) (.c (.int 1))))])]
/-- multiplied, number 16 -/
def z_multiplied : List Z := [
  .ret (.fn 3 [(.op .Mult (.ix (.var 0) (.c (.int 0))) (.ix (.var 1) (.c (.int 0)))), (.op .Mult (.ix (.var 0) (.c (.int 1))) (.ix (.var 1) (.c (.int 1))))])]
/-- law_right, number 17 -/
def z_law_right : List Z := [
  .asg (.tp [(.tp [(.nm 2), (.nm 3)]), (.tp [(.nm 4), (.nm 5)])]) (.tp [(.var 0), (.var 1)]),
  .asg (.nm 6) (.ls [(.tp [(.fn 14 [(.var 0), (.var 1)]), (.op .Add (.op .Mult (.var 2) (.var 5)) (.op .Mult (.var 4) (.var 3))), (.op .Mult (.var 3) (.var 5))]), (.tp [(.fn 15 [(.var 0), (.var 1)]), (.op .Sub (.op .Mult (.var 2) (.var 5)) (.op .Mult (.var 4) (.var 3))), (.op .Mult (.var 3) (.var 5))])]),
  .ex (.me .append (.var 6) [(.tp [(.fn 16 [(.var 0), (.var 1)]), (.op .Mult (.var 2) (.var 4)), (.op .Mult (.var 3) (.var 5))])]),
  .iff (.cmp .NotEq (.var 4) (.c (.int 0))) [
    .ex (.me .append (.var 6) [(.tp [(.fn 11 [(.var 0), (.var 1)]), (.op .Mult (.var 2) (.var 5)), (.op .Mult (.var 3) (.var 4))])])] [],
  .for_ (.tp [(.nm 7), (.nm 8), (.nm 9)]) (.e (.var 6)) [
    .iff (.ro (.no (.fn 8 [(.var 7)])) (.cmp .NotEq (.op .Mult (.ix (.var 7) (.c (.int 0))) (.var 9)) (.op .Mult (.var 8) (.ix (.var 7) (.c (.int 1)))))) [
      .ret (.c (.bl false))] []],
  .asg (.nm 10) (.fn 13 [(.var 0), (.var 1)]),
  .ret (.an (.isi (.var 10) [(.bt "bool")]) (.cmp .Eq (.var 10) (.cmp .Lt (.op .Mult (.var 2) (.var 5)) (.op .Mult (.var 4) (.var 3)))))]
/-- sum_of, number 18 -/
def z_sum_of : List Z := [
  .asg (.nm 1) (.tp [(.c (.int 0)), (.c (.int 1))]),
  .for_ (.nm 2) (.e (.var 0)) [
    .asg (.nm 1) (.fn 14 [(.var 1), (.var 2)])],
  .ret (.var 1)]
/-- law_2, number 19 -/
def z_law_2 : List Z := [
  .for_ (.nm 1) (.e (.op .Add (.ls [(.c (.int 0))]) (.sl (.var 0) (.c .non) (.aI (.c (.int 30)))))) [
    .asg (.nm 2) (.ls [(.var 1), (.c (.int 0))]),
    .asg (.tp [(.nm 3), (.nm 4)]) (.tp [(.fn 10 [(.var 2)]), (.fn 10 [(.var 2)])]),
    .iff (.ro (.no (.fn 17 [(.var 3), (.var 4)])) (.ro (.no (.fn 17 [(.var 4), (.var 3)])) (.no (.fn 17 [(.var 3), (.var 3)])))) [
      .ret (.c (.bl false))] [],
    .iff (.no (.fn 12 [(.var 3)])) [
      .ret (.c (.bl false))] [],
    .asg (.nm 5) (.lc (.fn 10 [(.var 2)]) (.nm 6) (.rng1 (.fn 0 [(.var 2), (.c (.int 10))])) (.c (.bl true)) [6]),
    .asg (.nm 7) (.tp [(.c (.int 0)), (.c (.int 1))]),
    .for_ (.nm 8) (.e (.var 5)) [
      .asg (.nm 7) (.fn 4 [(.op .Add (.op .Mult (.ix (.var 7) (.c (.int 0))) (.ix (.var 8) (.c (.int 1)))) (.op .Mult (.ix (.var 8) (.c (.int 0))) (.ix (.var 7) (.c (.int 1))))), (.op .Mult (.ix (.var 7) (.c (.int 1))) (.ix (.var 8) (.c (.int 1))))])],
    .asg (.nm 9) (.bi .list [(.var 5)]),
    .iff (.ro (.cmp .NotEq (.fn 18 [(.var 9)]) (.var 7)) (.ro (.cmp .NotEq (.var 9) (.var 5)) (.no (.fn 8 [(.fn 18 [(.var 5)])])))) [
      .ret (.c (.bl false))] []],
  .ret (.c (.bl true))]
end Sd
namespace Sd
open PySem
/-- law_take_2, number 0 -/
def z_law_take_2 : List Z := [
  .asg (.ix (.var 0) (.c (.int 1))) (.op .Add (.ix (.var 0) (.c (.int 1))) (.c (.int 1))),
  .iff (.cmp .GtE (.ix (.var 0) (.c (.int 0))) (.op .Pow (.c (.int 10)) (.c (.int 18)))) [
    .asg (.nm 2) (.op .Sub (.op .FloorDiv (.ix (.var 0) (.c (.int 0))) (.op .Pow (.c (.int 10)) (.c (.int 18)))) (.c (.int 1))),
    .asg (.ix (.var 0) (.c (.int 0))) (.op .Mod (.ix (.var 0) (.c (.int 0))) (.op .Pow (.c (.int 10)) (.c (.int 18)))),
    .iff (.cmp .GtE (.var 2) (.var 1)) [
      .asg (.ix (.var 0) (.c (.int 0))) (.op .Add (.ix (.var 0) (.c (.int 0))) (.op .Mult (.op .Add (.op .FloorDiv (.var 2) (.var 1)) (.c (.int 1))) (.op .Pow (.c (.int 10)) (.c (.int 18)))))] [],
    .ret (.op .Mod (.var 2) (.var 1))] [],
  .asg (.nm 3) (.op .Mod (.op .Add (.op .Add (.op .Mult (.op .Mod (.ix (.var 0) (.c (.int 0))) (.c (.int 2147483629))) (.c (.int 48271))) (.op .Mult (.op .Mult (.c (.int 104729)) (.ix (.var 0) (.c (.int 1)))) (.ix (.var 0) (.c (.int 1))))) (.c (.int 17))) (.c (.int 2147483647))),
  .asg (.nm 3) (.op .Mod (.op .Mult (.var 3) (.op .Add (.op .Mod (.var 3) (.c (.int 65521))) (.c (.int 3)))) (.c (.int 2147483587))),
  .ret (.op .Mod (.op .FloorDiv (.var 3) (.c (.int 7))) (.var 1))]
/-- is_whole, number 21 -/
def z_is_whole : List Z := [
  .ret (.an (.isi (.var 0) [(.bt "int")]) (.no (.isi (.var 0) [(.bt "bool")])))]
/-- is_frac, number 22 -/
def z_is_frac : List Z := [
  .iff (.ro (.no (.isi (.var 0) [(.bt "tuple")])) (.ro (.cmp .NotEq (.bi .len [(.var 0)]) (.c (.int 2))) (.ro (.no (.fn 21 [(.ix (.var 0) (.c (.int 0)))])) (.no (.fn 21 [(.ix (.var 0) (.c (.int 1)))]))))) [
    .ret (.c (.bl false))] [],
  .ret (.an (.cmp .GtE (.ix (.var 0) (.c (.int 1))) (.c (.int 1))) (.cmp .Eq (.fn 2 [(.ix (.var 0) (.c (.int 0))), (.ix (.var 0) (.c (.int 1)))]) (.c (.int 1))))]
/-- law_spoiled, number 23 -/
def z_law_spoiled : List Z := [
  .asg (.tp [(.nm 2), (.nm 3)]) (.var 1),
  .asg (.nm 4) (.op .Add (.c (.int 2)) (.fn 0 [(.var 0), (.c (.int 9))])),
  .asg (.tp [(.nm 5), (.nm 6)]) (.tp [(.op .Mod (.var 2) (.op .Pow (.c (.int 10)) (.c (.int 28)))), (.op .Mod (.var 3) (.op .Pow (.c (.int 10)) (.c (.int 28))))]),
  .asg (.nm 7) (.ls [(.tp [(.op .Mult (.var 5) (.var 4)), (.op .Mult (.var 6) (.var 4))]), (.tp [(.var 2), (.op .Sub (.c (.int 0)) (.var 3))]), (.tp [(.op .Sub (.c (.int 0)) (.var 2)), (.op .Sub (.c (.int 0)) (.var 3))]), (.tp [(.var 2), (.c (.int 0))]), (.tp [(.c (.bl true)), (.var 3)]), (.tp [(.var 2), (.c (.bl true))])]),
  .asg (.nm 7) (.op .Add (.var 7) (.ls [(.tp [(.c .non), (.var 3)]), (.tp [(.var 2), (.c .non)]), (.tp [(.bi .str [(.var 4)]), (.var 3)]), (.tp [(.var 2), (.c (.str "1"))]), (.ls [(.var 2), (.var 3)]), (.tp [(.var 2)]), (.tp [(.var 2), (.var 3), (.c (.int 1))])])),
  .asg (.nm 7) (.op .Add (.var 7) (.ls [(.tp [(.tp [(.var 2), (.var 3)]), (.c (.int 1))]), (.tp [(.var 2), (.tp [(.var 3)])]), (.tp [(.var 2), (.c (.bl false))]), (.tp [(.tp []), (.var 3)]), (.tp [(.c (.int 0)), (.var 3)]), (.tp [(.op .Add (.var 5) (.var 6)), (.var 6)])])),
  .asg (.nm 7) (.op .Add (.var 7) (.ls [(.c .non), (.c (.bl true)), (.var 2), (.c (.str "1/2")), (.tp []), (.ls []), (.tp [(.var 2), (.ls [(.var 3)])])])),
  .ret (.ix (.var 7) (.fn 0 [(.var 0), (.bi .len [(.var 7)])]))]
/-- law_3, number 9 -/
def z_law_3 : List Z := [
  .for_ (.nm 1) (.e (.op .Add (.ls [(.c (.int 0))]) (.sl (.var 0) (.c .non) (.aI (.c (.int 40)))))) [
    .asg (.nm 2) (.ls [(.var 1), (.c (.int 0))]),
    .asg (.nm 3) (.fn 10 [(.var 2)]),
    .iff (.cmp .IsNot (.fn 22 [(.var 3)]) (.c (.bl true))) [
      .ret (.c (.bl false))] [],
    .for_ (.nm 4) (.rng1 (.c (.int 2))) [
      .asg (.nm 5) (.fn 23 [(.var 2), (.var 3)]),
      .asg (.nm 6) (.fn 22 [(.var 5)]),
      .asg (.nm 7) (.an (.isi (.var 5) [(.bt "tuple")]) (.an (.cmp .Eq (.bi .len [(.var 5)]) (.c (.int 2))) (.an (.fn 5 [(.ix (.var 5) (.c (.int 0)))]) (.fn 5 [(.ix (.var 5) (.c (.int 1)))])))),
      .iff (.var 7) [
        .asg (.nm 7) (.an (.cmp .Gt (.ix (.var 5) (.c (.int 1))) (.c (.int 0))) (.cmp .Eq (.fn 4 [(.ix (.var 5) (.c (.int 0))), (.ix (.var 5) (.c (.int 1)))]) (.var 5)))] [],
      .iff (.ro (.no (.isi (.var 6) [(.bt "bool")])) (.cmp .NotEq (.var 6) (.var 7))) [
        .ret (.c (.bl false))] []]],
  .ret (.c (.bl true))]
end Sd
namespace Sd
open PySem
/-- law_primes, number 24 -/
def z_law_primes : List Z := [
  .ret (.lc (.var 0) (.nm 0) (.rng2 (.c (.int 2)) (.c (.int 100))) (.cmp .Eq (.lc (.var 1) (.nm 1) (.rng2 (.c (.int 2)) (.var 0)) (.cmp .Eq (.op .Mod (.var 0) (.var 1)) (.c (.int 0))) [1]) (.ls [])) [0])]
/-- law_thing, number 25 -/
def z_law_thing : List Z := [
  .asg (.nm 2) (.ix (.var 1) (.fn 0 [(.var 0), (.bi .len [(.var 1)])])),
  .asg (.nm 3) (.ls [(.op .Sub (.fn 0 [(.var 0), (.c (.int 114))]) (.c (.int 3))), (.fn 0 [(.var 0), (.op .Pow (.c (.int 10)) (.c (.int 30)))]), (.op .Sub (.c (.int 0)) (.var 2)), (.c (.bl true)), (.c (.bl false)), (.c .non), (.bi .str [(.var 2)])]),
  .asg (.nm 3) (.op .Add (.var 3) (.ls [(.ls [(.var 2)]), (.tp [(.var 2)])])),
  .ret (.ix (.var 3) (.fn 0 [(.var 0), (.bi .len [(.var 3)])]))]
/-- look_prime, number 26 -/
def z_look_prime : List Z := [
  .iff (.ro (.no (.fn 21 [(.var 0)])) (.cmp .NotIn (.var 0) (.g 0))) [
    .rz 2] []]
/-- times_in, number 27 -/
def z_times_in : List Z := [
  .asg (.nm 2) (.c (.int 0)),
  .whl (.cmp .Eq (.op .Mod (.var 0) (.var 1)) (.c (.int 0))) [
    .asg (.nm 0) (.op .FloorDiv (.var 0) (.var 1)),
    .aug 2 .Add (.c (.int 1))],
  .ret (.var 2)]
/-- power_in, number 28 -/
def z_power_in : List Z := [
  .ex (.fn 26 [(.var 1)]),
  .iff (.cmp .Eq (.ix (.var 0) (.c (.int 0))) (.c (.int 0))) [
    .ret (.c .non)] [],
  .ret (.op .Sub (.fn 27 [(.ix (.var 0) (.c (.int 0))), (.var 1)]) (.fn 27 [(.ix (.var 0) (.c (.int 1))), (.var 1)]))]
/-- law_refused_3, number 7 -/
def z_law_refused_3 : List Z := [
  .asg (.nm 3) (.c .non),
  .tr [
    .iff (.cmp .Eq (.var 2) (.c (.int 0))) [
      .ex (.fn 28 [(.var 0), (.var 1)])] [
      .ex (.fn 26 [(.var 1)])]] 0 4 3,
  .iff (.ro (.no (.isi (.var 3) [(.cl 2)])) (.no (.isi (.var 3) [(.bt "ValueError")]))) [
    .ret (.c (.bl false))] [],
  .ret (.no (.isi (.var 3) [(.cl 1), (.cl 6)]))]
/-- law_power, number 29 -/
def z_law_power : List Z := [
  .asg (.nm 3) (.c (.int 0)),
  .whl (.cmp .Eq (.op .Mod (.var 0) (.var 2)) (.c (.int 0))) [
    .asg (.nm 0) (.op .FloorDiv (.var 0) (.var 2)),
    .asg (.nm 3) (.op .Add (.var 3) (.c (.int 1)))],
  .whl (.cmp .Eq (.op .Mod (.var 1) (.var 2)) (.c (.int 0))) [
    .asg (.nm 1) (.op .FloorDiv (.var 1) (.var 2)),
    .asg (.nm 3) (.op .Sub (.var 3) (.c (.int 1)))],
  .ret (.var 3)]
/-- law_4, number 9 -/
def z_law_4 : List Z := [
  .asg (.nm 1) (.fn 24 []),
  .for_ (.nm 2) (.e (.op .Add (.ls [(.c (.int 0))]) (.sl (.var 0) (.c .non) (.aI (.c (.int 30)))))) [
    .asg (.nm 3) (.ls [(.var 2), (.c (.int 0))]),
    .asg (.nm 4) (.ix (.var 1) (.fn 0 [(.var 3), (.c (.int 25))])),
    .asg (.tp [(.nm 5), (.nm 6)]) (.fn 10 [(.var 3)]),
    .asg (.nm 7) (.op .Sub (.fn 0 [(.var 3), (.c (.int 21))]) (.c (.int 10))),
    .asg (.nm 8) (.c (.int 1)),
    .for_ (.nm 9) (.rng1 (.bi .abs [(.var 7)])) [
      .asg (.nm 8) (.op .Mult (.var 8) (.var 4))],
    .asg (.nm 10) (.op .Add (.op .Mod (.var 6) (.op .Pow (.c (.int 10)) (.c (.int 9)))) (.bi .int [(.cmp .Eq (.op .Mod (.var 6) (.op .Pow (.c (.int 10)) (.c (.int 9)))) (.c (.int 0)))])),
    .asg (.nm 11) (.fn 4 [(.op .Mult (.op .Mod (.var 5) (.op .Pow (.c (.int 10)) (.c (.int 9)))) (.var 8)), (.var 10)]),
    .iff (.cmp .Lt (.var 7) (.c (.int 0))) [
      .asg (.nm 11) (.fn 4 [(.op .Mod (.var 5) (.op .Pow (.c (.int 10)) (.c (.int 9)))), (.op .Mult (.var 10) (.var 8))])] [],
    .for_ (.nm 12) (.e (.ls [(.var 11), (.tp [(.var 5), (.var 6)])])) [
      .asg (.nm 13) (.fn 28 [(.var 12), (.var 4)]),
      .iff (.an (.cmp .Eq (.ix (.var 12) (.c (.int 0))) (.c (.int 0))) (.cmp .IsNot (.var 13) (.c .non))) [
        .ret (.c (.bl false))] [],
      .iff (.an (.cmp .NotEq (.ix (.var 12) (.c (.int 0))) (.c (.int 0))) (.ro (.no (.fn 5 [(.var 13)])) (.cmp .NotEq (.var 13) (.fn 29 [(.ix (.var 12) (.c (.int 0))), (.ix (.var 12) (.c (.int 1))), (.var 4)])))) [
        .ret (.c (.bl false))] []],
    .asg (.nm 14) (.fn 16 [(.var 11), (.var 11)]),
    .asg (.nm 15) (.fn 16 [(.var 14), (.var 14)]),
    .iff (.an (.cmp .NotEq (.ix (.var 11) (.c (.int 0))) (.c (.int 0))) (.cmp .NotEq (.ls [(.fn 28 [(.var 14), (.var 4)]), (.fn 28 [(.var 15), (.var 4)])]) (.ls [(.op .Mult (.c (.int 2)) (.fn 28 [(.var 11), (.var 4)])), (.op .Mult (.c (.int 4)) (.fn 28 [(.var 11), (.var 4)]))]))) [
      .ret (.c (.bl false))] [],
    .asg (.nm 16) (.fn 25 [(.var 3), (.var 1)]),
    .iff (.an (.fn 5 [(.var 16)]) (.cmp .In (.var 16) (.var 1))) [
      .iff (.ro (.cmp .IsNot (.fn 26 [(.var 16)]) (.c .non)) (.cmp .NotEq (.fn 28 [(.tp [(.var 16), (.c (.int 1))]), (.var 16)]) (.c (.int 1)))) [
        .ret (.c (.bl false))] []] [
      .iff (.ro (.no (.fn 7 [(.var 11), (.var 16), (.c (.int 0))])) (.no (.fn 7 [(.var 11), (.var 16), (.c (.int 1))]))) [
        .ret (.c (.bl false))] []]],
  .ret (.c (.bl true))]
end Sd
namespace Sd
open PySem
/-- law_part, number 30 -/
def z_law_part : List Z := [
  .asg (.nm 2) (.op .Add (.c (.int 1)) (.fn 0 [(.var 0), (.ix (.ls [(.c (.int 9)), (.op .Pow (.c (.int 10)) (.c (.int 14)))]) (.fn 0 [(.var 0), (.c (.int 2))]))])),
  .asg (.nm 3) (.op .Add (.c (.int 1)) (.fn 0 [(.var 0), (.ix (.ls [(.c (.int 9)), (.op .Pow (.c (.int 10)) (.c (.int 14)))]) (.fn 0 [(.var 0), (.c (.int 2))]))])),
  .asg (.nm 2) (.op .Mult (.var 2) (.ix (.ls [(.c (.int 1)), (.neg (.c (.int 1)))]) (.fn 0 [(.var 0), (.c (.int 2))]))),
  .asg (.nm 4) (.op .Sub (.fn 0 [(.var 0), (.c (.int 17))]) (.c (.int 8))),
  .for_ (.nm 5) (.rng1 (.var 4)) [
    .asg (.nm 2) (.op .Mult (.var 2) (.var 1))],
  .for_ (.nm 5) (.rng1 (.op .Sub (.c (.int 0)) (.var 4))) [
    .asg (.nm 3) (.op .Mult (.var 3) (.var 1))],
  .ret (.fn 4 [(.var 2), (.var 3)])]
/-- law_least, number 31 -/
def z_law_least : List Z := [
  .iff (.cmp .Eq (.ix (.var 0) (.c (.int 0))) (.c (.int 0))) [
    .ret (.cmp .Is (.fn 28 [(.var 0), (.var 1)]) (.c .non))] [],
  .asg (.nm 4) (.fn 28 [(.var 0), (.var 1)]),
  .ret (.an (.cmp .GtE (.var 4) (.bi .min2 [(.var 2), (.var 3)])) (.ro (.cmp .Eq (.var 4) (.bi .min2 [(.var 2), (.var 3)])) (.cmp .Eq (.var 2) (.var 3))))]
/-- law_5, number 9 -/
def z_law_5 : List Z := [
  .asg (.nm 1) (.fn 24 []),
  .for_ (.nm 2) (.e (.op .Add (.ls [(.c (.int 0))]) (.sl (.var 0) (.c .non) (.aI (.c (.int 30)))))) [
    .asg (.nm 3) (.ls [(.var 2), (.c (.int 0))]),
    .asg (.nm 4) (.ix (.var 1) (.fn 0 [(.var 3), (.c (.int 25))])),
    .asg (.tp [(.nm 5), (.nm 6)]) (.tp [(.fn 30 [(.var 3), (.var 4)]), (.fn 30 [(.var 3), (.var 4)])]),
    .asg (.tp [(.nm 7), (.nm 8)]) (.tp [(.fn 28 [(.var 5), (.var 4)]), (.fn 28 [(.var 6), (.var 4)])]),
    .iff (.ro (.cmp .NotEq (.fn 28 [(.fn 16 [(.var 5), (.var 6)]), (.var 4)]) (.op .Add (.var 7) (.var 8))) (.cmp .NotEq (.fn 28 [(.fn 11 [(.var 5), (.var 6)]), (.var 4)]) (.op .Sub (.var 7) (.var 8)))) [
      .ret (.c (.bl false))] [],
    .iff (.ro (.no (.fn 31 [(.fn 14 [(.var 5), (.var 6)]), (.var 4), (.var 7), (.var 8)])) (.no (.fn 31 [(.fn 15 [(.var 5), (.var 6)]), (.var 4), (.var 7), (.var 8)]))) [
      .ret (.c (.bl false))] [],
    .iff (.ro (.no (.fn 31 [(.fn 15 [(.var 5), (.var 5)]), (.var 4), (.var 7), (.var 7)])) (.no (.fn 31 [(.fn 14 [(.var 5), (.var 5)]), (.var 4), (.var 7), (.var 7)]))) [
      .ret (.c (.bl false))] []],
  .ret (.c (.bl true))]
end Sd
namespace Sd
open PySem
/-- law_spot, number 32 -/
def z_law_spot : List Z := [
  .ret (.tp [(.fn 10 [(.var 0)]), (.fn 10 [(.var 0)])])]
/-- law_thing_2, number 25 -/
def z_law_thing_2 : List Z := [
  .asg (.tp [(.nm 2), (.nm 3)]) (.var 1),
  .asg (.nm 4) (.op .Add (.c (.int 2)) (.fn 0 [(.var 0), (.c (.int 9))])),
  .asg (.nm 5) (.ls [(.tp [(.op .Mult (.op .Mod (.ix (.var 2) (.c (.int 0))) (.op .Pow (.c (.int 10)) (.c (.int 28)))) (.var 4)), (.op .Mult (.op .Mod (.ix (.var 2) (.c (.int 1))) (.op .Pow (.c (.int 10)) (.c (.int 28)))) (.var 4))]), (.tp [(.ix (.var 2) (.c (.int 0))), (.op .Sub (.c (.int 0)) (.ix (.var 2) (.c (.int 1))))]), (.tp [(.c (.bl true)), (.c (.int 1))]), (.c .non), (.ix (.var 2) (.c (.int 0))), (.tp [(.ix (.var 2) (.c (.int 0)))]), (.c (.str "1")), (.tp [(.var 2), (.var 2)]), (.tp [(.ix (.var 2) (.c (.int 0))), (.c (.bl true))]), (.tp [(.c (.bl false)), (.c (.int 1))])]),
  .ex (.me .append (.var 5) [(.ls [(.ix (.var 2) (.c (.int 0))), (.ix (.var 2) (.c (.int 1)))])]),
  .asg (.nm 6) (.ix (.var 5) (.fn 0 [(.var 0), (.bi .len [(.var 5)])])),
  .asg (.nm 7) (.ls [(.tp [(.var 6), (.var 3)]), (.tp [(.var 2), (.var 6)]), (.tp [(.var 6), (.var 6)]), (.ls [(.var 2), (.var 3)]), (.tp [(.var 2)]), (.tp [(.var 2), (.var 3), (.var 2)]), (.tp [(.ix (.var 2) (.c (.int 0))), (.ix (.var 2) (.c (.int 1))), (.ix (.var 3) (.c (.int 0))), (.ix (.var 3) (.c (.int 1)))]), (.var 2), (.c .non), (.c (.str "0,0")), (.tp [(.var 3), (.var 2)]), (.tp [])]),
  .ret (.ix (.var 7) (.fn 0 [(.var 0), (.bi .len [(.var 7)])]))]
/-- is_spot, number 33 -/
def z_is_spot : List Z := [
  .ret (.an (.isi (.var 0) [(.bt "tuple")]) (.an (.cmp .Eq (.bi .len [(.var 0)]) (.c (.int 2))) (.an (.fn 22 [(.ix (.var 0) (.c (.int 0)))]) (.fn 22 [(.ix (.var 0) (.c (.int 1)))]))))]
/-- is_ahead, number 34 -/
def z_is_ahead : List Z := [
  .iff (.cmp .NotEq (.ix (.var 0) (.c (.int 0))) (.ix (.var 1) (.c (.int 0)))) [
    .ret (.fn 13 [(.ix (.var 0) (.c (.int 0))), (.ix (.var 1) (.c (.int 0)))])] [],
  .ret (.fn 13 [(.ix (.var 0) (.c (.int 1))), (.ix (.var 1) (.c (.int 1)))])]
/-- law_is, number 35 -/
def z_law_is : List Z := [
  .ret (.an (.isi (.var 0) [(.bt "tuple")]) (.an (.cmp .Eq (.bi .len [(.var 0)]) (.c (.int 2))) (.an (.fn 8 [(.ix (.var 0) (.c (.int 0)))]) (.fn 8 [(.ix (.var 0) (.c (.int 1)))]))))]
/-- law_below, number 36 -/
def z_law_below : List Z := [
  .ret (.cmp .Lt (.op .Mult (.ix (.var 0) (.c (.int 0))) (.ix (.var 1) (.c (.int 1)))) (.op .Mult (.ix (.var 1) (.c (.int 0))) (.ix (.var 0) (.c (.int 1)))))]
/-- law_ahead, number 37 -/
def z_law_ahead : List Z := [
  .ret (.ro (.fn 36 [(.ix (.var 0) (.c (.int 0))), (.ix (.var 1) (.c (.int 0)))]) (.an (.cmp .Eq (.ix (.var 0) (.c (.int 0))) (.ix (.var 1) (.c (.int 0)))) (.fn 36 [(.ix (.var 0) (.c (.int 1))), (.ix (.var 1) (.c (.int 1)))])))]
/-- law_6, number 9 -/
def z_law_6 : List Z := [
  .for_ (.nm 1) (.e (.op .Add (.ls [(.c (.int 0))]) (.sl (.var 0) (.c .non) (.aI (.c (.int 40)))))) [
    .asg (.nm 2) (.ls [(.var 1), (.c (.int 0))]),
    .asg (.nm 3) (.fn 32 [(.var 2)]),
    .iff (.ro (.cmp .IsNot (.fn 33 [(.var 3)]) (.c (.bl true))) (.cmp .IsNot (.fn 34 [(.var 3), (.var 3)]) (.c (.bl false)))) [
      .ret (.c (.bl false))] [],
    .for_ (.nm 4) (.rng1 (.c (.int 2))) [
      .asg (.nm 5) (.fn 25 [(.var 2), (.var 3)]),
      .asg (.nm 6) (.fn 33 [(.var 5)]),
      .iff (.ro (.no (.isi (.var 6) [(.bt "bool")])) (.cmp .NotEq (.var 6) (.fn 35 [(.var 5)]))) [
        .ret (.c (.bl false))] []],
    .asg (.nm 7) (.fn 32 [(.var 2)]),
    .iff (.cmp .Eq (.fn 0 [(.var 2), (.c (.int 2))]) (.c (.int 0))) [
      .asg (.nm 7) (.tp [(.ix (.var 3) (.c (.int 0))), (.ix (.var 7) (.c (.int 1)))])] [],
    .for_ (.tp [(.nm 8), (.nm 9)]) (.e (.ls [(.tp [(.var 3), (.var 7)]), (.tp [(.var 7), (.var 3)])])) [
      .asg (.nm 6) (.fn 34 [(.var 8), (.var 9)]),
      .iff (.ro (.no (.isi (.var 6) [(.bt "bool")])) (.cmp .NotEq (.var 6) (.fn 37 [(.var 8), (.var 9)]))) [
        .ret (.c (.bl false))] []]],
  .ret (.c (.bl true))]
end Sd
namespace Sd
open PySem
/-- law_near, number 38 -/
def z_law_near : List Z := [
  .ret (.tp [(.fn 4 [(.op .Sub (.fn 0 [(.var 0), (.c (.int 25))]) (.c (.int 12))), (.op .Add (.c (.int 1)) (.fn 0 [(.var 0), (.c (.int 6))]))]), (.fn 4 [(.op .Sub (.fn 0 [(.var 0), (.c (.int 25))]) (.c (.int 12))), (.op .Add (.c (.int 1)) (.fn 0 [(.var 0), (.c (.int 6))]))])])]
/-- law_on, number 39 -/
def z_law_on : List Z := [
  .asg (.nm 3) (.ls []),
  .for_ (.nm 4) (.rng1 (.c (.int 2))) [
    .asg (.tp [(.tp [(.nm 5), (.nm 6)]), (.tp [(.nm 7), (.nm 8)]), (.tp [(.nm 9), (.nm 10)])]) (.tp [(.ix (.var 0) (.var 4)), (.ix (.var 1) (.var 4)), (.var 2)]),
    .ex (.me .append (.var 3) [(.fn 4 [(.op .Add (.op .Mult (.op .Mult (.var 5) (.var 8)) (.var 10)) (.op .Mult (.var 9) (.op .Sub (.op .Mult (.var 7) (.var 6)) (.op .Mult (.var 5) (.var 8))))), (.op .Mult (.op .Mult (.var 6) (.var 8)) (.var 10))])])],
  .ret (.tp [(.ix (.var 3) (.c (.int 0))), (.ix (.var 3) (.c (.int 1)))])]
/-- law_three, number 40 -/
def z_law_three : List Z := [
  .asg (.nm 1) (.fn 0 [(.var 0), (.c (.int 4))]),
  .iff (.cmp .Eq (.var 1) (.c (.int 0))) [
    .ret (.ls [(.fn 32 [(.var 0)]), (.fn 32 [(.var 0)]), (.fn 32 [(.var 0)])])] [],
  .asg (.nm 2) (.ls [(.fn 38 [(.var 0)]), (.fn 38 [(.var 0)]), (.fn 38 [(.var 0)])]),
  .iff (.cmp .Eq (.var 1) (.c (.int 1))) [
    .asg (.nm 3) (.fn 4 [(.op .Sub (.fn 0 [(.var 0), (.c (.int 9))]) (.c (.int 2))), (.op .Add (.c (.int 1)) (.fn 0 [(.var 0), (.c (.int 4))]))]),
    .asg (.ix (.var 2) (.c (.int 2))) (.fn 39 [(.ix (.var 2) (.c (.int 0))), (.ix (.var 2) (.c (.int 1))), (.var 3)])] [],
  .iff (.an (.cmp .Eq (.var 1) (.c (.int 2))) (.cmp .Eq (.fn 0 [(.var 0), (.c (.int 3))]) (.c (.int 0)))) [
    .asg (.ix (.var 2) (.fn 0 [(.var 0), (.c (.int 2))])) (.ix (.var 2) (.c (.int 2)))] [],
  .ret (.var 2)]
/-- law_less, number 41 -/
def z_law_less : List Z := [
  .ret (.tp [(.op .Sub (.op .Mult (.ix (.var 0) (.c (.int 0))) (.ix (.var 1) (.c (.int 1)))) (.op .Mult (.ix (.var 1) (.c (.int 0))) (.ix (.var 0) (.c (.int 1))))), (.op .Mult (.ix (.var 0) (.c (.int 1))) (.ix (.var 1) (.c (.int 1))))])]
/-- law_twice, number 42 -/
def z_law_twice : List Z := [
  .asg (.tp [(.nm 3), (.nm 4)]) (.fn 41 [(.ix (.var 1) (.c (.int 0))), (.ix (.var 0) (.c (.int 0)))]),
  .asg (.tp [(.nm 5), (.nm 6)]) (.fn 41 [(.ix (.var 1) (.c (.int 1))), (.ix (.var 0) (.c (.int 1)))]),
  .asg (.tp [(.nm 7), (.nm 8)]) (.fn 41 [(.ix (.var 2) (.c (.int 0))), (.ix (.var 0) (.c (.int 0)))]),
  .asg (.tp [(.nm 9), (.nm 10)]) (.fn 41 [(.ix (.var 2) (.c (.int 1))), (.ix (.var 0) (.c (.int 1)))]),
  .asg (.nm 11) (.op .Sub (.op .Mult (.op .Mult (.op .Mult (.var 3) (.var 9)) (.var 8)) (.var 6)) (.op .Mult (.op .Mult (.op .Mult (.var 7) (.var 5)) (.var 4)) (.var 10))),
  .ret (.tp [(.var 11), (.op .Mult (.op .Mult (.op .Mult (.var 4) (.var 10)) (.var 8)) (.var 6))])]
/-- how_far, number 43 -/
def z_how_far : List Z := [
  .asg (.nm 2) (.tp [(.op .Sub (.op .Mult (.ix (.ix (.var 1) (.c (.int 0))) (.c (.int 0))) (.ix (.ix (.var 0) (.c (.int 0))) (.c (.int 1)))) (.op .Mult (.ix (.ix (.var 0) (.c (.int 0))) (.c (.int 0))) (.ix (.ix (.var 1) (.c (.int 0))) (.c (.int 1))))), (.op .Mult (.ix (.ix (.var 1) (.c (.int 0))) (.c (.int 1))) (.ix (.ix (.var 0) (.c (.int 0))) (.c (.int 1))))]),
  .asg (.nm 3) (.tp [(.op .Sub (.op .Mult (.ix (.ix (.var 1) (.c (.int 1))) (.c (.int 0))) (.ix (.ix (.var 0) (.c (.int 1))) (.c (.int 1)))) (.op .Mult (.ix (.ix (.var 0) (.c (.int 1))) (.c (.int 0))) (.ix (.ix (.var 1) (.c (.int 1))) (.c (.int 1))))), (.op .Mult (.ix (.ix (.var 1) (.c (.int 1))) (.c (.int 1))) (.ix (.ix (.var 0) (.c (.int 1))) (.c (.int 1))))]),
  .ret (.tp [(.var 2), (.var 3)])]
/-- twice_parts, number 44 -/
def z_twice_parts : List Z := [
  .asg (.tp [(.tp [(.nm 3), (.nm 4)]), (.tp [(.nm 5), (.nm 6)])]) (.fn 43 [(.var 0), (.var 1)]),
  .asg (.tp [(.tp [(.nm 7), (.nm 8)]), (.tp [(.nm 9), (.nm 10)])]) (.fn 43 [(.var 0), (.var 2)]),
  .ret (.tp [(.op .Sub (.op .Mult (.op .Mult (.op .Mult (.var 3) (.var 9)) (.var 8)) (.var 6)) (.op .Mult (.op .Mult (.op .Mult (.var 7) (.var 5)) (.var 4)) (.var 10))), (.op .Mult (.op .Mult (.op .Mult (.var 4) (.var 10)) (.var 8)) (.var 6))])]
/-- twice_of, number 45 -/
def z_twice_of : List Z := [
  .asg (.tp [(.nm 3), (.nm 4)]) (.fn 44 [(.var 0), (.var 1), (.var 2)]),
  .ret (.fn 3 [(.var 3), (.var 4)])]
/-- turn_of, number 46 -/
def z_turn_of : List Z := [
  .asg (.nm 3) (.ix (.fn 44 [(.var 0), (.var 1), (.var 2)]) (.c (.int 0))),
  .ret (.op .Sub (.bi .int [(.cmp .Gt (.var 3) (.c (.int 0)))]) (.bi .int [(.cmp .Lt (.var 3) (.c (.int 0)))]))]
/-- is_amid, number 47 -/
def z_is_amid : List Z := [
  .iff (.cmp .NotEq (.fn 46 [(.var 1), (.var 2), (.var 0)]) (.c (.int 0))) [
    .ret (.c (.bl false))] [],
  .ret (.ro (.an (.fn 34 [(.var 1), (.var 0)]) (.fn 34 [(.var 0), (.var 2)])) (.an (.fn 34 [(.var 2), (.var 0)]) (.fn 34 [(.var 0), (.var 1)])))]
/-- on_way, number 48 -/
def z_on_way : List Z := [
  .ret (.tp [(.fn 14 [(.ix (.var 0) (.c (.int 0))), (.fn 16 [(.var 2), (.fn 15 [(.ix (.var 1) (.c (.int 0))), (.ix (.var 0) (.c (.int 0)))])])]), (.fn 14 [(.ix (.var 0) (.c (.int 1))), (.fn 16 [(.var 2), (.fn 15 [(.ix (.var 1) (.c (.int 1))), (.ix (.var 0) (.c (.int 1)))])])])])]
/-- law_between, number 49 -/
def z_law_between : List Z := [
  .asg (.nm 3) (.an (.cmp .LtE (.op .Mult (.ix (.var 0) (.c (.int 0))) (.ix (.var 1) (.c (.int 1)))) (.op .Mult (.ix (.var 1) (.c (.int 0))) (.ix (.var 0) (.c (.int 1))))) (.cmp .LtE (.op .Mult (.ix (.var 1) (.c (.int 0))) (.ix (.var 2) (.c (.int 1)))) (.op .Mult (.ix (.var 2) (.c (.int 0))) (.ix (.var 1) (.c (.int 1)))))),
  .ret (.ro (.var 3) (.an (.cmp .LtE (.op .Mult (.ix (.var 1) (.c (.int 0))) (.ix (.var 0) (.c (.int 1)))) (.op .Mult (.ix (.var 0) (.c (.int 0))) (.ix (.var 1) (.c (.int 1))))) (.cmp .LtE (.op .Mult (.ix (.var 2) (.c (.int 0))) (.ix (.var 1) (.c (.int 1)))) (.op .Mult (.ix (.var 1) (.c (.int 0))) (.ix (.var 2) (.c (.int 1)))))))]
/-- law_turn, number 50 -/
def z_law_turn : List Z := [
  .asg (.nm 3) (.ix (.fn 42 [(.var 0), (.var 1), (.var 2)]) (.c (.int 0))),
  .ret (.op .Sub (.bi .int [(.cmp .Gt (.var 3) (.c (.int 0)))]) (.bi .int [(.cmp .Lt (.var 3) (.c (.int 0)))]))]
/-- law_amid, number 51 -/
def z_law_amid : List Z := [
  .iff (.ro (.cmp .Eq (.var 0) (.var 1)) (.ro (.cmp .Eq (.var 0) (.var 2)) (.cmp .NotEq (.fn 50 [(.var 1), (.var 2), (.var 0)]) (.c (.int 0))))) [
    .ret (.c (.bl false))] [],
  .ret (.an (.fn 49 [(.ix (.var 1) (.c (.int 0))), (.ix (.var 0) (.c (.int 0))), (.ix (.var 2) (.c (.int 0)))]) (.fn 49 [(.ix (.var 1) (.c (.int 1))), (.ix (.var 0) (.c (.int 1))), (.ix (.var 2) (.c (.int 1)))]))]
/-- law_7, number 9 -/
def z_law_7 : List Z := [
  .for_ (.nm 1) (.e (.op .Add (.ls [(.c (.int 0))]) (.sl (.var 0) (.c .non) (.aI (.c (.int 30)))))) [
    .asg (.nm 2) (.ls [(.var 1), (.c (.int 0))]),
    .asg (.nm 3) (.fn 40 [(.var 2)]),
    .for_ (.tp [(.nm 4), (.nm 5), (.nm 6)]) (.e (.ls [(.tp [(.c (.int 0)), (.c (.int 1)), (.c (.int 2))]), (.tp [(.c (.int 1)), (.c (.int 2)), (.c (.int 0))]), (.tp [(.c (.int 2)), (.c (.int 0)), (.c (.int 1))]), (.tp [(.c (.int 1)), (.c (.int 0)), (.c (.int 2))]), (.tp [(.c (.int 0)), (.c (.int 2)), (.c (.int 1))]), (.tp [(.c (.int 2)), (.c (.int 1)), (.c (.int 0))])])) [
      .asg (.tp [(.nm 7), (.nm 8), (.nm 9)]) (.tp [(.ix (.var 3) (.var 4)), (.ix (.var 3) (.var 5)), (.ix (.var 3) (.var 6))]),
      .asg (.tp [(.nm 10), (.nm 11)]) (.fn 42 [(.var 7), (.var 8), (.var 9)]),
      .asg (.nm 12) (.fn 45 [(.var 7), (.var 8), (.var 9)]),
      .asg (.nm 13) (.fn 46 [(.var 7), (.var 8), (.var 9)]),
      .iff (.ro (.no (.fn 8 [(.var 12)])) (.cmp .NotEq (.op .Mult (.ix (.var 12) (.c (.int 0))) (.var 11)) (.op .Mult (.var 10) (.ix (.var 12) (.c (.int 1)))))) [
        .ret (.c (.bl false))] [],
      .iff (.ro (.no (.fn 5 [(.var 13)])) (.cmp .NotEq (.var 13) (.op .Sub (.bi .int [(.cmp .Gt (.var 10) (.c (.int 0)))]) (.bi .int [(.cmp .Lt (.var 10) (.c (.int 0)))])))) [
        .ret (.c (.bl false))] [],
      .asg (.nm 14) (.fn 47 [(.var 9), (.var 7), (.var 8)]),
      .iff (.ro (.no (.isi (.var 14) [(.bt "bool")])) (.cmp .NotEq (.var 14) (.fn 51 [(.var 9), (.var 7), (.var 8)]))) [
        .ret (.c (.bl false))] []],
    .asg (.nm 15) (.fn 4 [(.op .Sub (.fn 0 [(.var 2), (.c (.int 41))]) (.c (.int 20))), (.op .Add (.c (.int 1)) (.fn 0 [(.var 2), (.c (.int 9))]))]),
    .iff (.cmp .Eq (.fn 0 [(.var 2), (.c (.int 4))]) (.c (.int 1))) [
      .asg (.nm 15) (.fn 10 [(.var 2)])] [],
    .for_ (.tp [(.nm 7), (.nm 8)]) (.e (.ls [(.tp [(.ix (.var 3) (.c (.int 0))), (.ix (.var 3) (.c (.int 1)))]), (.tp [(.ix (.var 3) (.c (.int 1))), (.ix (.var 3) (.c (.int 2)))])])) [
      .iff (.cmp .NotEq (.fn 48 [(.var 7), (.var 8), (.var 15)]) (.fn 39 [(.var 7), (.var 8), (.var 15)])) [
        .ret (.c (.bl false))] []]],
  .ret (.c (.bl true))]
end Sd
namespace Sd
open PySem
/-- law_part_2, number 30 -/
def z_law_part_2 : List Z := [
  .iff (.cmp .Eq (.fn 0 [(.var 0), (.c (.int 3))]) (.c (.int 0))) [
    .ret (.fn 10 [(.var 0)])] [],
  .asg (.tp [(.nm 3), (.nm 4)]) (.tp [(.op .Sub (.fn 0 [(.var 0), (.c (.int 41))]) (.c (.int 20))), (.op .Add (.c (.int 1)) (.fn 0 [(.var 0), (.c (.int 9))]))]),
  .for_ (.nm 5) (.rng1 (.var 2)) [
    .asg (.nm 3) (.op .Mult (.var 3) (.var 1))],
  .for_ (.nm 5) (.rng1 (.op .Sub (.c (.int 0)) (.var 2))) [
    .asg (.nm 4) (.op .Mult (.var 4) (.var 1))],
  .ret (.fn 4 [(.var 3), (.var 4)])]
/-- colour_of, number 54 -/
def z_colour_of : List Z := [
  .ex (.fn 26 [(.var 2)]),
  .asg (.tp [(.nm 3), (.nm 4)]) (.tp [(.fn 28 [(.var 0), (.var 2)]), (.fn 28 [(.var 1), (.var 2)])]),
  .iff (.an (.ro (.cmp .Is (.var 3) (.c .non)) (.cmp .Gt (.var 3) (.c (.int 0)))) (.ro (.cmp .Is (.var 4) (.c .non)) (.cmp .Gt (.var 4) (.c (.int 0))))) [
    .ret (.c (.int 0))] [],
  .iff (.an (.cmp .IsNot (.var 3) (.c .non)) (.ro (.cmp .Is (.var 4) (.c .non)) (.cmp .LtE (.var 3) (.var 4)))) [
    .ret (.c (.int 1))] [],
  .ret (.c (.int 2))]
/-- law_colour, number 55 -/
def z_law_colour : List Z := [
  .asg (.nm 3) (.ls []),
  .for_ (.nm 4) (.e (.tp [(.var 0), (.var 1)])) [
    .ex (.me .append (.var 3) [(.op .Pow (.c (.int 10)) (.c (.int 9)))]),
    .iff (.cmp .NotEq (.ix (.var 4) (.c (.int 0))) (.c (.int 0))) [
      .asg (.ix (.var 3) (.neg (.c (.int 1)))) (.fn 29 [(.ix (.var 4) (.c (.int 0))), (.ix (.var 4) (.c (.int 1))), (.var 2)])] []],
  .iff (.cmp .Gt (.bi .min1 [(.var 3)]) (.c (.int 0))) [
    .ret (.c (.int 0))] [],
  .ret (.op .Add (.c (.int 1)) (.bi .int [(.cmp .Gt (.ix (.var 3) (.c (.int 0))) (.ix (.var 3) (.c (.int 1))))]))]
/-- law_refused_4, number 7 -/
def z_law_refused_4 : List Z := [
  .asg (.nm 3) (.c .non),
  .tr [
    .ex (.fn 54 [(.var 0), (.var 1), (.var 2)])] 0 4 3,
  .iff (.ro (.no (.isi (.var 3) [(.cl 2)])) (.isi (.var 3) [(.cl 6), (.cl 1)])) [
    .ret (.c (.bl false))] [],
  .ret (.isi (.var 3) [(.bt "ValueError")])]
/-- law_9, number 9 -/
def z_law_9 : List Z := [
  .asg (.nm 1) (.fn 24 []),
  .for_ (.nm 2) (.e (.op .Add (.ls [(.c (.int 0))]) (.sl (.var 0) (.c .non) (.aI (.c (.int 30)))))) [
    .asg (.nm 3) (.ls [(.var 2), (.c (.int 0))]),
    .asg (.nm 4) (.ix (.var 1) (.fn 0 [(.var 3), (.c (.int 25))])),
    .asg (.nm 5) (.op .Sub (.fn 0 [(.var 3), (.c (.int 17))]) (.c (.int 8))),
    .asg (.nm 6) (.fn 30 [(.var 3), (.var 4), (.var 5)]),
    .asg (.nm 7) (.fn 30 [(.var 3), (.var 4), (.ix (.ls [(.var 5), (.op .Sub (.fn 0 [(.var 3), (.c (.int 17))]) (.c (.int 8)))]) (.fn 0 [(.var 3), (.c (.int 2))]))]),
    .for_ (.tp [(.nm 8), (.nm 9)]) (.e (.ls [(.tp [(.var 6), (.var 7)]), (.tp [(.var 7), (.var 6)]), (.tp [(.var 6), (.var 6)])])) [
      .asg (.nm 10) (.fn 54 [(.var 8), (.var 9), (.var 4)]),
      .iff (.ro (.no (.fn 5 [(.var 10)])) (.cmp .NotEq (.var 10) (.fn 55 [(.var 8), (.var 9), (.var 4)]))) [
        .ret (.c (.bl false))] []],
    .asg (.nm 11) (.ix (.ls [(.op .Sub (.fn 0 [(.var 3), (.c (.int 114))]) (.c (.int 3))), (.fn 0 [(.var 3), (.op .Pow (.c (.int 10)) (.c (.int 30)))]), (.c (.bl true)), (.c .non), (.bi .str [(.var 4)]), (.ls [(.var 4)])]) (.fn 0 [(.var 3), (.c (.int 6))])),
    .iff (.an (.fn 5 [(.var 11)]) (.cmp .In (.var 11) (.var 1))) [
      .iff (.cmp .NotEq (.fn 54 [(.var 6), (.var 7), (.var 11)]) (.fn 55 [(.var 6), (.var 7), (.var 11)])) [
        .ret (.c (.bl false))] []] [
      .iff (.no (.fn 7 [(.var 6), (.var 7), (.var 11)])) [
        .ret (.c (.bl false))] []]],
  .ret (.c (.bl true))]
end Sd
namespace Sd
open PySem
/-- law_frame, number 56 -/
def z_law_frame : List Z := [
  .for_ (.nm 1) (.rng1 (.c (.int 3))) [
    .asg (.nm 2) (.ls [(.fn 38 [(.var 0)]), (.fn 38 [(.var 0)]), (.fn 38 [(.var 0)])]),
    .iff (.cmp .Eq (.fn 0 [(.var 0), (.c (.int 4))]) (.c (.int 1))) [
      .asg (.nm 2) (.ls [(.fn 32 [(.var 0)]), (.fn 32 [(.var 0)]), (.fn 32 [(.var 0)])])] [],
    .iff (.cmp .NotEq (.fn 50 [(.ix (.var 2) (.c (.int 0))), (.ix (.var 2) (.c (.int 1))), (.ix (.var 2) (.c (.int 2)))]) (.c (.int 0))) [
      .ret (.bi .tuple [(.var 2)])] []],
  .ret (.tp [(.tp [(.tp [(.c (.int 0)), (.c (.int 1))]), (.tp [(.c (.int 0)), (.c (.int 1))])]), (.tp [(.tp [(.c (.int 1)), (.c (.int 1))]), (.tp [(.c (.int 0)), (.c (.int 1))])]), (.tp [(.tp [(.c (.int 0)), (.c (.int 1))]), (.tp [(.c (.int 1)), (.c (.int 1))])])])]
/-- look_frame, number 57 -/
def z_look_frame : List Z := [
  .iff (.cmp .Eq (.fn 46 [(.ix (.var 0) (.c (.int 0))), (.ix (.var 0) (.c (.int 1))), (.ix (.var 0) (.c (.int 2)))]) (.c (.int 0))) [
    .rz 6] []]
/-- in_frame, number 58 -/
def z_in_frame : List Z := [
  .ex (.fn 57 [(.var 0)]),
  .asg (.nm 2) (.fn 45 [(.ix (.var 0) (.c (.int 0))), (.ix (.var 0) (.c (.int 1))), (.ix (.var 0) (.c (.int 2)))]),
  .ret (.tp [(.fn 11 [(.fn 45 [(.ix (.var 0) (.c (.int 0))), (.var 1), (.ix (.var 0) (.c (.int 2)))]), (.var 2)]), (.fn 11 [(.fn 45 [(.ix (.var 0) (.c (.int 0))), (.ix (.var 0) (.c (.int 1))), (.var 1)]), (.var 2)])])]
/-- colour_by, number 59 -/
def z_colour_by : List Z := [
  .asg (.tp [(.nm 3), (.nm 4)]) (.fn 58 [(.var 0), (.var 2)]),
  .ret (.fn 54 [(.var 3), (.var 4), (.var 1)])]
/-- law_asked, number 60 -/
def z_law_asked : List Z := [
  .asg (.nm 3) (.c .non),
  .tr2 [
    .asg (.nm 4) (.fn 59 [(.var 0), (.var 1), (.var 2)])] 0 5 3 4,
  .iff (.cmp .Is (.var 3) (.c .non)) [
    .ret (.ite (.fn 5 [(.var 4)]) (.tp [(.c (.str "told")), (.var 4)]) (.tp [(.c (.str "other")), (.var 4)]))] [],
  .iff (.ro (.no (.isi (.var 3) [(.bt "ValueError")])) (.isi (.var 3) [(.cl 1)])) [
    .ret (.tp [(.c (.str "other")), (.c .non)])] [],
  .asg (.nm 6) (.op .Add (.bi .int [(.isi (.var 3) [(.cl 6)])]) (.op .Mult (.c (.int 2)) (.bi .int [(.isi (.var 3) [(.cl 2)])]))),
  .ret (.tp [(.ix (.ls [(.c (.str "other")), (.c (.str "frame")), (.c (.str "prime")), (.c (.str "both"))]) (.var 6)), (.c .non)])]
/-- law_by_prime, number 61 -/
def z_law_by_prime : List Z := [
  .asg (.nm 2) (.ls []),
  .for_ (.nm 3) (.rng1 (.c (.int 2))) [
    .asg (.tp [(.nm 4), (.nm 5)]) (.tp [(.op .Sub (.fn 0 [(.var 0), (.c (.int 25))]) (.c (.int 12))), (.op .Add (.c (.int 1)) (.fn 0 [(.var 0), (.c (.int 6))]))]),
    .asg (.nm 6) (.op .Sub (.fn 0 [(.var 0), (.c (.int 7))]) (.c (.int 3))),
    .for_ (.nm 7) (.rng1 (.var 6)) [
      .asg (.nm 4) (.op .Mult (.var 4) (.var 1))],
    .for_ (.nm 7) (.rng1 (.op .Sub (.c (.int 0)) (.var 6))) [
      .asg (.nm 5) (.op .Mult (.var 5) (.var 1))],
    .ex (.me .append (.var 2) [(.fn 4 [(.var 4), (.var 5)])])],
  .ret (.tp [(.ix (.var 2) (.c (.int 0))), (.ix (.var 2) (.c (.int 1)))])]
/-- law_in, number 62 -/
def z_law_in : List Z := [
  .asg (.tp [(.nm 2), (.nm 3)]) (.fn 42 [(.ix (.var 0) (.c (.int 0))), (.ix (.var 0) (.c (.int 1))), (.ix (.var 0) (.c (.int 2)))]),
  .asg (.tp [(.nm 4), (.nm 5)]) (.fn 42 [(.ix (.var 0) (.c (.int 0))), (.var 1), (.ix (.var 0) (.c (.int 2)))]),
  .asg (.tp [(.nm 6), (.nm 7)]) (.fn 42 [(.ix (.var 0) (.c (.int 0))), (.ix (.var 0) (.c (.int 1))), (.var 1)]),
  .ret (.tp [(.fn 4 [(.op .Mult (.var 4) (.var 3)), (.op .Mult (.var 5) (.var 2))]), (.fn 4 [(.op .Mult (.var 6) (.var 3)), (.op .Mult (.var 7) (.var 2))])])]
/-- law_on_line, number 63 -/
def z_law_on_line : List Z := [
  .asg (.tp [(.tp [(.nm 2), (.nm 3)]), (.tp [(.nm 4), (.nm 5)])]) (.tp [(.ix (.var 1) (.c (.int 0))), (.ix (.var 1) (.c (.int 1)))]),
  .asg (.nm 6) (.ix (.ls [(.c (.int 0)), (.c (.int 2)), (.c (.int 3)), (.neg (.c (.int 1)))]) (.fn 0 [(.var 0), (.c (.int 4))])),
  .iff (.cmp .Gt (.bi .max1 [(.lc (.op .Add (.bi .abs [(.ix (.var 7) (.c (.int 0)))]) (.ix (.var 7) (.c (.int 1)))) (.nm 7) (.e (.tp [(.var 2), (.var 3), (.var 4), (.var 5)])) (.c (.bl true)) [7])]) (.op .Pow (.c (.int 10)) (.c (.int 8)))) [
    .ret (.ix (.var 1) (.c (.int 0)))] [],
  .asg (.nm 8) (.ls []),
  .for_ (.tp [(.nm 7), (.nm 9)]) (.e (.tp [(.tp [(.var 2), (.var 4)]), (.tp [(.var 3), (.var 5)])])) [
    .asg (.nm 10) (.op .Add (.op .Mult (.op .Mult (.ix (.var 7) (.c (.int 0))) (.ix (.var 9) (.c (.int 1)))) (.op .Sub (.c (.int 1)) (.var 6))) (.op .Mult (.op .Mult (.ix (.var 9) (.c (.int 0))) (.ix (.var 7) (.c (.int 1)))) (.var 6))),
    .ex (.me .append (.var 8) [(.fn 4 [(.var 10), (.op .Mult (.ix (.var 7) (.c (.int 1))) (.ix (.var 9) (.c (.int 1))))])])],
  .ret (.tp [(.ix (.var 8) (.c (.int 0))), (.ix (.var 8) (.c (.int 1)))])]
/-- law_above, number 64 -/
def z_law_above : List Z := [
  .iff (.cmp .Eq (.ix (.var 0) (.c (.int 0))) (.c (.int 0))) [
    .ret (.op .Pow (.c (.int 10)) (.c (.int 9)))] [],
  .ret (.fn 29 [(.ix (.var 0) (.c (.int 0))), (.ix (.var 0) (.c (.int 1))), (.var 1)])]
/-- law_colour_2, number 55 -/
def z_law_colour_2 : List Z := [
  .asg (.tp [(.nm 3), (.nm 4)]) (.tp [(.fn 64 [(.var 0), (.var 2)]), (.fn 64 [(.var 1), (.var 2)])]),
  .iff (.an (.cmp .Gt (.var 3) (.c (.int 0))) (.cmp .Gt (.var 4) (.c (.int 0)))) [
    .ret (.c (.int 0))] [],
  .ret (.op .Add (.c (.int 1)) (.bi .int [(.cmp .Gt (.var 3) (.var 4))]))]
/-- law_10, number 9 -/
def z_law_10 : List Z := [
  .asg (.nm 1) (.fn 24 []),
  .for_ (.nm 2) (.e (.op .Add (.ls [(.c (.int 0))]) (.sl (.var 0) (.c .non) (.aI (.c (.int 20)))))) [
    .asg (.nm 3) (.ls [(.var 2), (.c (.int 0))]),
    .asg (.nm 4) (.fn 56 [(.var 3)]),
    .asg (.nm 5) (.ix (.var 1) (.fn 0 [(.var 3), (.c (.int 25))])),
    .asg (.nm 6) (.fn 0 [(.var 3), (.c (.int 8))]),
    .iff (.cmp .In (.var 6) (.tp [(.c (.int 0)), (.c (.int 1))])) [
      .asg (.nm 4) (.ix (.ls [(.tp [(.ix (.var 4) (.c (.int 0))), (.ix (.var 4) (.c (.int 1))), (.fn 63 [(.var 3), (.var 4)])]), (.tp [(.ix (.var 4) (.c (.int 2))), (.ix (.var 4) (.c (.int 2))), (.ix (.var 4) (.c (.int 2)))])]) (.var 6))] [],
    .iff (.cmp .In (.var 6) (.tp [(.c (.int 1)), (.c (.int 2))])) [
      .asg (.nm 5) (.ix (.ls [(.c (.int 0)), (.c (.int 1)), (.neg (.c (.int 2))), (.c (.int 4)), (.c (.int 91)), (.c (.int 101)), (.c (.bl true)), (.c .non), (.c (.str "2")), (.ls [(.c (.int 2))])]) (.fn 0 [(.var 3), (.c (.int 10))]))] [],
    .for_ (.nm 7) (.rng1 (.c (.int 3))) [
      .asg (.nm 8) (.ix (.ls [(.fn 38 [(.var 3)]), (.fn 32 [(.var 3)]), (.ix (.var 4) (.fn 0 [(.var 3), (.c (.int 3))])), (.fn 61 [(.var 3), (.ix (.ls [(.c (.int 2)), (.var 5)]) (.bi .int [(.cmp .Gt (.var 6) (.c (.int 2)))]))])]) (.fn 0 [(.var 3), (.c (.int 4))])),
      .asg (.nm 9) (.tp [(.c (.str "prime")), (.c .non)]),
      .iff (.cmp .Lt (.var 6) (.c (.int 2))) [
        .asg (.nm 9) (.tp [(.c (.str "frame")), (.c .non)])] [
        .iff (.cmp .Gt (.var 6) (.c (.int 2))) [
          .asg (.tp [(.nm 10), (.nm 11)]) (.fn 62 [(.var 4), (.var 8)]),
          .asg (.nm 9) (.tp [(.c (.str "told")), (.fn 55 [(.var 10), (.var 11), (.var 5)])])] []],
      .iff (.cmp .NotEq (.fn 60 [(.var 4), (.var 5), (.var 8)]) (.var 9)) [
        .ret (.c (.bl false))] []]],
  .ret (.c (.bl true))]
end Sd
namespace Sd
open PySem
/-- with_moved, number 65 -/
def z_with_moved : List Z := [
  .asg (.nm 3) (.ls []),
  .for_ (.nm 4) (.e (.var 0)) [
    .asg (.tp [(.nm 5), (.nm 6), (.nm 7)]) (.lc (.ite (.cmp .Eq (.var 8) (.var 1)) (.var 2) (.var 8)) (.nm 8) (.e (.var 4)) (.c (.bl true)) [8]),
    .ex (.me .append (.var 3) [(.tp [(.var 5), (.var 6), (.var 7)])])],
  .ret (.var 3)]
/-- law_take_3, number 0 -/
def z_law_take_3 : List Z := [
  .asg (.ix (.var 0) (.c (.int 1))) (.op .Add (.ix (.var 0) (.c (.int 1))) (.c (.int 1))),
  .iff (.cmp .GtE (.ix (.var 0) (.c (.int 0))) (.op .Pow (.c (.int 10)) (.c (.int 18)))) [
    .asg (.nm 2) (.op .Sub (.op .FloorDiv (.ix (.var 0) (.c (.int 0))) (.op .Pow (.c (.int 10)) (.c (.int 18)))) (.c (.int 1))),
    .asg (.ix (.var 0) (.c (.int 0))) (.op .Add (.op .Mult (.op .Mult (.op .Add (.op .FloorDiv (.var 2) (.var 1)) (.c (.int 1))) (.op .Pow (.c (.int 10)) (.c (.int 18)))) (.bi .int [(.cmp .GtE (.var 2) (.var 1))])) (.op .Mod (.ix (.var 0) (.c (.int 0))) (.op .Pow (.c (.int 10)) (.c (.int 18))))),
    .ret (.op .Mod (.var 2) (.var 1))] [],
  .asg (.nm 3) (.op .Mod (.op .Add (.op .Add (.op .Mult (.op .Mod (.ix (.var 0) (.c (.int 0))) (.c (.int 2147483629))) (.c (.int 48271))) (.op .Mult (.op .Mult (.c (.int 104729)) (.ix (.var 0) (.c (.int 1)))) (.ix (.var 0) (.c (.int 1))))) (.c (.int 17))) (.c (.int 2147483647))),
  .asg (.nm 3) (.op .Mod (.op .Mult (.var 3) (.op .Add (.op .Mod (.var 3) (.c (.int 65521))) (.c (.int 3)))) (.c (.int 2147483587))),
  .ret (.op .Mod (.op .FloorDiv (.var 3) (.c (.int 7))) (.var 1))]
/-- law_gap, number 66 -/
def z_law_gap : List Z := [
  .ret (.tp [(.op .Sub (.op .Mult (.ix (.var 1) (.c (.int 0))) (.ix (.var 0) (.c (.int 1)))) (.op .Mult (.ix (.var 0) (.c (.int 0))) (.ix (.var 1) (.c (.int 1))))), (.op .Mult (.ix (.var 0) (.c (.int 1))) (.ix (.var 1) (.c (.int 1))))])]
/-- law_twice_2, number 42 -/
def z_law_twice_2 : List Z := [
  .asg (.tp [(.nm 3), (.nm 4)]) (.tp [(.fn 66 [(.ix (.var 0) (.c (.int 0))), (.ix (.var 1) (.c (.int 0)))]), (.fn 66 [(.ix (.var 0) (.c (.int 1))), (.ix (.var 1) (.c (.int 1)))])]),
  .asg (.tp [(.nm 5), (.nm 6)]) (.tp [(.fn 66 [(.ix (.var 0) (.c (.int 0))), (.ix (.var 2) (.c (.int 0)))]), (.fn 66 [(.ix (.var 0) (.c (.int 1))), (.ix (.var 2) (.c (.int 1)))])]),
  .asg (.nm 7) (.op .Mult (.op .Mult (.op .Mult (.ix (.var 3) (.c (.int 0))) (.ix (.var 6) (.c (.int 0)))) (.ix (.var 4) (.c (.int 1)))) (.ix (.var 5) (.c (.int 1)))),
  .ret (.tp [(.op .Sub (.var 7) (.op .Mult (.op .Mult (.op .Mult (.ix (.var 5) (.c (.int 0))) (.ix (.var 4) (.c (.int 0)))) (.ix (.var 3) (.c (.int 1)))) (.ix (.var 6) (.c (.int 1))))), (.op .Mult (.op .Mult (.op .Mult (.ix (.var 3) (.c (.int 1))) (.ix (.var 6) (.c (.int 1)))) (.ix (.var 4) (.c (.int 1)))) (.ix (.var 5) (.c (.int 1))))])]
/-- law_frac_2, number 10 -/
def z_law_frac_2 : List Z := [
  .iff (.ro (.var 1) (.cmp .Gt (.fn 0 [(.var 0), (.c (.int 3))]) (.c (.int 0)))) [
    .ret (.fn 4 [(.op .Sub (.fn 0 [(.var 0), (.c (.int 9))]) (.c (.int 4))), (.op .Add (.c (.int 1)) (.fn 0 [(.var 0), (.c (.int 3))]))])] [],
  .ret (.fn 4 [(.op .Add (.op .Sub (.fn 0 [(.var 0), (.op .Sub (.op .Mult (.c (.int 2)) (.op .Pow (.c (.int 10)) (.c (.int 30)))) (.c (.int 1)))]) (.op .Pow (.c (.int 10)) (.c (.int 30)))) (.c (.int 1))), (.op .Add (.c (.int 1)) (.fn 0 [(.var 0), (.op .Sub (.op .Pow (.c (.int 10)) (.c (.int 30))) (.c (.int 1)))]))])]
/-- law_spot_2, number 32 -/
def z_law_spot_2 : List Z := [
  .iff (.an (.cmp .NotEq (.var 1) (.ls [])) (.cmp .Eq (.fn 0 [(.var 0), (.c (.int 2))]) (.c (.int 1)))) [
    .ret (.ix (.var 1) (.fn 0 [(.var 0), (.bi .len [(.var 1)])]))] [],
  .ret (.tp [(.fn 10 [(.var 0), (.var 2)]), (.fn 10 [(.var 0), (.var 2)])])]
/-- signed_sum, number 67 -/
def z_signed_sum : List Z := [
  .ret (.fn 16 [(.tp [(.c (.int 1)), (.c (.int 2))]), (.fn 18 [(.lc (.fn 45 [(.var 1), (.var 2), (.var 3)]) (.tp [(.nm 1), (.nm 2), (.nm 3)]) (.e (.var 0)) (.c (.bl true)) [1, 2, 3])])])]
/-- law_11, number 9 -/
def z_law_11 : List Z := [
  .for_ (.nm 1) (.e (.op .Add (.ls [(.c (.int 0))]) (.sl (.var 0) (.c .non) (.aI (.c (.int 6)))))) [
    .asg (.nm 2) (.ls [(.var 1), (.c (.int 0))]),
    .asg (.nm 3) (.ls []),
    .asg (.nm 4) (.ls []),
    .asg (.nm 5) (.cmp .Eq (.fn 0 [(.var 2), (.c (.int 6))]) (.c (.int 1))),
    .for_ (.nm 6) (.rng1 (.ix (.ls [(.fn 0 [(.var 2), (.c (.int 6))]), (.c (.int 40))]) (.bi .int [(.var 5)]))) [
      .for_ (.nm 7) (.rng1 (.c (.int 3))) [
        .ex (.me .append (.var 3) [(.fn 32 [(.var 2), (.var 3), (.var 5)])])],
      .ex (.me .append (.var 4) [(.tp [(.ix (.var 3) (.neg (.c (.int 3)))), (.ix (.var 3) (.neg (.c (.int 2)))), (.ix (.var 3) (.neg (.c (.int 1))))])])],
    .asg (.nm 8) (.tp [(.c (.int 0)), (.c (.int 1))]),
    .for_ (.tp [(.nm 9), (.nm 10), (.nm 11)]) (.e (.var 4)) [
      .asg (.tp [(.nm 12), (.nm 13)]) (.fn 42 [(.var 9), (.var 10), (.var 11)]),
      .asg (.nm 8) (.fn 4 [(.op .Add (.op .Mult (.ix (.var 8) (.c (.int 0))) (.var 13)) (.op .Mult (.var 12) (.ix (.var 8) (.c (.int 1))))), (.op .Mult (.ix (.var 8) (.c (.int 1))) (.var 13))])],
    .asg (.nm 8) (.fn 4 [(.ix (.var 8) (.c (.int 0))), (.op .Mult (.c (.int 2)) (.ix (.var 8) (.c (.int 1))))]),
    .asg (.tp [(.nm 14), (.nm 15)]) (.tp [(.fn 32 [(.var 2), (.var 3), (.var 5)]), (.fn 32 [(.var 2), (.var 3), (.var 5)])]),
    .asg (.nm 16) (.lc (.bi .tuple [(.lc (.ix (.ls [(.var 17), (.var 15)]) (.bi .int [(.cmp .Eq (.var 17) (.var 14))])) (.nm 17) (.e (.var 18)) (.c (.bl true)) [17])]) (.nm 18) (.e (.var 4)) (.c (.bl true)) [18]),
    .asg (.nm 19) (.bi .list [(.var 4)]),
    .asg (.nm 20) (.fn 65 [(.var 19), (.var 14), (.var 15)]),
    .iff (.ro (.cmp .NotEq (.fn 67 [(.var 19)]) (.var 8)) (.no (.fn 8 [(.fn 67 [(.var 4)])]))) [
      .ret (.c (.bl false))] [],
    .iff (.cmp .NotEq (.var 19) (.var 4)) [
      .ret (.c (.bl false))] [],
    .iff (.ro (.no (.isi (.var 20) [(.bt "list")])) (.ro (.cmp .NotEq (.var 20) (.var 16)) (.no (.bi .all [(.lc (.isi (.var 18) [(.bt "tuple")]) (.nm 18) (.e (.var 20)) (.c (.bl true)) [18])])))) [
      .ret (.c (.bl false))] [],
    .ex (.me .append (.var 20) [(.c .non)]),
    .iff (.cmp .NotEq (.fn 65 [(.var 4), (.var 14), (.var 15)]) (.var 16)) [
      .ret (.c (.bl false))] []],
  .ret (.c (.bl true))]
end Sd
namespace Sd
open PySem
/-- law_mid, number 69 -/
def z_law_mid : List Z := [
  .asg (.nm 2) (.ls []),
  .for_ (.nm 3) (.rng1 (.c (.int 2))) [
    .asg (.tp [(.nm 4), (.nm 5)]) (.tp [(.c (.int 0)), (.c (.int 1))]),
    .for_ (.tp [(.nm 6), (.nm 7)]) (.zip (.var 0) (.var 1)) [
      .asg (.tp [(.nm 8), (.nm 9)]) (.ix (.var 6) (.var 3)),
      .asg (.nm 4) (.op .Add (.op .Mult (.var 4) (.var 9)) (.op .Mult (.op .Mult (.var 7) (.var 8)) (.var 5))),
      .asg (.nm 5) (.op .Mult (.var 5) (.var 9))],
    .ex (.me .append (.var 2) [(.fn 4 [(.var 4), (.op .Mult (.var 5) (.bi .sum [(.var 1)]))])])],
  .ret (.tp [(.ix (.var 2) (.c (.int 0))), (.ix (.var 2) (.c (.int 1)))])]
/-- law_frame_2, number 56 -/
def z_law_frame_2 : List Z := [
  .asg (.nm 1) (.fn 0 [(.var 0), (.c (.int 5))]),
  .iff (.cmp .Eq (.var 1) (.c (.int 0))) [
    .ret (.ls [(.fn 32 [(.var 0)]), (.fn 32 [(.var 0)]), (.fn 32 [(.var 0)])])] [],
  .asg (.nm 2) (.ls [(.fn 38 [(.var 0)]), (.fn 38 [(.var 0)]), (.fn 38 [(.var 0)])]),
  .iff (.cmp .Eq (.var 1) (.c (.int 1))) [
    .asg (.ix (.var 2) (.c (.int 2))) (.fn 69 [(.sl (.var 2) (.c .non) (.aI (.c (.int 2)))), (.ls [(.op .Add (.c (.int 1)) (.fn 0 [(.var 0), (.c (.int 5))])), (.fn 0 [(.var 0), (.c (.int 5))])])])] [],
  .iff (.an (.cmp .Eq (.var 1) (.c (.int 2))) (.cmp .Eq (.fn 0 [(.var 0), (.c (.int 3))]) (.c (.int 0)))) [
    .asg (.ix (.var 2) (.fn 0 [(.var 0), (.c (.int 3))])) (.ix (.var 2) (.fn 0 [(.var 0), (.c (.int 3))]))] [],
  .ret (.var 2)]
/-- law_leads, number 105 -/
def z_law_leads : List Z := [
  .iff (.ro (.no (.isi (.var 2) [(.bt "tuple")])) (.ro (.cmp .NotEq (.bi .len [(.var 2)]) (.c (.int 2))) (.ro (.no (.fn 8 [(.ix (.var 2) (.c (.int 0)))])) (.no (.fn 8 [(.ix (.var 2) (.c (.int 1)))]))))) [
    .ret (.c (.bl false))] [],
  .asg (.tp [(.tp [(.nm 3), (.nm 4)]), (.tp [(.nm 5), (.nm 6)])]) (.var 2),
  .for_ (.nm 7) (.rng1 (.c (.int 2))) [
    .asg (.tp [(.tp [(.nm 8), (.nm 9)]), (.tp [(.nm 10), (.nm 11)]), (.tp [(.nm 12), (.nm 13)])]) (.tp [(.ix (.ix (.var 0) (.c (.int 0))) (.var 7)), (.ix (.ix (.var 0) (.c (.int 1))) (.var 7)), (.ix (.ix (.var 0) (.c (.int 2))) (.var 7))]),
    .asg (.nm 14) (.op .Mult (.op .Mult (.var 8) (.var 11)) (.var 13)),
    .asg (.nm 15) (.op .Mult (.op .Mult (.var 3) (.var 6)) (.op .Sub (.op .Mult (.op .Mult (.var 10) (.var 9)) (.var 13)) (.var 14))),
    .asg (.nm 16) (.op .Mult (.op .Mult (.var 5) (.var 4)) (.op .Sub (.op .Mult (.op .Mult (.var 12) (.var 9)) (.var 11)) (.var 14))),
    .asg (.tp [(.nm 17), (.nm 18)]) (.ix (.var 1) (.var 7)),
    .asg (.nm 19) (.op .Add (.op .Add (.op .Mult (.op .Mult (.var 14) (.var 4)) (.var 6)) (.var 15)) (.var 16)),
    .iff (.cmp .NotEq (.op .Mult (.var 19) (.var 18)) (.op .Mult (.op .Mult (.op .Mult (.op .Mult (.op .Mult (.var 17) (.var 9)) (.var 11)) (.var 13)) (.var 4)) (.var 6))) [
      .ret (.c (.bl false))] []],
  .ret (.c (.bl true))]
/-- law_made, number 106 -/
def z_law_made : List Z := [
  .asg (.nm 2) (.ls [(.fn 0 [(.var 0), (.c (.int 4))]), (.fn 0 [(.var 0), (.c (.int 3))]), (.fn 0 [(.var 0), (.c (.int 3))])]),
  .asg (.ix (.var 2) (.fn 0 [(.var 0), (.c (.int 3))])) (.c (.int 3)),
  .iff (.cmp .Gt (.bi .max1 [(.lc (.op .Add (.op .Add (.op .Add (.bi .abs [(.ix (.var 3) (.c (.int 0)))]) (.ix (.var 3) (.c (.int 1)))) (.bi .abs [(.ix (.var 4) (.c (.int 0)))])) (.ix (.var 4) (.c (.int 1)))) (.tp [(.nm 3), (.nm 4)]) (.e (.var 1)) (.c (.bl true)) [3, 4])]) (.op .Pow (.c (.int 10)) (.c (.int 8)))) [
    .ret (.ix (.var 1) (.c (.int 0)))] [],
  .ret (.fn 69 [(.bi .list [(.var 1)]), (.var 2)])]
/-- law_refused_7, number 7 -/
def z_law_refused_7 : List Z := [
  .asg (.nm 2) (.c .non),
  .tr [
    .ex (.fn 58 [(.var 0), (.var 1)])] 0 3 2,
  .ret (.an (.isi (.var 2) [(.cl 6)]) (.an (.isi (.var 2) [(.bt "ValueError")]) (.no (.isi (.var 2) [(.cl 5), (.cl 2)]))))]
/-- law_17, number 9 -/
def z_law_17 : List Z := [
  .for_ (.nm 1) (.e (.op .Add (.ls [(.c (.int 0))]) (.sl (.var 0) (.c .non) (.aI (.c (.int 30)))))) [
    .asg (.nm 2) (.ls [(.var 1), (.c (.int 0))]),
    .asg (.nm 3) (.bi .tuple [(.fn 56 [(.var 2)])]),
    .asg (.nm 4) (.ix (.ls [(.fn 38 [(.var 2)]), (.fn 32 [(.var 2)]), (.ix (.var 3) (.fn 0 [(.var 2), (.c (.int 3))])), (.fn 106 [(.var 2), (.var 3)])]) (.fn 0 [(.var 2), (.c (.int 4))])),
    .iff (.cmp .Eq (.fn 50 [(.ix (.var 3) (.c (.int 0))), (.ix (.var 3) (.c (.int 1))), (.ix (.var 3) (.c (.int 2)))]) (.c (.int 0))) [
      .iff (.no (.fn 7 [(.var 3), (.var 4)])) [
        .ret (.c (.bl false))] [],
      .cont] [],
    .iff (.no (.fn 105 [(.var 3), (.var 4), (.fn 58 [(.var 3), (.var 4)])])) [
      .ret (.c (.bl false))] [],
    .asg (.nm 5) (.ls [(.tp [(.tp [(.c (.int 0)), (.c (.int 1))]), (.tp [(.c (.int 0)), (.c (.int 1))])]), (.tp [(.tp [(.c (.int 1)), (.c (.int 1))]), (.tp [(.c (.int 0)), (.c (.int 1))])]), (.tp [(.tp [(.c (.int 0)), (.c (.int 1))]), (.tp [(.c (.int 1)), (.c (.int 1))])])]),
    .iff (.cmp .NotEq (.lc (.fn 58 [(.var 3), (.var 6)]) (.nm 6) (.e (.var 3)) (.c (.bl true)) [6]) (.var 5)) [
      .ret (.c (.bl false))] []],
  .ret (.c (.bl true))]
end Sd
namespace Sd
open PySem
/-- law_frame_3, number 56 -/
def z_law_frame_3 : List Z := [
  .asg (.nm 1) (.ix (.ls [(.c (.int 0)), (.op .Pow (.c (.int 10)) (.c (.int 13)))]) (.fn 0 [(.var 0), (.c (.int 2))])),
  .asg (.nm 2) (.tp [(.op .Sub (.fn 0 [(.var 0), (.op .Add (.op .Mult (.c (.int 2)) (.var 1)) (.c (.int 1)))]) (.var 1)), (.op .Sub (.fn 0 [(.var 0), (.op .Add (.op .Mult (.c (.int 2)) (.var 1)) (.c (.int 1)))]) (.var 1))]),
  .asg (.nm 3) (.ls [(.fn 38 [(.var 0)]), (.fn 38 [(.var 0)]), (.fn 38 [(.var 0)])]),
  .iff (.cmp .Eq (.fn 50 [(.ix (.var 3) (.c (.int 0))), (.ix (.var 3) (.c (.int 1))), (.ix (.var 3) (.c (.int 2)))]) (.c (.int 0))) [
    .asg (.nm 3) (.ls [(.tp [(.tp [(.c (.int 0)), (.c (.int 1))]), (.tp [(.c (.int 0)), (.c (.int 1))])]), (.tp [(.tp [(.c (.int 1)), (.c (.int 1))]), (.tp [(.c (.int 0)), (.c (.int 1))])]), (.tp [(.tp [(.fn 0 [(.var 0), (.c (.int 9))]), (.c (.int 1))]), (.tp [(.c (.int 1)), (.c (.int 1))])])])] [],
  .asg (.nm 4) (.ls []),
  .for_ (.tp [(.nm 5), (.nm 6)]) (.e (.var 3)) [
    .ex (.me .append (.var 4) [(.tp [(.tp [(.op .Add (.ix (.var 5) (.c (.int 0))) (.op .Mult (.ix (.var 2) (.c (.int 0))) (.ix (.var 5) (.c (.int 1))))), (.ix (.var 5) (.c (.int 1)))]), (.tp [(.op .Add (.ix (.var 6) (.c (.int 0))) (.op .Mult (.ix (.var 2) (.c (.int 1))) (.ix (.var 6) (.c (.int 1))))), (.ix (.var 6) (.c (.int 1)))])])])],
  .ret (.bi .tuple [(.var 4)])]
/-- law_part_3, number 30 -/
def z_law_part_3 : List Z := [
  .asg (.tp [(.nm 3), (.nm 4)]) (.tp [(.op .Add (.c (.int 1)) (.fn 0 [(.var 0), (.c (.int 40))])), (.op .Add (.c (.int 1)) (.fn 0 [(.var 0), (.c (.int 12))]))]),
  .whl (.cmp .Eq (.op .Mod (.var 3) (.var 1)) (.c (.int 0))) [
    .asg (.nm 3) (.op .FloorDiv (.var 3) (.var 1))],
  .whl (.cmp .Eq (.op .Mod (.var 4) (.var 1)) (.c (.int 0))) [
    .asg (.nm 4) (.op .FloorDiv (.var 4) (.var 1))],
  .for_ (.nm 5) (.rng1 (.var 2)) [
    .asg (.nm 3) (.op .Mult (.var 3) (.var 1))],
  .for_ (.nm 5) (.rng1 (.op .Sub (.c (.int 0)) (.var 2))) [
    .asg (.nm 4) (.op .Mult (.var 4) (.var 1))],
  .ret (.fn 4 [(.op .Mult (.var 3) (.ix (.ls [(.c (.int 1)), (.neg (.c (.int 1)))]) (.fn 0 [(.var 0), (.c (.int 2))]))), (.var 4)])]
/-- law_painted, number 108 -/
def z_law_painted : List Z := [
  .asg (.tp [(.nm 3), (.nm 4)]) (.tp [(.fn 0 [(.var 0), (.c (.int 4))]), (.fn 0 [(.var 0), (.c (.int 4))])]),
  .iff (.cmp .Eq (.var 2) (.c (.int 0))) [
    .asg (.nm 5) (.ls [(.fn 30 [(.var 0), (.var 1), (.op .Add (.c (.int 1)) (.var 3))]), (.fn 30 [(.var 0), (.var 1), (.op .Add (.c (.int 1)) (.var 4))])])] [
    .iff (.cmp .Eq (.var 2) (.c (.int 1))) [
      .asg (.nm 5) (.ls [(.fn 30 [(.var 0), (.var 1), (.op .Sub (.c (.int 0)) (.var 3))]), (.fn 30 [(.var 0), (.var 1), (.op .Sub (.var 4) (.var 3))])])] [
      .asg (.nm 5) (.ls [(.fn 30 [(.var 0), (.var 1), (.op .Sub (.op .Add (.c (.int 1)) (.var 4)) (.var 3))]), (.fn 30 [(.var 0), (.var 1), (.op .Sub (.c (.int 0)) (.var 3))])])]],
  .iff (.cmp .Eq (.fn 0 [(.var 0), (.c (.int 4))]) (.c (.int 0))) [
    .asg (.ix (.var 5) (.ix (.ls [(.fn 0 [(.var 0), (.c (.int 2))]), (.c (.int 1)), (.c (.int 0))]) (.var 2))) (.tp [(.c (.int 0)), (.c (.int 1))])] [],
  .ret (.var 5)]
/-- law_full, number 109 -/
def z_law_full : List Z := [
  .iff (.cmp .NotEq (.bi .sorted [(.lc (.fn 59 [(.var 0), (.var 1), (.var 3)]) (.nm 3) (.e (.var 2)) (.c (.bl true)) [3])]) (.ls [(.c (.int 0)), (.c (.int 1)), (.c (.int 2))])) [
    .ret (.c (.bl true))] [],
  .asg (.nm 4) (.fn 45 [(.ix (.var 2) (.c (.int 0))), (.ix (.var 2) (.c (.int 1))), (.ix (.var 2) (.c (.int 2)))]),
  .iff (.cmp .Eq (.ix (.var 4) (.c (.int 0))) (.c (.int 0))) [
    .ret (.c (.bl false))] [],
  .ret (.cmp .LtE (.fn 28 [(.fn 11 [(.var 4), (.fn 45 [(.ix (.var 0) (.c (.int 0))), (.ix (.var 0) (.c (.int 1))), (.ix (.var 0) (.c (.int 2)))])]), (.var 1)]) (.c (.int 0)))]
/-- law_19, number 9 -/
def z_law_19 : List Z := [
  .asg (.nm 1) (.fn 24 []),
  .for_ (.nm 2) (.e (.op .Add (.ls [(.c (.int 0))]) (.sl (.var 0) (.c .non) (.aI (.c (.int 20)))))) [
    .asg (.nm 3) (.ls [(.var 2), (.c (.int 0))]),
    .asg (.nm 4) (.fn 56 [(.var 3)]),
    .asg (.nm 5) (.ix (.var 1) (.ix (.ls [(.fn 0 [(.var 3), (.c (.int 25))]), (.fn 0 [(.var 3), (.c (.int 3))])]) (.fn 0 [(.var 3), (.c (.int 2))]))),
    .asg (.nm 6) (.ls []),
    .for_ (.nm 7) (.rng1 (.c (.int 3))) [
      .asg (.tp [(.tp [(.nm 8), (.nm 9)]), (.tp [(.nm 10), (.nm 11)])]) (.fn 108 [(.var 3), (.var 5), (.var 7)]),
      .ex (.me .append (.var 6) [(.fn 69 [(.bi .list [(.var 4)]), (.ls [(.op .Sub (.op .Sub (.op .Mult (.var 9) (.var 11)) (.op .Mult (.var 8) (.var 11))) (.op .Mult (.var 10) (.var 9))), (.op .Mult (.var 8) (.var 11)), (.op .Mult (.var 10) (.var 9))])])])],
    .iff (.ro (.cmp .NotEq (.lc (.fn 59 [(.var 4), (.var 5), (.var 12)]) (.nm 12) (.e (.var 6)) (.c (.bl true)) [12]) (.ls [(.c (.int 0)), (.c (.int 1)), (.c (.int 2))])) (.no (.fn 109 [(.var 4), (.var 5), (.var 6)]))) [
      .ret (.c (.bl false))] [],
    .asg (.nm 13) (.ls [(.fn 38 [(.var 3)]), (.fn 38 [(.var 3)]), (.fn 32 [(.var 3)])]),
    .iff (.ro (.no (.fn 109 [(.var 4), (.var 5), (.var 13)])) (.no (.fn 109 [(.var 4), (.var 5), (.ls [(.ix (.var 6) (.c (.int 1))), (.ix (.var 13) (.c (.int 0))), (.ix (.var 6) (.c (.int 2)))])]))) [
      .ret (.c (.bl false))] []],
  .ret (.c (.bl true))]
end Sd
namespace Sd
open PySem
/-- law_placed, number 107 -/
def z_law_placed : List Z := [
  .asg (.tp [(.tp [(.nm 3), (.nm 4)]), (.tp [(.nm 5), (.nm 6)])]) (.fn 61 [(.var 0), (.var 2)]),
  .ret (.fn 69 [(.bi .list [(.var 1)]), (.ls [(.op .Sub (.op .Sub (.op .Mult (.var 4) (.var 6)) (.op .Mult (.var 3) (.var 6))) (.op .Mult (.var 5) (.var 4))), (.op .Mult (.var 3) (.var 6)), (.op .Mult (.var 5) (.var 4))])])]
/-- law_18, number 9 -/
def z_law_18 : List Z := [
  .asg (.nm 1) (.fn 24 []),
  .for_ (.nm 2) (.e (.op .Add (.ls [(.c (.int 0))]) (.sl (.var 0) (.c .non) (.aI (.c (.int 20)))))) [
    .asg (.nm 3) (.ls [(.var 2), (.c (.int 0))]),
    .asg (.nm 4) (.fn 56 [(.var 3)]),
    .asg (.nm 5) (.ix (.var 1) (.ix (.ls [(.fn 0 [(.var 3), (.c (.int 25))]), (.fn 0 [(.var 3), (.c (.int 3))])]) (.fn 0 [(.var 3), (.c (.int 2))]))),
    .asg (.nm 6) (.ls []),
    .for_ (.nm 7) (.rng1 (.c (.int 2))) [
      .asg (.nm 8) (.ls [(.fn 38 [(.var 3)]), (.fn 107 [(.var 3), (.var 4), (.var 5)]), (.ix (.var 4) (.fn 0 [(.var 3), (.c (.int 3))])), (.fn 32 [(.var 3)])]),
      .ex (.me .append (.var 6) [(.ix (.var 8) (.fn 0 [(.var 3), (.c (.int 4))]))])],
    .asg (.nm 9) (.lc (.fn 59 [(.var 4), (.var 5), (.var 10)]) (.nm 10) (.e (.var 6)) (.c (.bl true)) [10]),
    .for_ (.nm 7) (.rng1 (.c (.int 5))) [
      .asg (.nm 11) (.ls [(.ix (.fn 61 [(.var 3), (.var 5)]) (.c (.int 0))), (.fn 4 [(.op .Sub (.fn 0 [(.var 3), (.c (.int 21))]) (.c (.int 10))), (.op .Add (.c (.int 1)) (.fn 0 [(.var 3), (.c (.int 12))]))])]),
      .ex (.me .append (.var 9) [(.fn 59 [(.var 4), (.var 5), (.fn 48 [(.ix (.var 6) (.c (.int 0))), (.ix (.var 6) (.c (.int 1))), (.ix (.var 11) (.fn 0 [(.var 3), (.c (.int 2))]))])])])],
    .iff (.ro (.cmp .Gt (.sz (.var 9)) (.c (.int 2))) (.cmp .NotEq (.lc (.fn 59 [(.var 4), (.var 5), (.var 10)]) (.nm 10) (.e (.var 4)) (.c (.bl true)) [10]) (.ls [(.c (.int 0)), (.c (.int 1)), (.c (.int 2))]))) [
      .ret (.c (.bl false))] []],
  .ret (.c (.bl true))]
end Sd
namespace Sd
open PySem
theorem abs_ite (a : Int) : (if a < 0 then -a else a) = (a.natAbs : Int) := by
  split <;> omega
/-- divisor(one, other): the greatest common divisor -/
def c_divisor : Con := fun ds S P _ => match ds with
  | [.int a, .int b] => P (.int (Int.gcd a b)) S
  | _ => False
/-- the loop of divisor and of lowest, over two slots -/
theorem gcd_step {a b : Nat} (hb : 0 < b) : Int.fmod (a : Int) (b : Int) = ((a % b : Nat) : Int) := by
  rw [Int.fmod_eq_emod_of_nonneg _ (by omega)]
  simp
theorem m_divisor {Γ : Gam} : Meets Γ 2 z_divisor c_divisor := by
  intro ds S P W h
  match ds, h with
  | [.int a, .int b], h =>
    dsimp only [c_divisor] at h
    change wZs Γ z_divisor (retE P) [some (.int a), some (.int b)] S (errW W)
    dsimp only [z_divisor, wZs, wZ, wE, wEs, wT, wTs, lk, biS, List.set, aTru]
    rw [abs_ite, abs_ite]
    simp only [List.length_cons, List.length_nil, sizeLine_eq, Nat.reduceAdd, Nat.reduceLeDiff, true_and]
    refine ⟨fun m ρ S1 => S1 = S ∧ ∃ p q : Nat, m = q ∧ ρ = [some (.int p), some (.int q)] ∧ Nat.gcd p q = Int.gcd a b, ⟨b.natAbs, rfl, a.natAbs, b.natAbs, rfl, rfl, rfl⟩, ?_⟩
    rintro q ρ S1 ⟨rfl, p, _, rfl, rfl, hg⟩
    dsimp only [lk, List.set, cmpS, truB, opS]
    by_cases hq : (0 : Int) < (q : Int)
    · rw [if_pos (decide_eq_true hq)]
      refine ⟨by omega, p % q, Nat.mod_lt _ (by omega), rfl, q, p % q, rfl, ?_, ?_⟩
      · rw [gcd_step (by omega)]
      · rw [← hg, Nat.gcd_comm p q, Nat.gcd_rec q p, Nat.gcd_comm]
    · rw [if_neg (by simpa using hq)]
      have e : q = 0 := by omega
      subst e
      rw [Nat.gcd_zero_right] at hg
      rw [hg]
      exact ret_now h
/-! ### plain facts about sizes -/
theorem fmod_rng {a b : Int} (h : 0 < b) : 0 ≤ a.fmod b ∧ a.fmod b < b := by
  rw [Int.fmod_eq_emod_of_nonneg _ (by omega)]
  exact ⟨Int.emod_nonneg _ (by omega), Int.emod_lt_of_pos _ h⟩
theorem fdiv_rng {a b : Int} (h : 0 < b) (ha : 0 ≤ a) : 0 ≤ a.fdiv b ∧ a.fdiv b ≤ a := by
  rw [Int.fdiv_eq_ediv_of_nonneg _ (by omega)]
  exact ⟨Int.ediv_nonneg ha (by omega), Int.ediv_le_self _ ha⟩
/-! ### the law's draws -/
/-- _law_take(row, base): a number below base; the row goes on -/
def c_law_take : Con := fun ds S P _ => match ds with
  | [.ref a, .int b] => (match S a with
    | some (.lst true [.int c, .int n]) => (0 < b ∧ b < 2 ^ 200) ∧ (0 ≤ n ∧ n < 2 ^ 60) ∧ ∀ k c', 0 ≤ k → k < b → P (.int k) (S.up a (.lst true [.int c', .int (n + 1)]))
    | _ => False)
  | _ => False
theorem m_law_take {Γ : Gam} : Meets Γ 4 z_law_take c_law_take := by
  intro ds S P W h
  unfold c_law_take at h
  split at h
  · rename_i a b
    split at h
    · rename_i c n e
      obtain ⟨⟨hb, hb2⟩, ⟨hn0, hn⟩, h⟩ := h
      change wZs Γ z_law_take (retE P) [some (.ref a), some (.int b), none, none] S (errW W)
      dsimp only [z_law_take, wZs, wZ, wE, wEs, wT, wTs, lk, List.set, aTru]
      simp only [q_ixL, e, at0, at1, q_add, q_sub, q_mul, q_div, q_mod, q_pow, q_ge, q_gt, q_tb, List.length_cons, List.length_nil, ixn0, ixn1, List.set, up_same, upup]
      have p18 : L2.CPow 10 18 := ⟨by decide, by decide, by decide⟩
      have p8 : L2.CPow 10 8 := ⟨by decide, by decide, by decide⟩
      have e18 : (10 : Int) ^ Int.toNat 18 = 1000000000000000000 := by decide
      have e8 : (10 : Int) ^ Int.toNat 8 = 100000000 := by decide
      rw [e18, e8]
      have db : DivOk b := div_ok (n := 200) (by omega) (by omega) (by decide) (by decide)
      have bn : b ≠ 0 := by omega
      refine ⟨p18, if_b (fun h1 => ⟨p18, div_ok (n := 64) (by decide) (by decide) (by decide) (by decide), p18, by decide, if_b (fun h2 => ?_) fun h2 => ?_⟩) fun h1 => ?_⟩
      · exact ⟨db, p18, mul_okR (by decide), bn, ret_now (h _ _ (fmod_rng hb).1 (fmod_rng hb).2)⟩
      · exact ⟨bn, ret_now (h _ _ (fmod_rng hb).1 (fmod_rng hb).2)⟩
      · have r1 := fmod_rng (a := c) (b := 2147483629) (by decide)
        generalize c.fmod 2147483629 = u at r1
        have r2 := fmod_rng (a := u * 48271 + 104729 * (n + 1) * (n + 1) + 17) (b := 2147483647) (by decide)
        generalize (u * 48271 + 104729 * (n + 1) * (n + 1) + 17).fmod 2147483647 = v at r2
        have r3 := fmod_rng (a := v) (b := 65521) (by decide)
        generalize v.fmod 65521 = v' at r3
        have r4 := fmod_rng (a := v * (v' + 3)) (b := 2147483587) (by decide)
        generalize (v * (v' + 3)).fmod 2147483587 = t at r4
        have d7 : DivOk 7 := div_ok (n := 64) (by decide) (by decide) (by decide) (by decide)
        refine ⟨by decide, mul_okR (by decide), mul_okL (by decide), mul_okR (by omega), by decide, by decide, mul_okL (by omega), by decide, p8, if_b (fun h3 => ?_) fun h3 => ?_⟩
        · exact ⟨mul_okL (by omega), mul_okR (by omega), mul_okR (by omega), d7, bn, ret_now (h _ _ (fmod_rng hb).1 (fmod_rng hb).2)⟩
        · exact ⟨d7, bn, ret_now (h _ _ (fmod_rng hb).1 (fmod_rng hb).2)⟩
    · exact h.elim
  · exact h.elim
/-! ### fractions -/
/-- what a fraction's top and bottom are divided by -/
def gs (t b : Int) : Int := if b < 0 then 0 - (Int.gcd t b : Int) else (Int.gcd t b : Int)
def frT (t b : Int) : Int := t.fdiv (gs t b)
def frB (t b : Int) : Int := b.fdiv (gs t b)
def fr (t b : Int) : D := .tup [.int (frT t b), .int (frB t b)]
theorem gs_ne {t b : Int} (h : b ≠ 0) : gs t b ≠ 0 := by
  have : Int.gcd t b ≠ 0 := fun e => h (Int.gcd_eq_zero_iff.mp e).2
  unfold gs
  split <;> omega
theorem gs_dvd {t b : Int} : gs t b ∣ t ∧ gs t b ∣ b := by
  have h1 : (Int.gcd t b : Int) ∣ t := Int.gcd_dvd_left ..
  have h2 : (Int.gcd t b : Int) ∣ b := Int.gcd_dvd_right ..
  unfold gs
  split
  · rw [Int.zero_sub]
    exact ⟨Int.neg_dvd.mpr h1, Int.neg_dvd.mpr h2⟩
  · exact ⟨h1, h2⟩
theorem fdiv_dvd {a b : Int} (h : b ∣ a) : a.fdiv b = a / b := by
  rw [Int.fdiv_eq_ediv_of_dvd h]
theorem frT_eq {t b : Int} (h : b ≠ 0) : frT t b * gs t b = t := by
  unfold frT
  rw [fdiv_dvd gs_dvd.1]
  exact Int.ediv_mul_cancel gs_dvd.1
theorem frB_eq {t b : Int} (h : b ≠ 0) : frB t b * gs t b = b := by
  unfold frB
  rw [fdiv_dvd gs_dvd.2]
  exact Int.ediv_mul_cancel gs_dvd.2
theorem frB_pos {t b : Int} (h : b ≠ 0) : 0 < frB t b := by
  have e := frB_eq (t := t) h
  have g := gs_ne (t := t) h
  by_cases hb : b < 0
  · have hg : gs t b < 0 := by
      unfold gs at g ⊢
      rw [if_pos hb] at g ⊢
      omega
    apply Int.not_le.mp
    intro hn
    have := Int.mul_nonneg_of_nonpos_of_nonpos hn (Int.le_of_lt hg)
    omega
  · have hg : 0 < gs t b := by
      unfold gs at g ⊢
      rw [if_neg hb] at g ⊢
      omega
    apply Int.not_le.mp
    intro hn
    have := Int.mul_nonpos_of_nonpos_of_nonneg hn (Int.le_of_lt hg)
    omega
theorem fr_cross {t b : Int} (h : b ≠ 0) : frT t b * b = t * frB t b := by
  have e1 := frT_eq (t := t) h
  have e2 := frB_eq (t := t) h
  calc frT t b * b = frT t b * (frB t b * gs t b) := by rw [e2]
    _ = (frT t b * gs t b) * frB t b := by rw [Int.mul_comm (frB t b), ← Int.mul_assoc]
    _ = t * frB t b := by rw [e1]
theorem gs_abs {t b : Int} : (gs t b).natAbs = Int.gcd t b := by
  unfold gs
  split <;> omega
theorem fr_gcd {t b : Int} (h : b ≠ 0) : Int.gcd (frT t b) (frB t b) = 1 := by
  have e1 := frT_eq (t := t) h
  have e2 := frB_eq (t := t) h
  have g := gs_ne (t := t) h
  have k : Int.gcd (frT t b * gs t b) (frB t b * gs t b) = Int.gcd (frT t b) (frB t b) * (gs t b).natAbs := Int.gcd_mul_right ..
  rw [e1, e2, gs_abs] at k
  have g' : 0 < Int.gcd t b := by
    rw [← gs_abs]
    omega
  have k2 : 1 * Int.gcd t b = Int.gcd (frT t b) (frB t b) * Int.gcd t b := by rw [Nat.one_mul]; exact k
  exact (Nat.eq_of_mul_eq_mul_right g' k2).symm
theorem frT_le {t b : Int} (h : b ≠ 0) : (frT t b).natAbs ≤ t.natAbs := by
  have e := frT_eq (t := t) h
  have g := gs_ne (t := t) h
  have : t.natAbs = (frT t b).natAbs * (gs t b).natAbs := by rw [← Int.natAbs_mul, e]
  rw [this]
  exact Nat.le_mul_of_pos_right _ (by omega)
theorem frB_le {t b : Int} (h : b ≠ 0) : (frB t b).natAbs ≤ b.natAbs := by
  have e := frB_eq (t := t) h
  have g := gs_ne (t := t) h
  have : b.natAbs = (frB t b).natAbs * (gs t b).natAbs := by rw [← Int.natAbs_mul, e]
  rw [this]
  exact Nat.le_mul_of_pos_right _ (by omega)
theorem gs_one {p q : Int} (hq : 0 < q) (h : Int.gcd p q = 1) : gs p q = 1 := by
  unfold gs
  rw [if_neg (by omega), h]
  rfl
/-- the bottom below 2 ^ 9000 -/
def Lt9 (b : Int) : Prop := b.natAbs < 2 ^ 8999
theorem gs_div {t b : Int} (h : b ≠ 0) (hb : Lt9 b) : DivOk (gs t b) := by
  refine div_ok (n := 8999) (gs_ne h) ?_ (by decide) (by decide)
  rw [gs_abs]
  refine Nat.lt_of_le_of_lt ?_ hb
  exact Nat.le_of_dvd (by omega) (Nat.gcd_dvd_right t.natAbs b.natAbs)
/-- frac_of(top, bottom) -/
def c_frac_of : Con := fun ds S P W => match ds with
  | [.int t, .int b] => (b = 0 → W 1 none S) ∧ (b ≠ 0 → Lt9 b ∧ P (fr t b) S)
  | _ => False
theorem m_frac_of {Γ : Gam} (h2 : Γ.fn 2 = c_divisor) (a2 : Γ.ar 2 = 2) : Meets Γ 3 z_frac_of c_frac_of := by
  intro ds S P W h
  unfold c_frac_of at h
  split at h
  · rename_i t b
    change wZs Γ z_frac_of (retE P) [some (.int t), some (.int b), none] S (errW W)
    dsimp only [z_frac_of, wZs, wZ, wE, wEs, wT, wTs, lk, List.set, aTru]
    simp only [h2, a2, c_divisor, q_eq, q_lt, q_tb, q_sub, q_div, List.length_cons, List.length_nil, Nat.reduceAdd, true_and, sizeLine_eq, Nat.reduceLeDiff, lk, List.set]
    refine if_b (fun hb => err_now (h.1 hb)) fun hb => ?_
    obtain ⟨h9, hp⟩ := h.2 hb
    have dv := gs_div (t := t) hb h9
    refine if_b (fun hn => ?_) fun hn => ?_
    · have e : 0 - (Int.gcd t b : Int) = gs t b := by unfold gs; rw [if_pos hn]
      rw [e]
      exact ⟨dv, dv, ret_now hp⟩
    · have e : (Int.gcd t b : Int) = gs t b := by unfold gs; rw [if_neg hn]
      rw [e]
      exact ⟨dv, dv, ret_now hp⟩
  · exact h.elim
/-- _law_number(row): below 10 ** 30 -/
def c_law_number : Con := fun ds S P _ => match ds with
  | [.ref a] => (match S a with
    | some (.lst true [.int c, .int n]) => (0 ≤ n ∧ n < 2 ^ 59) ∧ ∀ k c', k.natAbs < 10 ^ 30 → P (.int k) (S.up a (.lst true [.int c', .int (n + 1 + 1)]))
    | _ => False)
  | _ => False
theorem m_law_number {Γ : Gam} (h0 : Γ.fn 0 = c_law_take) (a0 : Γ.ar 0 = 2) : Meets Γ 2 z_law_number c_law_number := by
  intro ds S P W h
  unfold c_law_number at h
  split at h
  · rename_i a
    split at h
    · rename_i c n e
      obtain ⟨⟨hn0, hn⟩, h⟩ := h
      change wZs Γ z_law_number (retE P) [some (.ref a), none] S (errW W)
      dsimp only [z_law_number, wZs, wZ, wE, wEs, wT, wTs, lk, List.set, aTru]
      simp only [h0, a0, c_law_take, q_sub, q_mul, q_pow, q_add, q_eq, q_tb, e, List.length_cons, List.length_nil, Nat.reduceAdd, true_and, up_same, upup]
      have p9 : L2.CPow 10 9 := ⟨by decide, by decide, by decide⟩
      have p30 : L2.CPow 10 30 := ⟨by decide, by decide, by decide⟩
      have e9 : (10 : Int) ^ Int.toNat 9 = 1000000000 := by decide
      have e30 : (10 : Int) ^ Int.toNat 30 = 1000000000000000000000000000000 := by decide
      rw [e9, e30]
      refine ⟨by decide, ⟨hn0, by omega⟩, fun k c1 k0 k1 => if_b (fun _ => ?_) fun _ => if_b (fun _ => ?_) fun _ => if_b (fun _ => ?_) fun _ => ?_⟩
      · exact ⟨by decide, ⟨by omega, by omega⟩, fun k c2 k0 k1 => ret_now (h _ _ (by omega))⟩
      · exact ⟨by decide, ⟨by omega, by omega⟩, fun k c2 k0 k1 => ret_now (h _ _ (by omega))⟩
      · exact ⟨p9, mul_okL (by decide), by decide, ⟨by omega, by omega⟩, fun k c2 k0 k1 => ⟨p9, ret_now (h _ _ (by omega))⟩⟩
      · exact ⟨p30, mul_okL (by decide), by decide, ⟨by omega, by omega⟩, fun k c2 k0 k1 => ⟨p30, ret_now (h _ _ (by omega))⟩⟩
    · exact h.elim
  · exact h.elim
/-- _law_lowest(top, bottom) -/
def c_law_lowest : Con := fun ds S P _ => match ds with
  | [.int t, .int b] => b ≠ 0 ∧ Lt9 b ∧ P (fr t b) S
  | _ => False
theorem m_law_lowest {Γ : Gam} : Meets Γ 4 z_law_lowest c_law_lowest := by
  intro ds S P W h
  unfold c_law_lowest at h
  split at h
  · rename_i t b
    obtain ⟨hb, h9, hp⟩ := h
    change wZs Γ z_law_lowest (retE P) [some (.int t), some (.int b), none, none] S (errW W)
    dsimp only [z_law_lowest, wZs, wZ, wE, wEs, wT, wTs, lk, List.set, aTru]
    simp only [q_abs, q_gt, q_lt, q_tb, q_sub, q_div, q_mod, List.length_cons, List.length_nil, Nat.reduceAdd, true_and, sizeLine_eq, Nat.reduceLeDiff, lk, List.set]
    refine ⟨fun m ρ S1 => S1 = S ∧ ∃ p q : Nat, m = q ∧ ρ = [some (.int t), some (.int b), some (.int p), some (.int q)] ∧ Nat.gcd p q = Int.gcd t b, ⟨b.natAbs, rfl, t.natAbs, b.natAbs, rfl, rfl, rfl⟩, ?_⟩
    rintro q ρ S1 ⟨rfl, p, _, rfl, rfl, hg⟩
    simp only [lk, List.set, q_gt, q_mod, q_lt, q_tb, q_div, q_sub]
    refine if_b (fun hq => ?_) fun hq => ?_
    · refine ⟨by omega, p % q, Nat.mod_lt _ (by omega), trivial, q, p % q, rfl, ?_, ?_⟩
      · rw [gcd_step (by omega)]
      · rw [← hg, Nat.gcd_comm p q, Nat.gcd_rec q p, Nat.gcd_comm]
    · have e : q = 0 := by omega
      subst e
      rw [Nat.gcd_zero_right] at hg
      rw [hg]
      have dv := gs_div (t := t) hb h9
      refine if_b (fun hn => ?_) fun hn => ?_
      · have e : 0 - (Int.gcd t b : Int) = gs t b := by unfold gs; rw [if_pos hn]
        rw [e]
        exact ⟨dv, dv, ret_now hp⟩
      · have e : (Int.gcd t b : Int) = gs t b := by unfold gs; rw [if_neg hn]
        rw [e]
        exact ⟨dv, dv, ret_now hp⟩
  · exact h.elim
/-- _law_whole(found) -/
def c_law_whole : Con := fun ds S P _ => match ds with
  | [d] => (match btOf S d with
    | some k => P (.bl (k == "int")) S
    | none => False)
  | _ => False
theorem m_law_whole {Γ : Gam} : Meets Γ 1 z_law_whole c_law_whole := by
  intro ds S P W h
  unfold c_law_whole at h
  split at h
  · rename_i d
    split at h
    · rename_i k e
      change wZs Γ z_law_whole (retE P) [some d] S (errW W)
      dsimp only [z_law_whole, wZs, wZ, wE, wEs, wT, wTs, lk, List.set, aTru]
      simp only [isiAny, isiOne, e, btSub, q_tb]
      by_cases h1 : k = "int"
      · subst h1
        exact ret_now h
      · by_cases h2 : k = "bool"
        · subst h2
          exact ret_now h
        · have e1 : (k == "int") = false := by simpa using h1
          have e2 : (k == "bool") = false := by simpa using h2
          simp only [e1, e2, Bool.false_and, Bool.false_or, Bool.or_false, q_tb] at h ⊢
          exact ret_now h
    · exact h.elim
  · exact h.elim
theorem whole_int {S : Sto} {P : PD} {W : FW} {i : Int} : c_law_whole [.int i] S P W = P (.bl true) S := rfl
theorem whole_bl {S : Sto} {P : PD} {W : FW} {i : Bool} : c_law_whole [.bl i] S P W = P (.bl false) S := rfl
theorem whole_tup {S : Sto} {P : PD} {W : FW} {l : List D} : c_law_whole [.tup l] S P W = P (.bl false) S := rfl
theorem whole_non {S : Sto} {P : PD} {W : FW} : c_law_whole [.non] S P W = P (.bl false) S := rfl
/-- the greatest common divisor of two numbers divided by it -/
theorem gcd_div {a b : Int} (h : Int.gcd a b ≠ 0) : Int.gcd (a.fdiv (Int.gcd a b : Int)) (b.fdiv (Int.gcd a b : Int)) = 1 := by
  have h1 : (Int.gcd a b : Int) ∣ a := Int.gcd_dvd_left ..
  have h2 : (Int.gcd a b : Int) ∣ b := Int.gcd_dvd_right ..
  rw [fdiv_dvd h1, fdiv_dvd h2]
  have k : Int.gcd (a / (Int.gcd a b : Int) * (Int.gcd a b : Int)) (b / (Int.gcd a b : Int) * (Int.gcd a b : Int)) = Int.gcd (a / (Int.gcd a b : Int)) (b / (Int.gcd a b : Int)) * ((Int.gcd a b : Int)).natAbs := Int.gcd_mul_right ..
  rw [Int.ediv_mul_cancel h1, Int.ediv_mul_cancel h2] at k
  have e : ((Int.gcd a b : Int)).natAbs = Int.gcd a b := by omega
  rw [e] at k
  have k2 : 1 * Int.gcd a b = Int.gcd (a / (Int.gcd a b : Int)) (b / (Int.gcd a b : Int)) * Int.gcd a b := by rw [Nat.one_mul]; exact k
  exact (Nat.eq_of_mul_eq_mul_right (by omega) k2).symm
theorem fmod_dvd {a b : Int} (h : b ∣ a) : a.fmod b = 0 := Int.fmod_eq_zero_of_dvd h
theorem fdiv_one {a : Int} : a.fdiv 1 = a := Int.fdiv_one ..
theorem fdiv_neg1 {a : Int} : a.fdiv (0 - 1) = 0 - a := by
  rw [fdiv_dvd (by exact ⟨-a, by omega⟩)]
  omega
theorem fr_low {p q : Int} (h : Int.gcd p q = 1) : fr p q = .tup [.int p, .int q] ∨ fr p q = .tup [.int (0 - p), .int (0 - q)] := by
  unfold fr frT frB gs
  rw [h]
  by_cases hq : q < 0
  · rw [if_pos hq]
    exact .inr (by rw [show (0 : Int) - ((1 : Nat) : Int) = 0 - 1 from rfl, fdiv_neg1, fdiv_neg1])
  · rw [if_neg hq]
    exact .inl (by rw [show ((1 : Nat) : Int) = 1 from rfl, fdiv_one, fdiv_one])
theorem fr_self {p q : Int} (hq : 0 < q) (h : Int.gcd p q = 1) : fr p q = .tup [.int p, .int q] := by
  unfold fr frT frB
  rw [gs_one hq h, fdiv_one, fdiv_one]
theorem gcd_small {a b : Int} (h : ¬ (a = 0 ∧ b = 0)) : Int.gcd a b ≠ 0 := fun e => h (Int.gcd_eq_zero_iff.mp e)
theorem gcd_ok {a b : Int} (h : ¬ (a = 0 ∧ b = 0)) (ha : Lt9 a) (hb : Lt9 b) : DivOk (Int.gcd a b : Int) := by
  have g := gcd_small h
  refine div_ok (n := 8999) (by omega) ?_ (by decide) (by decide)
  rw [show ((Int.gcd a b : Int)).natAbs = Int.gcd a b by omega]
  by_cases z : b = 0
  · refine Nat.lt_of_le_of_lt ?_ ha
    exact Nat.le_of_dvd (by omega) (Nat.gcd_dvd_left a.natAbs b.natAbs)
  · refine Nat.lt_of_le_of_lt ?_ hb
    exact Nat.le_of_dvd (by omega) (Nat.gcd_dvd_right a.natAbs b.natAbs)
theorem fdiv_le {a b : Int} (h : b ∣ a) (hb : b ≠ 0) : (a.fdiv b).natAbs ≤ a.natAbs := by
  rw [fdiv_dvd h]
  have e : a / b * b = a := Int.ediv_mul_cancel h
  have : a.natAbs = (a / b).natAbs * b.natAbs := by rw [← Int.natAbs_mul, e]
  rw [this]
  exact Nat.le_mul_of_pos_right _ (by omega)
/-- _law_is_frac of a pair of numbers -/
def c_law_is_frac : Con := fun ds S P _ => match ds with
  | [.tup [.int p, .int q]] => Lt9 q ∧ P (.bl (decide (0 < q ∧ Int.gcd p q = 1))) S
  | _ => False
theorem m_law_is_frac {Γ : Gam} (h4 : Γ.fn 4 = c_law_lowest) (a4 : Γ.ar 4 = 2) (h5 : Γ.fn 5 = c_law_whole) (a5 : Γ.ar 5 = 1) : Meets Γ 1 z_law_is_frac c_law_is_frac := by
  intro ds S P W h
  unfold c_law_is_frac at h
  split at h
  · rename_i p q
    obtain ⟨h9, hp⟩ := h
    change wZs Γ z_law_is_frac (retE P) [some (.tup [.int p, .int q])] S (errW W)
    dsimp only [z_law_is_frac, wZs, wZ, wE, wEs, wT, wTs, lk, List.set, aTru]
    simp only [h4, a4, h5, a5, whole_int, c_law_lowest, q_ixT, at0, at1, q_lenT, q_gt, q_tb, q_ne, List.length_cons, List.length_nil, Nat.reduceAdd, true_and, sizeLine_eq, Nat.reduceLeDiff, Bool.not_true, isiAny, isiOne, btOf]
    refine mb_d (fun hq => ⟨by omega, h9, ?_⟩) fun hq => ?_
    · unfold fr
      rw [q_eqP]
      have e : (frT p q = p ∧ frB p q = q) ↔ (0 < q ∧ Int.gcd p q = 1) := by
        constructor
        · intro ⟨e1, e2⟩
          have := fr_gcd (t := p) (b := q) (by omega)
          rw [e1, e2] at this
          exact ⟨hq, this⟩
        · intro ⟨_, e⟩
          have := fr_self hq e
          unfold fr at this
          injection this with this
          injection this with t1 this
          injection this with t2 this
          injection t1 with t1
          injection t2 with t2
          exact ⟨t1, t2⟩
      rw [decide_eq_decide.mpr e]
      exact ret_now hp
    · rw [decide_eq_false (fun x => hq x.1)] at hp
      rw [decide_eq_false hq]
      exact ret_now hp
  · exact h.elim
theorem lt9_30 {k : Int} (h : k.natAbs < 10 ^ 30) : Lt9 k := Nat.lt_trans h (by decide +kernel)
theorem lt9_0 : Lt9 0 := by
  unfold Lt9
  decide +kernel
/-- what the laws get and give -/
def c_lawT : Con := fun ds S P _ => match ds with
  | [.ref a] => ∃ (w : Bool) (ns : List Int), S a = some (.lst w (ns.map D.int)) ∧ ns.length ≤ 63 ∧ P (.bl true) S
  | _ => False
theorem lawT_con : LawCon c_lawT := fun a w ns S hl hb e => ⟨w, ns, e, hl, rfl⟩
end Sd
namespace Sd
open PySem
theorem Bd.lt9 {n : Nat} {x : Int} (h : Bd n x) (hl : n ≤ 8999) : Lt9 x := h.mono hl
theorem bd30 {x : Int} (h : x.natAbs < 10 ^ 30) : Bd 100 x := Nat.lt_trans h (by decide +kernel)
theorem Bd.frT {n : Nat} {t b : Int} (h : Bd n t) (hb : b ≠ 0) : Bd n (frT t b) := h.le (frT_le hb)
theorem Bd.frB {n : Nat} {t b : Int} (h : Bd n b) (hb : b ≠ 0) : Bd n (frB t b) := h.le (frB_le hb)
/-- a fraction, as a pair -/
abbrev Fr := Int × Int
def dF (x : Fr) : D := .tup [.int x.1, .int x.2]
def frF (t b : Int) : Fr := (frT t b, frB t b)
/-- in lowest terms -/
def Low (x : Fr) : Prop := 0 < x.2 ∧ Int.gcd x.1 x.2 = 1
instance {x : Fr} : Decidable (Low x) := inferInstanceAs (Decidable (_ ∧ _))
theorem q_eqF {x y : Fr} {S : Sto} {P : PD} : cmpS .Eq (dF x) (dF y) S P = P (.bl (decide (x = y))) S := by
  unfold dF
  rw [q_eqP, decide_eq_decide.mpr (show (x.1 = y.1 ∧ x.2 = y.2) ↔ x = y from ⟨fun h => Prod.ext h.1 h.2, fun h => h ▸ ⟨rfl, rfl⟩⟩)]
theorem q_neF {x y : Fr} {S : Sto} {P : PD} : cmpS .NotEq (dF x) (dF y) S P = P (.bl (!decide (x = y))) S := by
  unfold dF
  rw [q_neP, decide_eq_decide.mpr (show (x.1 = y.1 ∧ x.2 = y.2) ↔ x = y from ⟨fun h => Prod.ext h.1 h.2, fun h => h ▸ ⟨rfl, rfl⟩⟩)]
theorem q_isF {x : Fr} {S : Sto} {P : PD} {W : FW} : c_law_is_frac [dF x] S P W = (Lt9 x.2 ∧ P (.bl (decide (Low x))) S) := rfl
theorem low_frF {t b : Int} (h : b ≠ 0) : Low (frF t b) := ⟨frB_pos h, fr_gcd h⟩
/-- _law_frac(row) -/
def c_law_frac : Con := fun ds S P _ => match ds with
  | [.ref a] => (match S a with
    | some (.lst true [.int c, .int n]) => (0 ≤ n ∧ n < 2 ^ 58) ∧ ∀ p q c', Bd 100 p → Bd 100 q → Low (p, q) → P (.tup [.int p, .int q]) (S.up a (.lst true [.int c', .int (n + 4)]))
    | _ => False)
  | _ => False
theorem m_law_frac {Γ : Gam} (h1 : Γ.fn 1 = c_law_number) (a1 : Γ.ar 1 = 1) (h4 : Γ.fn 4 = c_law_lowest) (a4 : Γ.ar 4 = 2) : Meets Γ 2 z_law_frac c_law_frac := by
  intro ds S P W h
  unfold c_law_frac at h
  split at h
  · rename_i a
    split at h
    · rename_i c n e
      obtain ⟨⟨hn0, hn⟩, h⟩ := h
      change wZs Γ z_law_frac (retE P) [some (.ref a), none] S (errW W)
      dsimp only [z_law_frac, wZs, wZ, wE, wEs, wT, wTs, lk, List.set, aTru]
      simp only [h1, a1, h4, a4, c_law_number, c_law_lowest, q_eq, q_tb, e, List.length_cons, List.length_nil, Nat.reduceAdd, true_and, up_same, upup, lk, List.set]
      have go : ∀ q, q ≠ 0 → q.natAbs < 10 ^ 30 → ∀ p c2, p.natAbs < 10 ^ 30 → (retE P).rt (fr p q) (S.up a (.lst true [.int c2, .int (n + 1 + 1 + 1 + 1)])) := fun q hq hb p c2 hp => by
        have e4 : n + 1 + 1 + 1 + 1 = n + 4 := by omega
        rw [e4]
        exact ret_now (h _ _ _ ((bd30 hp).frT hq) ((bd30 hb).frB hq) (low_frF hq))
      refine ⟨⟨hn0, by omega⟩, fun q c1 hq => if_b (fun z => ?_) fun z => ?_⟩
      · exact ⟨⟨by omega, by omega⟩, fun p c2 hp => ⟨by decide, Bd.lt9 (n := 1) (by unfold Bd; decide) (by decide), go 1 (by decide) (by decide) p c2 hp⟩⟩
      · exact ⟨⟨by omega, by omega⟩, fun p c2 hp => ⟨z, lt9_30 hq, go q z hq p c2 hp⟩⟩
    · exact h.elim
  · exact h.elim
/-- four numbers of so many bits -/
def Bd4 (a b c d : Int) : Prop := ∃ n, n ≤ 4499 ∧ Bd n a ∧ Bd n b ∧ Bd n c ∧ Bd n d
def c_added : Con := fun ds S P _ => match ds with
  | [.tup [.int a, .int b], .tup [.int c, .int d]] => b ≠ 0 ∧ d ≠ 0 ∧ Bd4 a b c d ∧ P (fr (a * d + c * b) (b * d)) S
  | _ => False
def c_lessened : Con := fun ds S P _ => match ds with
  | [.tup [.int a, .int b], .tup [.int c, .int d]] => b ≠ 0 ∧ d ≠ 0 ∧ Bd4 a b c d ∧ P (fr (a * d - c * b) (b * d)) S
  | _ => False
def c_multiplied : Con := fun ds S P _ => match ds with
  | [.tup [.int a, .int b], .tup [.int c, .int d]] => b ≠ 0 ∧ d ≠ 0 ∧ Bd4 a b c d ∧ P (fr (a * c) (b * d)) S
  | _ => False
def c_quotient : Con := fun ds S P W => match ds with
  | [.tup [.int a, .int b], .tup [.int c, .int d]] => b ≠ 0 ∧ d ≠ 0 ∧ Bd4 a b c d ∧ (c = 0 → W 1 none S) ∧ (c ≠ 0 → P (fr (a * d) (b * c)) S)
  | _ => False
def c_is_below : Con := fun ds S P _ => match ds with
  | [.tup [.int a, .int b], .tup [.int c, .int d]] => Bd4 a b c d ∧ P (.bl (decide (a * d < c * b))) S
  | _ => False
theorem m_added {Γ : Gam} (h3 : Γ.fn 3 = c_frac_of) (a3 : Γ.ar 3 = 2) : Meets Γ 2 z_added c_added := by
  intro ds S P W h
  unfold c_added at h
  split at h
  · rename_i a b c d
    obtain ⟨hb, hd, ⟨n, hn, ba, bb, bc, bd⟩, hp⟩ := h
    change wZs Γ z_added (retE P) [some (.tup [.int a, .int b]), some (.tup [.int c, .int d])] S (errW W)
    dsimp only [z_added, wZs, wZ, wE, wEs, wT, wTs, lk, List.set, aTru]
    simp only [h3, a3, c_frac_of, q_ixT, at0, at1, q_mul, q_add, List.length_cons, List.length_nil, Nat.reduceAdd, true_and]
    exact ⟨ba.ok bd (by omega), bc.ok bb (by omega), bb.ok bd (by omega), fun z => (Int.mul_ne_zero hb hd z).elim, fun _ => ⟨(bb.mul bd).lt9 (by omega), ret_now hp⟩⟩
  · exact h.elim
theorem m_lessened {Γ : Gam} (h3 : Γ.fn 3 = c_frac_of) (a3 : Γ.ar 3 = 2) : Meets Γ 2 z_lessened c_lessened := by
  intro ds S P W h
  unfold c_lessened at h
  split at h
  · rename_i a b c d
    obtain ⟨hb, hd, ⟨n, hn, ba, bb, bc, bd⟩, hp⟩ := h
    change wZs Γ z_lessened (retE P) [some (.tup [.int a, .int b]), some (.tup [.int c, .int d])] S (errW W)
    dsimp only [z_lessened, wZs, wZ, wE, wEs, wT, wTs, lk, List.set, aTru]
    simp only [h3, a3, c_frac_of, q_ixT, at0, at1, q_mul, q_sub, List.length_cons, List.length_nil, Nat.reduceAdd, true_and]
    exact ⟨ba.ok bd (by omega), bc.ok bb (by omega), bb.ok bd (by omega), fun z => (Int.mul_ne_zero hb hd z).elim, fun _ => ⟨(bb.mul bd).lt9 (by omega), ret_now hp⟩⟩
  · exact h.elim
theorem m_multiplied {Γ : Gam} (h3 : Γ.fn 3 = c_frac_of) (a3 : Γ.ar 3 = 2) : Meets Γ 2 z_multiplied c_multiplied := by
  intro ds S P W h
  unfold c_multiplied at h
  split at h
  · rename_i a b c d
    obtain ⟨hb, hd, ⟨n, hn, ba, bb, bc, bd⟩, hp⟩ := h
    change wZs Γ z_multiplied (retE P) [some (.tup [.int a, .int b]), some (.tup [.int c, .int d])] S (errW W)
    dsimp only [z_multiplied, wZs, wZ, wE, wEs, wT, wTs, lk, List.set, aTru]
    simp only [h3, a3, c_frac_of, q_ixT, at0, at1, q_mul, List.length_cons, List.length_nil, Nat.reduceAdd, true_and]
    exact ⟨ba.ok bc (by omega), bb.ok bd (by omega), fun z => (Int.mul_ne_zero hb hd z).elim, fun _ => ⟨(bb.mul bd).lt9 (by omega), ret_now hp⟩⟩
  · exact h.elim
theorem m_quotient {Γ : Gam} (h3 : Γ.fn 3 = c_frac_of) (a3 : Γ.ar 3 = 2) : Meets Γ 2 z_quotient c_quotient := by
  intro ds S P W h
  unfold c_quotient at h
  split at h
  · rename_i a b c d
    obtain ⟨hb, hd, ⟨n, hn, ba, bb, bc, bd⟩, hw, hp⟩ := h
    change wZs Γ z_quotient (retE P) [some (.tup [.int a, .int b]), some (.tup [.int c, .int d])] S (errW W)
    dsimp only [z_quotient, wZs, wZ, wE, wEs, wT, wTs, lk, List.set, aTru]
    simp only [h3, a3, c_frac_of, q_ixT, at0, at1, q_mul, q_eq, q_tb, List.length_cons, List.length_nil, Nat.reduceAdd, true_and]
    refine if_b (fun z => err_now (hw z)) fun z => ?_
    exact ⟨ba.ok bd (by omega), bb.ok bc (by omega), fun y => (Int.mul_ne_zero hb z y).elim, fun _ => ⟨(bb.mul bc).lt9 (by omega), ret_now (hp z)⟩⟩
  · exact h.elim
theorem m_is_below {Γ : Gam} : Meets Γ 2 z_is_below c_is_below := by
  intro ds S P W h
  unfold c_is_below at h
  split at h
  · rename_i a b c d
    obtain ⟨⟨n, hn, ba, bb, bc, bd⟩, hp⟩ := h
    change wZs Γ z_is_below (retE P) [some (.tup [.int a, .int b]), some (.tup [.int c, .int d])] S (errW W)
    dsimp only [z_is_below, wZs, wZ, wE, wEs, wT, wTs, lk, List.set, aTru]
    simp only [q_ixT, at0, at1, q_mul, q_lt, List.length_cons, List.length_nil, Nat.reduceAdd, true_and]
    exact ⟨ba.ok bd (by omega), bc.ok bb (by omega), ret_now hp⟩
  · exact h.elim
/-! ### sums of fractions -/
def addF (x y : Fr) : Fr := frF (x.1 * y.2 + y.1 * x.2) (x.2 * y.2)
def sumF (l : List Fr) (x : Fr) : Fr := l.foldl addF x
/-- after k parts of 100 bits -/
def Sum9 (k : Nat) (x : Fr) : Prop := x.2 ≠ 0 ∧ Bd (101 * k + 1) x.1 ∧ Bd (101 * k + 1) x.2
def Part (x : Fr) : Prop := x.2 ≠ 0 ∧ Bd 100 x.1 ∧ Bd 100 x.2
theorem sum9_add {k : Nat} {x y : Fr} (h : Sum9 k x) (hy : Part y) : Sum9 (k + 1) (addF x y) := by
  obtain ⟨h1, h2, h3⟩ := h
  obtain ⟨p1, p2, p3⟩ := hy
  have z : x.2 * y.2 ≠ 0 := Int.mul_ne_zero h1 p1
  have m1 : Bd (101 * k + 1 + 100 + 1) (x.1 * y.2 + y.1 * x.2) := (h2.mul p3).add ((p2.mul h3).mono (by omega))
  have m2 : Bd (101 * k + 1 + 100) (x.2 * y.2) := h3.mul p3
  exact ⟨Int.ne_of_gt (frB_pos z), (m1.frT z).mono (by omega), (m2.frB z).mono (by omega)⟩
/-- sum_of(parts) -/
def c_sum_of : Con := fun ds S P _ => match ds with
  | [.ref a] => ∃ w l, S a = some (.lst w (l.map dF)) ∧ l.length ≤ 30 ∧ (∀ x ∈ l, Part x) ∧ P (dF (sumF l (0, 1))) S
  | _ => False
theorem m_sum_of {Γ : Gam} (h14 : Γ.fn 14 = c_added) (a14 : Γ.ar 14 = 2) : Meets Γ 3 z_sum_of c_sum_of := by
  intro ds S P W h
  unfold c_sum_of at h
  split at h
  · rename_i a
    obtain ⟨w, l, e, hl, hpt, hp⟩ := h
    change wZs Γ z_sum_of (retE P) [some (.ref a), none, none] S (errW W)
    dsimp only [z_sum_of, wZs, wZ, wE, wEs, wT, wTs, wI, lk, List.set, aTru]
    simp only [e, List.length_cons, List.length_nil, Nat.reduceAdd, Nat.reduceLeDiff, sizeLine_eq, true_and]
    refine for_ind (src := .lst a w (l.map dF)) (fun r ρ S1 => S1 = S ∧ ∃ k x y m, r = m.map dF ∧ ρ = [some (.ref a), some (dF x), y] ∧ Sum9 k x ∧ k + m.length ≤ 30 ∧ (∀ x ∈ m, Part x) ∧ sumF m x = sumF l (0, 1)) ?_ ?_ ?_ ⟨rfl, 0, (0, 1), none, l, rfl, rfl, ⟨by decide, by unfold Bd; decide, by unfold Bd; decide⟩, by omega, hpt, rfl⟩
    · rintro r ρ S1 ⟨rfl, _⟩
      exact e
    · rintro ρ S1 ⟨rfl, k, x, y, m, hm, rfl, hx, hk, hmp, hs⟩
      have hm' : m = [] := by
        cases m with
        | nil => rfl
        | cons _ _ => cases hm
      subst hm'
      have hs' : x = sumF l (0, 1) := hs
      rw [← hs'] at hp
      exact ret_now hp
    · rintro F d r ρ S1 ⟨rfl, k, x, y, m, hm, rfl, hx, hk, hmp, hs⟩ hF
      cases m with
      | nil => cases hm
      | cons y m =>
        simp only [List.map_cons, List.cons.injEq] at hm
        obtain ⟨rfl, rfl⟩ := hm
        have py := hmp y (by simp)
        have s9 := sum9_add hx py
        have hk' : k + (m.length + 1) ≤ 30 := hk
        simp only [List.set, lk, h14, a14, c_added, dF]
        refine ⟨trivial, hx.1, py.1, ⟨3500, by omega, hx.2.1.mono (by omega), hx.2.2.mono (by omega), py.2.1.mono (by omega), py.2.2.mono (by omega)⟩, ?_⟩
        exact hF _ _ ⟨rfl, k + 1, addF x y, _, m, rfl, rfl, s9, by omega, fun z hz => hmp z (by simp [hz]), hs⟩
  · exact h.elim
end Sd
namespace Sd
open PySem
abbrev c_law_take_2 : Con := c_law_take
theorem m_law_take_2 {Γ : Gam} : Meets Γ 4 z_law_take_2 c_law_take_2 := by
  intro ds S P W h
  unfold c_law_take_2 c_law_take at h
  split at h
  · rename_i a b
    split at h
    · rename_i c n e
      obtain ⟨⟨hb, hb2⟩, ⟨hn0, hn⟩, h⟩ := h
      change wZs Γ z_law_take_2 (retE P) [some (.ref a), some (.int b), none, none] S (errW W)
      dsimp only [z_law_take_2, wZs, wZ, wE, wEs, wT, wTs, lk, List.set, aTru]
      simp only [q_ixL, e, at0, at1, q_add, q_sub, q_mul, q_div, q_mod, q_pow, q_ge, q_gt, q_tb, List.length_cons, List.length_nil, ixn0, ixn1, List.set, up_same, upup]
      have p18 : L2.CPow 10 18 := ⟨by decide, by decide, by decide⟩
      have e18 : (10 : Int) ^ Int.toNat 18 = 1000000000000000000 := by decide
      rw [e18]
      have db : DivOk b := div_ok (n := 200) (by omega) (by omega) (by decide) (by decide)
      have bn : b ≠ 0 := by omega
      refine ⟨p18, if_b (fun h1 => ⟨p18, div_ok (n := 64) (by decide) (by decide) (by decide) (by decide), p18, by decide, if_b (fun h2 => ?_) fun h2 => ?_⟩) fun h1 => ?_⟩
      · exact ⟨db, p18, mul_okR (by decide), bn, ret_now (h _ _ (fmod_rng hb).1 (fmod_rng hb).2)⟩
      · exact ⟨bn, ret_now (h _ _ (fmod_rng hb).1 (fmod_rng hb).2)⟩
      · have r1 := fmod_rng (a := c) (b := 2147483629) (by decide)
        generalize c.fmod 2147483629 = u at r1
        have r2 := fmod_rng (a := u * 48271 + 104729 * (n + 1) * (n + 1) + 17) (b := 2147483647) (by decide)
        generalize (u * 48271 + 104729 * (n + 1) * (n + 1) + 17).fmod 2147483647 = v at r2
        have r3 := fmod_rng (a := v) (b := 65521) (by decide)
        have d7 : DivOk 7 := div_ok (n := 64) (by decide) (by decide) (by decide) (by decide)
        exact ⟨by decide, mul_okR (by decide), mul_okL (by decide), mul_okR (by omega), by decide, by decide, mul_okL (by omega), by decide, d7, bn, ret_now (h _ _ (fmod_rng hb).1 (fmod_rng hb).2)⟩
    · exact h.elim
  · exact h.elim
/-! ### things of any kind -/
/-- of a known kind -/
def Kd (S : Sto) (d : D) : Prop := ∃ k, btOf S d = some k
/-- a part of a tuple -/
def Comp (S : Sto) (x : D) : Prop := Kd S x ∧ ∀ i, x = .int i → Bd 200 i
/-- a thing: a tuple of parts, or no tuple -/
def Thing (S : Sto) : D → Prop
  | .tup l => ∀ x ∈ l, Comp S x
  | d => Kd S d
theorem comp_int {S : Sto} {i : Int} (h : Bd 200 i) : Comp S (.int i) := ⟨⟨_, rfl⟩, fun _ e => by cases e; exact h⟩
theorem comp_bl {S : Sto} {b : Bool} : Comp S (.bl b) := ⟨⟨_, rfl⟩, fun _ e => by cases e⟩
theorem comp_non {S : Sto} : Comp S .non := ⟨⟨_, rfl⟩, fun _ e => by cases e⟩
theorem comp_str {S : Sto} {s : Str} : Comp S (.str s) := ⟨⟨_, rfl⟩, fun _ e => by cases e⟩
theorem comp_tup {S : Sto} {l : List D} : Comp S (.tup l) := ⟨⟨_, rfl⟩, fun _ e => by cases e⟩
theorem bt_ref {S : Sto} {a : Addr} : btOf S (.ref a) = (match S a with
    | some (.lst _ _) => some "list"
    | _ => none) := rfl
theorem bt_list {S : Sto} {a : Addr} {k : String} (e : btOf S (.ref a) = some k) : k = "list" := by
  rw [bt_ref] at e
  split at e
  · cases e; rfl
  · cases e
theorem kd_ref {S : Sto} {p : Addr} {w : Bool} {l : List D} (h : S p = some (.lst w l)) : Kd S (.ref p) := by
  refine ⟨"list", ?_⟩
  rw [bt_ref, h]
theorem comp_ref {S : Sto} {p : Addr} {w : Bool} {l : List D} (h : S p = some (.lst w l)) : Comp S (.ref p) := ⟨kd_ref h, fun _ e => by cases e⟩
/-- is a fraction -/
def fracB : D → Bool
  | .tup [.int p, .int q] => decide (0 < q ∧ Int.gcd p q = 1)
  | _ => false
abbrev c_is_whole : Con := c_law_whole
theorem m_is_whole {Γ : Gam} : Meets Γ 1 z_is_whole c_is_whole := m_law_whole (Γ := Γ)
def c_is_frac : Con := fun ds S P _ => match ds with
  | [d] => Thing S d ∧ P (.bl (fracB d)) S
  | _ => False
theorem whole_kd {S : Sto} {P : PD} {W : FW} {x : D} (h : Kd S x) (h1 : ∀ i, x = .int i → P (.bl true) S) (h2 : (∀ i, x ≠ .int i) → P (.bl false) S) : c_law_whole [x] S P W := by
  obtain ⟨k, e⟩ := h
  show match btOf S x with
    | some k => P (.bl (k == "int")) S
    | none => False
  rw [e]
  show P (.bl (k == "int")) S
  cases x with
  | int i => cases e; exact h1 i rfl
  | non => cases e; exact h2 (fun _ z => by cases z)
  | bl b => cases e; exact h2 (fun _ z => by cases z)
  | str s => cases e; exact h2 (fun _ z => by cases z)
  | ty t => cases e
  | tup l => cases e; exact h2 (fun _ z => by cases z)
  | ref a =>
    have : k = "list" := bt_list e
    subst this
    exact h2 (fun _ z => by cases z)
theorem isi_tup {S : Sto} {l : List D} : isiAny S (.tup l) [.bt "tuple"] = some true := rfl
theorem isi_not {S : Sto} {d : D} (h : Kd S d) (hn : ∀ l, d ≠ .tup l) : isiAny S d [.bt "tuple"] = some false := by
  obtain ⟨k, e⟩ := h
  cases d with
  | tup l => exact (hn l rfl).elim
  | int i => rfl
  | non => rfl
  | bl b => rfl
  | str s => rfl
  | ty t => cases e
  | ref a =>
    have : k = "list" := bt_list e
    subst this
    simp only [isiAny, isiOne, e]
    rfl
theorem m_is_frac {Γ : Gam} (h21 : Γ.fn 21 = c_is_whole) (a21 : Γ.ar 21 = 1) (h2 : Γ.fn 2 = c_divisor) (a2 : Γ.ar 2 = 2) : Meets Γ 1 z_is_frac c_is_frac := by
  intro ds S P W h
  unfold c_is_frac at h
  split at h
  · rename_i d
    obtain ⟨ht, hp⟩ := h
    change wZs Γ z_is_frac (retE P) [some d] S (errW W)
    dsimp only [z_is_frac, wZs, wZ, wE, wEs, wT, wTs, lk, List.set, aTru]
    by_cases hd : ∃ l, d = .tup l
    · obtain ⟨l, rfl⟩ := hd
      have ht' : ∀ x ∈ l, Comp S x := ht
      simp only [isi_tup, q_tb, Bool.not_true, q_lenT, q_ne]
      by_cases hl : l.length = 2
      · match l, hl with
        | [x, y], _ =>
          have hx := (ht' x (by simp)).1
          have hy := (ht' y (by simp)).1
          simp only [List.length_cons, List.length_nil, Nat.reduceAdd, q_ixT, at0, at1, h21, a21, h2, a2, true_and, c_divisor]
          have e2 : decide (((2 : Nat) : Int) = 2) = true := rfl
          simp only [e2, Bool.not_true]
          refine whole_kd hx (fun i e => ?_) fun e => ?_
          · subst e
            simp only [q_tb, Bool.not_true]
            refine whole_kd hy (fun j e => ?_) fun e => ?_
            · subst e
              simp only [q_tb, Bool.not_true, Bool.false_eq_true, if_false, q_ge, q_eq]
              refine mb_d (fun hq => ?_) fun hq => ?_
              · have e1 : ((Int.gcd i j : Int) = 1) ↔ (0 < j ∧ Int.gcd i j = 1) := by omega
                rw [decide_eq_decide.mpr e1]
                exact ret_now hp
              · have e1 : fracB (.tup [.int i, .int j]) = false := decide_eq_false (fun z => hq (by omega))
                rw [e1] at hp
                rw [decide_eq_false hq]
                exact ret_now hp
            · have e1 : fracB (.tup [.int i, y]) = false := by
                cases y <;> first | rfl | exact (e _ rfl).elim
              rw [e1] at hp
              exact ret_now hp
          · have e1 : fracB (.tup [x, y]) = false := by
              cases x <;> first | rfl | exact (e _ rfl).elim
            rw [e1] at hp
            exact ret_now hp
      · have e1 : fracB (.tup l) = false := by
          match l, hl with
          | [], _ => rfl
          | [_], _ => simp [fracB]
          | [_, _], hl => exact (hl rfl).elim
          | _ :: _ :: _ :: _, _ => simp [fracB]
        rw [e1] at hp
        refine mb_n (fun _ => ?_) fun z => (hl (by omega)).elim
        rw [decide_eq_false (fun z : ((l.length : Nat) : Int) = 2 => hl (by omega))]
        exact ret_now hp
    · have hk : Kd S d := by
        cases d <;> first | exact ht | exact (hd ⟨_, rfl⟩).elim
      have e1 : fracB d = false := by
        cases d <;> first | rfl | exact (hd ⟨_, rfl⟩).elim
      rw [e1] at hp
      simp only [isi_not hk (fun l e => hd ⟨l, e⟩), q_tb, Bool.not_false, reduceIte]
      exact ret_now hp
  · exact h.elim
end Sd
namespace Sd
/-! ### rational numbers: sizes, spots -/
/-- of at most n bits -/
def Sz (n : Nat) (x : Rat) : Prop := x.num.natAbs < 2 ^ n ∧ x.den < 2 ^ n
theorem Sz.mono {n m : Nat} {x : Rat} (h : Sz n x) (l : n ≤ m) : Sz m x :=
  ⟨Nat.lt_of_lt_of_le h.1 (Nat.pow_le_pow_right (by decide) l), Nat.lt_of_lt_of_le h.2 (Nat.pow_le_pow_right (by decide) l)⟩
theorem div_small {t b : Int} (hb : b ≠ 0) : ((t : Rat) / b).num.natAbs ≤ t.natAbs ∧ ((t : Rat) / b).den ≤ b.natAbs := by
  rw [← Rat.divInt_eq_div]
  have hbn : 0 < b.natAbs := by omega
  constructor
  · rw [Rat.num_divInt]
    have hg : b.gcd t ≠ 0 := fun e => hb (Int.gcd_eq_zero_iff.mp e).1
    have hd : (b.gcd t : Int) ∣ b.sign * t := Int.dvd_trans (Int.gcd_dvd_right ..) (Int.dvd_mul_left ..)
    have e : b.sign * t / (b.gcd t : Int) * (b.gcd t : Int) = b.sign * t := Int.ediv_mul_cancel hd
    have e2 : (b.sign * t).natAbs = (b.sign * t / (b.gcd t : Int)).natAbs * ((b.gcd t : Int)).natAbs := by rw [← Int.natAbs_mul, e]
    have e3 : (b.sign * t).natAbs = t.natAbs := by
      rw [Int.natAbs_mul, Int.natAbs_sign, if_neg hb, Nat.one_mul]
    rw [← e3, e2]
    exact Nat.le_mul_of_pos_right _ (by omega)
  · rw [Rat.den_divInt, if_neg hb]
    exact Nat.div_le_self ..
theorem sz_div {t b : Int} {n : Nat} (hb : b ≠ 0) (h1 : t.natAbs < 2 ^ n) (h2 : b.natAbs < 2 ^ n) : Sz n ((t : Rat) / b) :=
  ⟨Nat.lt_of_le_of_lt (div_small hb).1 h1, Nat.lt_of_le_of_lt (div_small hb).2 h2⟩
theorem rat_eq (x : Rat) : x = (x.num : Rat) / ((x.den : Int) : Rat) := by
  rw [← Rat.divInt_eq_div, Rat.divInt_ofNat, Rat.mkRat_self]
theorem den_ne (x : Rat) : ((x.den : Int) : Rat) ≠ 0 := by
  have := x.den_nz
  intro h
  have h' : ((x.den : Int) : Rat) = ((0 : Int) : Rat) := h
  have := Rat.intCast_inj.mp h'
  omega
theorem den_neI (x : Rat) : (x.den : Int) ≠ 0 := by have := x.den_nz; omega
theorem cast_ne {b : Int} (h : b ≠ 0) : (b : Rat) ≠ 0 := fun e => h (Rat.intCast_inj.mp (show (b : Rat) = ((0 : Int) : Rat) from e))
theorem bits_mul {a b : Nat} {n m : Nat} (h : a < 2 ^ n) (k : b < 2 ^ m) : a * b < 2 ^ (n + m) := by
  rw [Nat.pow_add]
  exact Nat.mul_lt_mul'' h k
theorem Sz.mul {n m : Nat} {x y : Rat} (h : Sz n x) (k : Sz m y) : Sz (n + m) (x * y) := by
  have e : x * y = ((x.num * y.num : Int) : Rat) / (((x.den : Int) * (y.den : Int) : Int) : Rat) := by
    have h1 := rat_eq x; have h2 := rat_eq y; have h3 := den_ne x; have h4 := den_ne y
    rw [Rat.intCast_mul, Rat.intCast_mul]
    grind
  rw [e]
  refine sz_div (Int.mul_ne_zero (den_neI x) (den_neI y)) ?_ ?_
  · rw [Int.natAbs_mul]; exact bits_mul h.1 k.1
  · rw [Int.natAbs_mul]; exact bits_mul h.2 k.2
theorem Sz.neg {n : Nat} {x : Rat} (h : Sz n x) : Sz n (-x) := by
  refine ⟨?_, h.2⟩
  rw [Rat.neg_num, Int.natAbs_neg]
  exact h.1
theorem Sz.add {n m : Nat} {x y : Rat} (h : Sz n x) (k : Sz m y) : Sz (n + m + 1) (x + y) := by
  have e : x + y = ((x.num * y.den + y.num * x.den : Int) : Rat) / (((x.den : Int) * (y.den : Int) : Int) : Rat) := by
    have h1 := rat_eq x; have h2 := rat_eq y; have h3 := den_ne x; have h4 := den_ne y
    rw [Rat.intCast_mul, Rat.intCast_add, Rat.intCast_mul, Rat.intCast_mul]
    grind
  rw [e]
  refine sz_div (Int.mul_ne_zero (den_neI x) (den_neI y)) ?_ ?_
  · have a1 := bits_mul h.1 k.2
    have a2 := bits_mul k.1 h.2
    rw [Nat.add_comm m n] at a2
    have b1 : (x.num * y.den).natAbs < 2 ^ (n + m) := by rw [Int.natAbs_mul]; exact a1
    have b2 : (y.num * x.den).natAbs < 2 ^ (n + m) := by rw [Int.natAbs_mul]; exact a2
    have := Int.natAbs_add_le (x.num * y.den) (y.num * x.den)
    rw [Nat.pow_succ]
    omega
  · rw [Int.natAbs_mul]
    exact Nat.lt_of_lt_of_le (bits_mul h.2 k.2) (Nat.pow_le_pow_right (by decide) (by omega))
theorem Sz.sub {n m : Nat} {x y : Rat} (h : Sz n x) (k : Sz m y) : Sz (n + m + 1) (x - y) := by
  rw [Rat.sub_eq_add_neg]
  exact h.add k.neg
theorem Sz.inv {n : Nat} {x : Rat} (h : Sz n x) (hn : 0 < n) : Sz n x⁻¹ := by
  refine ⟨?_, ?_⟩
  · rw [Rat.num_inv, Int.natAbs_mul, Int.natAbs_sign]
    split
    · rw [Nat.zero_mul]; exact Nat.pow_pos (by decide)
    · rw [Nat.one_mul]; exact h.2
  · rw [Rat.den_inv]
    split
    · exact Nat.one_lt_two_pow (by omega)
    · exact h.1
theorem Sz.div {n m : Nat} {x y : Rat} (h : Sz n x) (k : Sz m y) (hm : 0 < m) : Sz (n + m) (x / y) := by
  rw [Rat.div_def]
  exact h.mul (k.inv hm)
theorem sz_int {n : Nat} {i : Int} (h : i.natAbs < 2 ^ n) (hn : 0 < n) : Sz n (i : Rat) := by
  refine ⟨by rw [Rat.num_intCast]; exact h, ?_⟩
  rw [Rat.den_intCast]
  exact Nat.one_lt_two_pow (by omega)
/-- spots -/
abbrev Spot := Rat × Rat
/-- twice the area -/
def tw (a b c : Spot) : Rat := (b.1 - a.1) * (c.2 - a.2) - (c.1 - a.1) * (b.2 - a.2)
def sgn (x : Rat) : Int := if 0 < x then 1 else if x < 0 then -1 else 0
/-- lies ahead -/
def ah (a b : Spot) : Prop := a.1 < b.1 ∨ a.1 = b.1 ∧ a.2 < b.2
instance {a b : Spot} : Decidable (ah a b) := inferInstanceAs (Decidable (_ ∨ _))
def SzS (n : Nat) (s : Spot) : Prop := Sz n s.1 ∧ Sz n s.2
theorem SzS.mono {n m : Nat} {x : Spot} (h : SzS n x) (l : n ≤ m) : SzS m x := ⟨h.1.mono l, h.2.mono l⟩
theorem sgn_pos {x : Rat} : sgn x = 1 ↔ 0 < x := by unfold sgn; grind
theorem sgn_neg {x : Rat} : sgn x = -1 ↔ x < 0 := by unfold sgn; grind
theorem sgn_zero {x : Rat} : sgn x = 0 ↔ x = 0 := by unfold sgn; grind
end Sd
namespace Sd
theorem q_nn {c y : Rat} (hc : 0 < c) (h : 0 ≤ c * y) : 0 ≤ y := by
  have : c * 0 ≤ c * y := by rw [Rat.mul_zero]; exact h
  exact Rat.le_of_mul_le_mul_left this hc
theorem q_z {c y : Rat} (hc : c ≠ 0) (h : c * y = 0) : y = 0 := (Rat.mul_eq_zero.mp h).resolve_left hc
/-- between, ends let -/
def btw (p m q : Rat) : Prop := (p ≤ m ∧ m ≤ q) ∨ (m ≤ p ∧ q ≤ m)
instance {p m q : Rat} : Decidable (btw p m q) := inferInstanceAs (Decidable (_ ∨ _))
def amid (s a b : Spot) : Prop := tw a b s = 0 ∧ (ah a s ∧ ah s b ∨ ah b s ∧ ah s a)
instance {s a b : Spot} : Decidable (amid s a b) := inferInstanceAs (Decidable (_ ∧ _))
/-- a spot between two by x, then by y, on a line -/
theorem amid_one {s a b : Spot} (h : tw a b s = 0) (h1 : ah a s) (h2 : ah s b) : s ≠ a ∧ s ≠ b ∧ btw a.1 s.1 b.1 ∧ btw a.2 s.2 b.2 := by
  unfold tw at h
  unfold ah at h1 h2
  have ha : s ≠ a := fun e => by subst e; grind
  have hb : s ≠ b := fun e => by subst e; grind
  refine ⟨ha, hb, ?_⟩
  rcases h1 with h1 | ⟨h1, h1'⟩
  · rcases h2 with h2 | ⟨h2, h2'⟩
    · refine ⟨.inl ⟨Rat.le_of_lt h1, Rat.le_of_lt h2⟩, ?_⟩
      have hc : 0 < b.1 - a.1 := by grind
      rcases Rat.le_total (a := a.2) (b := b.2) with hy | hy
      · left
        have p1 : 0 ≤ (s.1 - a.1) * (b.2 - a.2) := Rat.mul_nonneg (by grind) (by grind)
        have p2 : 0 ≤ (b.1 - s.1) * (b.2 - a.2) := Rat.mul_nonneg (by grind) (by grind)
        have q1 : 0 ≤ s.2 - a.2 := q_nn hc (by grind)
        have q2 : 0 ≤ b.2 - s.2 := q_nn hc (by grind)
        grind
      · right
        have p1 : 0 ≤ (s.1 - a.1) * (a.2 - b.2) := Rat.mul_nonneg (by grind) (by grind)
        have p2 : 0 ≤ (b.1 - s.1) * (a.2 - b.2) := Rat.mul_nonneg (by grind) (by grind)
        have q1 : 0 ≤ a.2 - s.2 := q_nn hc (by grind)
        have q2 : 0 ≤ s.2 - b.2 := q_nn hc (by grind)
        grind
    · have : s.2 - b.2 = 0 := q_z (c := b.1 - a.1) (by grind) (by grind)
      grind
  · have hx : b.1 - a.1 = 0 := q_z (c := s.2 - a.2) (by grind) (by grind)
    unfold btw
    grind
theorem tw_swap {a b c : Spot} : tw b a c = - tw a b c := by unfold tw; grind
theorem tw_rot {a b c : Spot} : tw b c a = tw a b c := by unfold tw; grind
theorem btw_swap {p m q : Rat} : btw p m q → btw q m p := by unfold btw; grind
theorem amid_iff {s a b : Spot} (h : tw a b s = 0) : (ah a s ∧ ah s b ∨ ah b s ∧ ah s a) ↔ (s ≠ a ∧ s ≠ b ∧ btw a.1 s.1 b.1 ∧ btw a.2 s.2 b.2) := by
  constructor
  · rintro (⟨h1, h2⟩ | ⟨h1, h2⟩)
    · exact amid_one h h1 h2
    · obtain ⟨x1, x2, x3, x4⟩ := amid_one (s := s) (a := b) (b := a) (by rw [tw_swap, h]; rfl) h1 h2
      exact ⟨x2, x1, btw_swap x3, btw_swap x4⟩
  · rintro ⟨h1, h2, h3, h4⟩
    unfold tw at h
    have e1 : s.1 = a.1 → s.2 ≠ a.2 := fun z w => h1 (Prod.ext z w)
    have e2 : s.1 = b.1 → s.2 ≠ b.2 := fun z w => h2 (Prod.ext z w)
    have f1 : s.1 = a.1 → b.1 = a.1 := fun z => by
      have : b.1 - a.1 = 0 := q_z (c := s.2 - a.2) (by grind) (by grind)
      grind
    have f2 : s.1 = b.1 → b.1 = a.1 := fun z => by
      have : b.1 - a.1 = 0 := q_z (c := s.2 - b.2) (by grind) (by grind)
      grind
    unfold btw at h3 h4
    unfold ah
    grind
/-- the spot on the way by a part -/
def onw (a b : Spot) (t : Rat) : Spot := (a.1 + t * (b.1 - a.1), a.2 + t * (b.2 - a.2))
def qsum : List Rat → Rat
  | [] => 0
  | x :: l => x + qsum l
theorem qsum_app {l m : List Rat} : qsum (l ++ m) = qsum l + qsum m := by
  induction l with
  | nil => simp only [List.nil_append, qsum, Rat.zero_add]
  | cons x l ih => rw [List.cons_append, qsum, qsum, ih, Rat.add_assoc]
theorem sz_zero {n : Nat} (h : 0 < n) : Sz n 0 := ⟨by show 0 < _; exact Nat.pow_pos (by decide), by show 1 < _; exact Nat.one_lt_two_pow (by omega)⟩
theorem Sz.sum {n : Nat} : ∀ {l : List Rat}, (∀ x ∈ l, Sz n x) → Sz (l.length * (n + 1) + 1) (qsum l)
  | [], _ => sz_zero (by simp)
  | x :: l, h => by
    have h1 := h x (by simp)
    have h2 := Sz.sum (n := n) (l := l) fun y hy => h y (by simp [hy])
    exact (h1.add h2).mono (by rw [List.length_cons, Nat.succ_mul]; omega)
theorem Sz.sums {n : Nat} {l : List Rat} (h : ∀ x ∈ l, Sz n x) (k : Nat) : Sz (l.length * (n + 1) + 1) (qsum (l.take k)) := by
  have := Sz.sum (n := n) (l := l.take k) fun x hx => h x (List.mem_of_mem_take hx)
  refine this.mono ?_
  have : (l.take k).length ≤ l.length := by rw [List.length_take]; omega
  have := Nat.mul_le_mul_right (n + 1) this
  omega
theorem SzS.tw {n : Nat} {a b c : Spot} (ha : SzS n a) (hb : SzS n b) (hc : SzS n c) : Sz (8 * n + 5) (Sd.tw a b c) := by
  have h1 := (hb.1.sub ha.1).mul (hc.2.sub ha.2)
  have h2 := (hc.1.sub ha.1).mul (hb.2.sub ha.2)
  exact (h1.sub h2).mono (by omega)
theorem SzS.onw {n m : Nat} {a b : Spot} {t : Rat} (ha : SzS n a) (hb : SzS n b) (ht : Sz m t) : SzS (3 * n + m + 2) (Sd.onw a b t) :=
  ⟨(ha.1.add (ht.mul (hb.1.sub ha.1))).mono (by omega), (ha.2.add (ht.mul (hb.2.sub ha.2))).mono (by omega)⟩
end Sd
namespace Sd
open PySem
/-! ### stores: what has changed is the row alone -/
def Rowed (S S' : Sto) (a : Addr) : Prop := ∀ b o, b ≠ a → S b = some o → S' b = some o
theorem Rowed.le {S S1 S2 : Sto} {a : Addr} (h : Rowed S S1 a) (l : Sto.le S1 S2) : Rowed S S2 a := fun b o hb e => l _ _ (h b o hb e)
theorem Rowed.ble {S S1 Sb : Sto} {a : Addr} (h : Rowed S S1 a) (l : Sto.le Sb S) (n : Sb a = none) : Sto.le Sb S1 := fun b o e => h b o (fun x => by rw [x, n] at e; cases e) (l _ _ e)
theorem Rowed.trans {S S1 S2 : Sto} {a : Addr} (h : Rowed S S1 a) (k : Rowed S1 S2 a) : Rowed S S2 a := fun b o hb e => k b o hb (h b o hb e)
theorem rowed_le {S S1 : Sto} {a : Addr} {o : O} (h : Rowed S S1 a) (e : S1 a = some o) : Sto.le (S.up a o) S1 := fun b u hb => by
  by_cases hx : a = b
  · subst hx
    rw [up_same] at hb
    cases hb
    exact e
  · rw [up_oth hx] at hb
    exact h b u (fun z => hx z.symm) hb
theorem rowed_refl {S : Sto} {a : Addr} : Rowed S S a := fun _ _ _ e => e
theorem Rowed.up {S S1 : Sto} {a : Addr} {o : O} (h : Rowed S S1 a) : Rowed S (S1.up a o) a := fun b u hb e => by
  rw [up_oth hb.symm]
  exact h b u hb e
theorem Rowed.new {S S1 : Sto} {a p : Addr} {o : O} (h : Rowed S S1 a) (n : S1 p = none) : Rowed S (S1.up p o) a := h.le (up_ls n)
theorem le_rowed {S S1 : Sto} {a : Addr} (h : Sto.le S S1) : Rowed S S1 a := fun b o _ e => h b o e
/-- the row: at most n draws so far -/
def Row (S : Sto) (a : Addr) (n : Int) : Prop := ∃ c m : Int, S a = some (.lst true [.int c, .int m]) ∧ 0 ≤ m ∧ m ≤ n
theorem Row.le {S S1 : Sto} {a : Addr} {n : Int} (h : Row S a n) (l : Sto.le S S1) : Row S1 a n := by
  obtain ⟨c, m, e, h1, h2⟩ := h
  exact ⟨c, m, l _ _ e, h1, h2⟩
theorem Row.mono {S : Sto} {a : Addr} {n m : Int} (h : Row S a n) (l : n ≤ m) : Row S a m := by
  obtain ⟨c, k, e, h1, h2⟩ := h
  exact ⟨c, k, e, h1, by omega⟩
theorem Row.ne {S : Sto} {a b : Addr} {n : Int} (h : Row S a n) (e : S b = none) : b ≠ a := fun x => by
  obtain ⟨c, k, e', _⟩ := h
  rw [x, e'] at e
  cases e
theorem row_new {S : Sto} {p : Addr} {c : Int} : Row (S.up p (.lst true [.int c, .int 0])) p 0 := ⟨c, 0, up_same, by decide, by decide⟩
theorem Row.ne' {S : Sto} {a b : Addr} {n : Int} {o : O} (h : Row S a n) (e : S b = none) : Row (S.up b o) a n := h.le (up_ls e)
theorem take_row {S : Sto} {a : Addr} {n b : Int} {P : PD} {W : FW} (h : Row S a n) (hn : n < 2 ^ 59) (hb : 0 < b ∧ b < 2 ^ 200) (hP : ∀ k S', 0 ≤ k → k < b → Row S' a (n + 1) → Rowed S S' a → P (.int k) S') : c_law_take [.ref a, .int b] S P W := by
  obtain ⟨c, m, e, m0, m1⟩ := h
  unfold c_law_take
  simp only [e]
  exact ⟨hb, ⟨m0, by omega⟩, fun k c' k0 k1 => hP k _ k0 k1 ⟨c', m + 1, up_same, by omega, by omega⟩ rowed_refl.up⟩
theorem number_row {S : Sto} {a : Addr} {n : Int} {P : PD} {W : FW} (h : Row S a n) (hn : n < 2 ^ 58) (hP : ∀ k S', Bd 100 k → Row S' a (n + 2) → Rowed S S' a → P (.int k) S') : c_law_number [.ref a] S P W := by
  obtain ⟨c, m, e, m0, m1⟩ := h
  unfold c_law_number
  simp only [e]
  exact ⟨⟨m0, by omega⟩, fun k c' hk => hP k _ (bd30 hk) ⟨c', m + 1 + 1, up_same, by omega, by omega⟩ rowed_refl.up⟩
/-! ### fractions as rational numbers -/
def dQ (x : Rat) : D := .tup [.int x.num, .int x.den]
def dS (s : Spot) : D := .tup [dQ s.1, dQ s.2]
theorem low_q {p q : Int} (h : Low (p, q)) : ∃ x : Rat, x.num = p ∧ (x.den : Int) = q := by
  obtain ⟨h1, h2⟩ := h
  simp only at h1 h2
  refine ⟨⟨p, q.toNat, by omega, ?_⟩, rfl, by simp only; omega⟩
  rw [Int.gcd] at h2
  rw [show q.toNat = q.natAbs by omega]
  exact h2
theorem fr_q {t b : Int} (hb : b ≠ 0) : fr t b = dQ ((t : Rat) / b) := by
  obtain ⟨x, e1, e2⟩ := low_q (low_frF (t := t) hb)
  have e : x = (t : Rat) / b := by
    rw [← Rat.divInt_eq_div, ← Rat.num_divInt_den x]
    refine (Rat.divInt_eq_divInt_iff (den_neI x) hb).mpr ?_
    rw [e1, e2]
    exact fr_cross hb
  rw [← e]
  unfold fr dQ
  rw [e1, e2]
theorem dQ_inj {x y : Rat} : (x.num = y.num ∧ (x.den : Int) = y.den) ↔ x = y := ⟨fun h => Rat.ext h.1 (by omega), fun h => h ▸ ⟨rfl, rfl⟩⟩
theorem Sz.bd {n : Nat} {x : Rat} (h : Sz n x) : Bd n x.num ∧ Bd n (x.den : Int) := ⟨h.1, by unfold Bd; exact h.2⟩
theorem Sz.bd4 {x y : Rat} (h : Sz 4000 x) (k : Sz 4000 y) : Bd4 x.num x.den y.num y.den := ⟨4000, by decide, h.bd.1, h.bd.2, k.bd.1, k.bd.2⟩
theorem Sz.bd4' {x y : Rat} (h : Sz 4499 x) (k : Sz 4499 y) : Bd4 x.num x.den y.num y.den := ⟨4499, by decide, h.bd.1, h.bd.2, k.bd.1, k.bd.2⟩
theorem frac_row {S : Sto} {a : Addr} {n : Int} {P : PD} {W : FW} (h : Row S a n) (hn : n < 2 ^ 57) (hP : ∀ x S', Sz 100 x → Row S' a (n + 4) → Rowed S S' a → P (dQ x) S') : c_law_frac [.ref a] S P W := by
  obtain ⟨c, m, e, m0, m1⟩ := h
  unfold c_law_frac
  simp only [e]
  refine ⟨⟨m0, by omega⟩, fun p q c' bp bq lo => ?_⟩
  obtain ⟨x, rfl, rfl⟩ := low_q lo
  exact hP x _ ⟨bp, bq⟩ ⟨c', m + 4, up_same, by omega, by omega⟩ rowed_refl.up
section
variable {S : Sto} {P : PD} {W : FW} {x y : Rat} {t b : Int}
theorem lowest_q (hb : b ≠ 0) (h9 : Lt9 b) (h : P (dQ ((t : Rat) / b)) S) : c_law_lowest [.int t, .int b] S P W := ⟨hb, h9, by rw [fr_q hb]; exact h⟩
theorem frac_of_q (hb : b ≠ 0) (h9 : Lt9 b) (h : P (dQ ((t : Rat) / b)) S) : c_frac_of [.int t, .int b] S P W := ⟨fun z => (hb z).elim, fun _ => ⟨h9, by rw [fr_q hb]; exact h⟩⟩
theorem added_q (hx : Sz 4000 x) (hy : Sz 4000 y) (h : P (dQ (x + y)) S) : c_added [dQ x, dQ y] S P W := by
  refine ⟨den_neI x, den_neI y, hx.bd4 hy, ?_⟩
  rw [fr_q (Int.mul_ne_zero (den_neI x) (den_neI y))]
  have e : x + y = ((x.num * y.den + y.num * x.den : Int) : Rat) / (((x.den : Int) * (y.den : Int) : Int) : Rat) := by
    have h1 := rat_eq x; have h2 := rat_eq y; have h3 := den_ne x; have h4 := den_ne y
    rw [Rat.intCast_mul, Rat.intCast_add, Rat.intCast_mul, Rat.intCast_mul]
    grind
  rw [← e]
  exact h
theorem lessened_q (hx : Sz 4000 x) (hy : Sz 4000 y) (h : P (dQ (x - y)) S) : c_lessened [dQ x, dQ y] S P W := by
  refine ⟨den_neI x, den_neI y, hx.bd4 hy, ?_⟩
  rw [fr_q (Int.mul_ne_zero (den_neI x) (den_neI y))]
  have e : x - y = ((x.num * y.den - y.num * x.den : Int) : Rat) / (((x.den : Int) * (y.den : Int) : Int) : Rat) := by
    have h1 := rat_eq x; have h2 := rat_eq y; have h3 := den_ne x; have h4 := den_ne y
    rw [Rat.intCast_mul, Rat.intCast_sub, Rat.intCast_mul, Rat.intCast_mul]
    grind
  rw [← e]
  exact h
theorem multiplied_q (hx : Sz 4000 x) (hy : Sz 4000 y) (h : P (dQ (x * y)) S) : c_multiplied [dQ x, dQ y] S P W := by
  refine ⟨den_neI x, den_neI y, hx.bd4 hy, ?_⟩
  rw [fr_q (Int.mul_ne_zero (den_neI x) (den_neI y))]
  have e : x * y = ((x.num * y.num : Int) : Rat) / (((x.den : Int) * (y.den : Int) : Int) : Rat) := by
    have h1 := rat_eq x; have h2 := rat_eq y; have h3 := den_ne x; have h4 := den_ne y
    rw [Rat.intCast_mul, Rat.intCast_mul]
    grind
  rw [← e]
  exact h
theorem added_Q (hx : Sz 4499 x) (hy : Sz 4499 y) (h : P (dQ (x + y)) S) : c_added [dQ x, dQ y] S P W := by
  refine ⟨den_neI x, den_neI y, hx.bd4' hy, ?_⟩
  rw [fr_q (Int.mul_ne_zero (den_neI x) (den_neI y))]
  have e : x + y = ((x.num * y.den + y.num * x.den : Int) : Rat) / (((x.den : Int) * (y.den : Int) : Int) : Rat) := by
    have h1 := rat_eq x; have h2 := rat_eq y; have h3 := den_ne x; have h4 := den_ne y
    rw [Rat.intCast_mul, Rat.intCast_add, Rat.intCast_mul, Rat.intCast_mul]
    grind
  rw [← e]
  exact h
theorem multiplied_Q (hx : Sz 4499 x) (hy : Sz 4499 y) (h : P (dQ (x * y)) S) : c_multiplied [dQ x, dQ y] S P W := by
  refine ⟨den_neI x, den_neI y, hx.bd4' hy, ?_⟩
  rw [fr_q (Int.mul_ne_zero (den_neI x) (den_neI y))]
  have e : x * y = ((x.num * y.num : Int) : Rat) / (((x.den : Int) * (y.den : Int) : Int) : Rat) := by
    have h1 := rat_eq x; have h2 := rat_eq y; have h3 := den_ne x; have h4 := den_ne y
    rw [Rat.intCast_mul, Rat.intCast_mul]
    grind
  rw [← e]
  exact h
theorem quotient_q (hx : Sz 4000 x) (hy : Sz 4000 y) (hw : y = 0 → W 1 none S) (h : y ≠ 0 → P (dQ (x / y)) S) : c_quotient [dQ x, dQ y] S P W := by
  refine ⟨den_neI x, den_neI y, hx.bd4 hy, fun z => hw (Rat.num_eq_zero.mp z), fun z => ?_⟩
  rw [fr_q (Int.mul_ne_zero (den_neI x) z)]
  have hy0 : y ≠ 0 := fun e => z (Rat.num_eq_zero.mpr e)
  have e : x / y = ((x.num * y.den : Int) : Rat) / (((x.den : Int) * y.num : Int) : Rat) := by
    have h1 := rat_eq x; have h2 := rat_eq y; have h3 := den_ne x; have h4 := den_ne y; have h5 := cast_ne z
    rw [Rat.intCast_mul, Rat.intCast_mul]
    grind
  rw [← e]
  exact h hy0
theorem below_iff {x y : Rat} : (x.num * (y.den : Int) < y.num * (x.den : Int)) ↔ x < y := (Rat.lt_iff x y).symm
theorem is_below_q (hx : Sz 4000 x) (hy : Sz 4000 y) (h : P (.bl (decide (x < y))) S) : c_is_below [dQ x, dQ y] S P W := by
  refine ⟨hx.bd4 hy, ?_⟩
  rw [decide_eq_decide.mpr (below_iff (x := x) (y := y))]
  exact h
theorem q_ixQ0 : ixS (dQ x) (.int 0) S P = P (.int x.num) S := by unfold dQ; rw [q_ixT, at0]
theorem q_ixQ1 : ixS (dQ x) (.int 1) S P = P (.int x.den) S := by unfold dQ; rw [q_ixT, at1]
theorem q_ixS0 {s : Spot} : ixS (dS s) (.int 0) S P = P (dQ s.1) S := by unfold dS; rw [q_ixT, at0]
theorem q_ixS1 {s : Spot} : ixS (dS s) (.int 1) S P = P (dQ s.2) S := by unfold dS; rw [q_ixT, at1]
end
/-! ### == of data by what they encode -/
theorem cmp_eq {S : Sto} {P : PD} {x y : D} {p q : PyData} (hx : pdS S x = some p) (hy : pdS S y = some q) : cmpS .Eq x y S P = P (.bl (PyData.eqv p q)) S := by
  by_cases hi : ∃ i j, x = .int i ∧ y = .int j
  · obtain ⟨i, j, rfl, rfl⟩ := hi
    rw [pds_int] at hx hy
    cases hx
    cases hy
    rw [q_eq, ev_int]
  · have : cmpS .Eq x y S P = (match pdS S x, pdS S y with
      | some p, some q => P (.bl (PyData.eqv p q)) S
      | _, _ => lenS false x y S P) := by
      cases x <;> cases y <;> first | rfl | exact (hi ⟨_, _, rfl, rfl⟩).elim
    rw [this, hx, hy]
theorem cmp_ne {S : Sto} {P : PD} {x y : D} {p q : PyData} (hx : pdS S x = some p) (hy : pdS S y = some q) : cmpS .NotEq x y S P = P (.bl (!PyData.eqv p q)) S := by
  by_cases hi : ∃ i j, x = .int i ∧ y = .int j
  · obtain ⟨i, j, rfl, rfl⟩ := hi
    rw [pds_int] at hx hy
    cases hx
    cases hy
    rw [q_ne, ev_int]
  · have : cmpS .NotEq x y S P = (match pdS S x, pdS S y with
      | some p, some q => P (.bl (!PyData.eqv p q)) S
      | _, _ => lenS true x y S P) := by
      cases x <;> cases y <;> first | rfl | exact (hi ⟨_, _, rfl, rfl⟩).elim
    rw [this, hx, hy]
/-- data that encode things of α, told apart by == -/
structure Enc {α : Type} [DecidableEq α] (enc : α → D) (pe : α → PyData) (k : Nat) : Prop where
  pd : ∀ g n a, k ≤ n → pdW g n (enc a) = some (pe a)
  ev : ∀ a b, PyData.eqv (pe a) (pe b) = decide (a = b)
section
variable {α β : Type} [DecidableEq α] [DecidableEq β] {enc : α → D} {pe : α → PyData} {k : Nat} {enc' : β → D} {pe' : β → PyData}
theorem Enc.pds (h : Enc enc pe k) {g : Addr → Option PyData} {n : Nat} (hn : k ≤ n) : ∀ l : List α, pdWs g n (l.map enc) = some (l.map pe)
  | [] => pd_nil
  | x :: l => by
    rw [List.map_cons, pd_cons, h.pd g n x hn, h.pds hn l]
    rfl
theorem Enc.evs (h : Enc enc pe k) : ∀ l m : List α, PyData.eqvAll (l.map pe) (m.map pe) = decide (l = m)
  | [], [] => ev_nil
  | [], y :: m => by simp [PyData.eqvAll]
  | x :: l, [] => by simp [PyData.eqvAll]
  | x :: l, y :: m => by
    rw [List.map_cons, List.map_cons, ev_cons, h.ev, h.evs l m]
    by_cases h1 : x = y <;> by_cases h2 : l = m <;> simp [h1, h2]
theorem Enc.tup (h : Enc enc pe k) : Enc (fun l : List α => D.tup (l.map enc)) (fun l => PyData.tuple (l.map pe)) (k + 1) where
  pd g n a hn := by
    cases n with
    | zero => omega
    | succ n => rw [pd_tup, h.pds (by omega)]
  ev a b := by rw [ev_tup, h.evs]
theorem Enc.pair (h : Enc enc pe k) (h' : Enc enc' pe' k) : Enc (fun p : α × β => D.tup [enc p.1, enc' p.2]) (fun p => PyData.tuple [pe p.1, pe' p.2]) (k + 1) where
  pd g n a hn := by
    cases n with
    | zero => omega
    | succ n => rw [pd_tup, pd_cons, pd_cons, h.pd g n _ (by omega), h'.pd g n _ (by omega), pd_nil]
  ev a b := by
    rw [ev_tup, ev_cons, ev_cons, ev_nil, h.ev, h'.ev, Bool.and_true]
    obtain ⟨a1, a2⟩ := a
    obtain ⟨b1, b2⟩ := b
    by_cases h1 : a1 = b1 <;> by_cases h2 : a2 = b2 <;> simp [h1, h2]
theorem Enc.up {m : Nat} (h : Enc enc pe k) (l : k ≤ m) : Enc enc pe m := ⟨fun g n a hn => h.pd g n a (by omega), h.ev⟩
theorem Enc.pdS (h : Enc enc pe k) {S : Sto} (hk : k ≤ 12) (a : α) : Sd.pdS S (enc a) = some (pe a) := by
  unfold Sd.pdS
  exact h.pd _ _ a hk
theorem Enc.ref (h : Enc enc pe k) {S : Sto} (hk : k ≤ 12) {a : Addr} {w : Bool} {l : List α} (e : S a = some (.lst w (l.map enc))) : Sd.pdS S (.ref a) = some (.list (l.map pe)) := by
  rw [pds_ref, e]
  simp only [h.pds hk]
theorem ev_list {xs ys : List PyData} : PyData.eqv (.list xs) (.list ys) = PyData.eqvAll xs ys := by simp only [PyData.eqv]
theorem Enc.q_eq (h : Enc enc pe k) (hk : k ≤ 12) {S : Sto} {P : PD} {a b : α} : cmpS .Eq (enc a) (enc b) S P = P (.bl (decide (a = b))) S := by
  rw [cmp_eq (h.pdS hk a) (h.pdS hk b), h.ev]
theorem Enc.q_ne (h : Enc enc pe k) (hk : k ≤ 12) {S : Sto} {P : PD} {a b : α} : cmpS .NotEq (enc a) (enc b) S P = P (.bl (!decide (a = b))) S := by
  rw [cmp_ne (h.pdS hk a) (h.pdS hk b), h.ev]
theorem Enc.q_eqL (h : Enc enc pe k) (hk : k ≤ 12) {S : Sto} {P : PD} {a b : Addr} {w v : Bool} {l m : List α} (e1 : S a = some (.lst w (l.map enc))) (e2 : S b = some (.lst v (m.map enc))) : cmpS .Eq (.ref a) (.ref b) S P = P (.bl (decide (l = m))) S := by
  rw [cmp_eq (h.ref hk e1) (h.ref hk e2), ev_list, h.evs]
theorem Enc.q_neL (h : Enc enc pe k) (hk : k ≤ 12) {S : Sto} {P : PD} {a b : Addr} {w v : Bool} {l m : List α} (e1 : S a = some (.lst w (l.map enc))) (e2 : S b = some (.lst v (m.map enc))) : cmpS .NotEq (.ref a) (.ref b) S P = P (.bl (!decide (l = m))) S := by
  rw [cmp_ne (h.ref hk e1) (h.ref hk e2), ev_list, h.evs]
end
theorem encI : Enc D.int PyData.int 0 := ⟨fun _ _ _ _ => pd_int, fun _ _ => ev_int⟩
def pQ (x : Rat) : PyData := .tuple [.int x.num, .int x.den]
def pSp (s : Spot) : PyData := .tuple [pQ s.1, pQ s.2]
theorem encQ : Enc dQ pQ 1 where
  pd g n a hn := by
    cases n with
    | zero => omega
    | succ n => unfold dQ; rw [pd_tup, pd_cons, pd_cons, pd_int, pd_int, pd_nil]; rfl
  ev a b := by
    unfold pQ
    rw [ev_pair, decide_eq_decide.mpr dQ_inj]
theorem encS : Enc dS pSp 2 := encQ.pair encQ
section
variable {S : Sto} {P : PD} {x y : Rat} {s t : Spot}
theorem q_eqQ : cmpS .Eq (dQ x) (dQ y) S P = P (.bl (decide (x = y))) S := encQ.q_eq (by decide)
theorem q_neQ : cmpS .NotEq (dQ x) (dQ y) S P = P (.bl (!decide (x = y))) S := encQ.q_ne (by decide)
theorem q_eqSp : cmpS .Eq (dS s) (dS t) S P = P (.bl (decide (s = t))) S := encS.q_eq (by decide)
theorem q_neSp : cmpS .NotEq (dS s) (dS t) S P = P (.bl (!decide (s = t))) S := encS.q_ne (by decide)
theorem q_isntB {a b : Bool} : cmpS .IsNot (.bl a) (.bl b) S P = P (.bl (!decide (a = b))) S := rfl
theorem q_isB {a b : Bool} : cmpS .Is (.bl a) (.bl b) S P = P (.bl (decide (a = b))) S := rfl
theorem q_str {i : Int} : biS .str [.int i] S P = (i.natAbs.log2 < 1920 ∧ P (.str (toString i)) S) := rfl
end
/-! ### things: any data whose places are lists, numbers of at most n bits -/
mutual
def Wf (S : Sto) (n : Nat) : D → Prop
  | .int i => Bd n i
  | .ref a => ∃ w l, S a = some (.lst w l)
  | .tup l => Wfs S n l
  | .ty _ => False
  | .non => True
  | .bl _ => True
  | .str _ => True
def Wfs (S : Sto) (n : Nat) : List D → Prop
  | [] => True
  | d :: r => Wf S n d ∧ Wfs S n r
end
/-- S' holds all lists of S as lists -/
def Lw (S S' : Sto) : Prop := ∀ a w l, S a = some (.lst w l) → ∃ w' l', S' a = some (.lst w' l')
theorem lw_le {S S' : Sto} (h : Sto.le S S') : Lw S S' := fun a w l e => ⟨w, l, h _ _ e⟩
theorem lw_row {S S' : Sto} {a : Addr} {n : Int} (h : Rowed S S' a) (r : Row S' a n) : Lw S S' := fun b w l e => by
  by_cases hb : b = a
  · obtain ⟨c, m, e', _⟩ := r
    exact ⟨_, _, hb ▸ e'⟩
  · exact ⟨w, l, h b _ hb e⟩
mutual
theorem Wf.lw {S S' : Sto} {n m : Nat} (h : Lw S S') (l : n ≤ m) : ∀ d, Wf S n d → Wf S' m d
  | .int i, w => w.mono l
  | .ref a, ⟨w, l, e⟩ => h a w l e
  | .tup r, w => Wfs.lw h l r w
  | .ty _, w => w
  | .non, _ => trivial
  | .bl _, _ => trivial
  | .str _, _ => trivial
theorem Wfs.lw {S S' : Sto} {n m : Nat} (h : Lw S S') (l : n ≤ m) : ∀ d, Wfs S n d → Wfs S' m d
  | [], _ => trivial
  | d :: r, w => ⟨Wf.lw h l d w.1, Wfs.lw h l r w.2⟩
end
theorem wfs_mem {S : Sto} {n : Nat} : ∀ {l : List D}, Wfs S n l ↔ ∀ d ∈ l, Wf S n d
  | [] => by simp [Wfs]
  | d :: l => by simp [Wfs, wfs_mem]
theorem Wfs.app {S : Sto} {n : Nat} {l m : List D} (h : Wfs S n l) (k : Wfs S n m) : Wfs S n (l ++ m) := by
  rw [wfs_mem] at *
  intro d hd
  rcases List.mem_append.mp hd with z | z
  · exact h d z
  · exact k d z
theorem Wf.kd {S : Sto} {n : Nat} {d : D} (h : Wf S n d) : Kd S d := by
  cases d with
  | ref a =>
    obtain ⟨w, l, e⟩ := h
    exact kd_ref e
  | ty _ => exact h.elim
  | _ => exact ⟨_, rfl⟩
theorem wf_q {S : Sto} {n : Nat} {x : Rat} (h : Sz n x) : Wf S n (dQ x) := ⟨h.bd.1, h.bd.2, trivial⟩
theorem wf_s {S : Sto} {n : Nat} {s : Spot} (h : SzS n s) : Wf S n (dS s) := ⟨wf_q h.1, wf_q h.2, trivial⟩
/-- at a place drawn -/
theorem at_draw {S : Sto} {n : Nat} {l : List D} {k : Int} (h : Wfs S n l) (h0 : 0 ≤ k) (h1 : k < (l.length : Int)) : ∃ d, L2.atI l k = some d ∧ Wf S n d := by
  have hl : k.toNat < l.length := by omega
  have := at_nat (l := l) (n := k.toNat) hl
  rw [show ((k.toNat : Nat) : Int) = k by omega] at this
  exact ⟨_, this, wfs_mem.mp h _ (List.getElem_mem _)⟩
theorem at_drawD {l : List D} {k : Int} (h0 : 0 ≤ k) (h1 : k < (l.length : Int)) : ∃ d, L2.atI l k = some d ∧ d ∈ l := by
  have hl : k.toNat < l.length := by omega
  have := at_nat (l := l) (n := k.toNat) hl
  rw [show ((k.toNat : Nat) : Int) = k by omega] at this
  exact ⟨_, this, List.getElem_mem _⟩
/-- is a fraction, of any thing -/
def c_is_fracT : Con := fun ds S P _ => match ds with
  | [d] => (∃ n, Wf S n d) ∧ P (.bl (fracB d)) S
  | _ => False
theorem fracB_two {x y : D} : fracB (.tup [x, y]) = true → ∃ i j, x = .int i ∧ y = .int j := by
  intro h
  cases x <;> (try (cases h; done)) <;> cases y <;> (try (cases h; done))
  exact ⟨_, _, rfl, rfl⟩
theorem fracB_q {d : D} : fracB d = true ↔ ∃ x : Rat, d = dQ x := by
  constructor
  · intro h
    unfold fracB at h
    split at h
    · rename_i p q
      obtain ⟨x, rfl, rfl⟩ := low_q (of_decide_eq_true h)
      exact ⟨x, rfl⟩
    · cases h
  · rintro ⟨x, rfl⟩
    unfold fracB dQ
    refine decide_eq_true ⟨?_, ?_⟩
    · have := x.den_nz; omega
    · exact x.reduced
theorem fracB_len {l : List D} (h : l.length ≠ 2) : fracB (.tup l) = false := by
  match l, h with
  | [], _ => rfl
  | [_], _ => simp [fracB]
  | [_, _], hl => exact (hl rfl).elim
  | _ :: _ :: _ :: _, _ => simp [fracB]
theorem Wf.thing {S : Sto} {n : Nat} {d : D} (h : Wf S n d) : (∃ l, d = .tup l ∧ Wfs S n l) ∨ ((∀ l, d ≠ .tup l) ∧ Kd S d) := by
  cases d with
  | tup l => exact .inl ⟨l, rfl, h⟩
  | _ => exact .inr ⟨fun l e => (by cases e), h.kd⟩
theorem m_is_fracT {Γ : Gam} (h21 : Γ.fn 21 = c_is_whole) (a21 : Γ.ar 21 = 1) (h2 : Γ.fn 2 = c_divisor) (a2 : Γ.ar 2 = 2) : Meets Γ 1 z_is_frac c_is_fracT := by
  intro ds S P W h
  unfold c_is_fracT at h
  split at h
  · rename_i d
    obtain ⟨⟨n, ht⟩, hp⟩ := h
    change wZs Γ z_is_frac (retE P) [some d] S (errW W)
    dsimp only [z_is_frac, wZs, wZ, wE, wEs, wT, wTs, lk, List.set, aTru]
    rcases ht.thing with ⟨l, rfl, hl⟩ | ⟨hd, hk⟩
    · simp only [isi_tup, q_tb, Bool.not_true, q_lenT, q_ne]
      by_cases h2l : l.length = 2
      · match l, h2l with
        | [x, y], _ =>
          have hx := hl.1.kd
          have hy := hl.2.1.kd
          simp only [List.length_cons, List.length_nil, Nat.reduceAdd, q_ixT, at0, at1, h21, a21, h2, a2, true_and, c_divisor]
          have e2 : decide (((2 : Nat) : Int) = 2) = true := rfl
          simp only [e2, Bool.not_true]
          refine whole_kd hx (fun i e => ?_) fun e => ?_
          · subst e
            simp only [q_tb, Bool.not_true]
            refine whole_kd hy (fun j e => ?_) fun e => ?_
            · subst e
              simp only [q_tb, Bool.not_true, Bool.false_eq_true, if_false, q_ge, q_eq]
              refine mb_d (fun hq => ?_) fun hq => ?_
              · have e1 : ((Int.gcd i j : Int) = 1) ↔ (0 < j ∧ Int.gcd i j = 1) := by omega
                rw [decide_eq_decide.mpr e1]
                exact ret_now hp
              · have e1 : fracB (.tup [.int i, .int j]) = false := decide_eq_false (fun z => hq (by omega))
                rw [e1] at hp
                rw [decide_eq_false hq]
                exact ret_now hp
            · have e1 : fracB (.tup [.int i, y]) = false := by
                cases y <;> first | rfl | exact (e _ rfl).elim
              rw [e1] at hp
              exact ret_now hp
          · have e1 : fracB (.tup [x, y]) = false := by
              cases x <;> first | rfl | exact (e _ rfl).elim
            rw [e1] at hp
            exact ret_now hp
      · rw [fracB_len h2l] at hp
        refine mb_n (fun _ => ?_) fun z => (h2l (by omega)).elim
        rw [decide_eq_false (fun z : ((l.length : Nat) : Int) = 2 => h2l (by omega))]
        exact ret_now hp
    · have e1 : fracB d = false := by
        cases d <;> first | rfl | exact (hd _ rfl).elim
      rw [e1] at hp
      simp only [isi_not hk hd, q_tb, Bool.not_false, reduceIte]
      exact ret_now hp
  · exact h.elim
/-- the law's own -/
def c_law_is_fracT : Con := fun ds S P _ => match ds with
  | [d] => Wf S 8999 d ∧ P (.bl (fracB d)) S
  | _ => False
theorem fr_iff {p q : Int} (hq : 0 < q) : (frT p q = p ∧ frB p q = q) ↔ (0 < q ∧ Int.gcd p q = 1) := by
  constructor
  · intro ⟨e1, e2⟩
    have := fr_gcd (t := p) (b := q) (by omega)
    rw [e1, e2] at this
    exact ⟨hq, this⟩
  · intro ⟨_, e⟩
    have := fr_self hq e
    unfold fr at this
    injection this with this
    injection this with t1 this
    injection this with t2 this
    injection t1 with t1
    injection t2 with t2
    exact ⟨t1, t2⟩
theorem m_law_is_fracT {Γ : Gam} (h4 : Γ.fn 4 = c_law_lowest) (a4 : Γ.ar 4 = 2) (h5 : Γ.fn 5 = c_law_whole) (a5 : Γ.ar 5 = 1) : Meets Γ 1 z_law_is_frac c_law_is_fracT := by
  intro ds S P W h
  unfold c_law_is_fracT at h
  split at h
  · rename_i d
    obtain ⟨ht, hp⟩ := h
    change wZs Γ z_law_is_frac (retE P) [some d] S (errW W)
    dsimp only [z_law_is_frac, wZs, wZ, wE, wEs, wT, wTs, lk, List.set, aTru]
    rcases ht.thing with ⟨l, rfl, hl⟩ | ⟨hd, hk⟩
    · simp only [isi_tup, q_tb, Bool.not_true, q_lenT, q_ne]
      by_cases h2l : l.length = 2
      · match l, h2l with
        | [x, y], _ =>
          have hx := hl.1.kd
          have hy := hl.2.1
          simp only [List.length_cons, List.length_nil, Nat.reduceAdd, q_ixT, at0, at1, h5, a5, h4, a4, true_and, c_law_lowest]
          have e2 : decide (((2 : Nat) : Int) = 2) = true := rfl
          simp only [e2, Bool.not_true]
          refine whole_kd hx (fun i e => ?_) fun e => ?_
          · subst e
            simp only [q_tb, Bool.not_true]
            refine whole_kd hy.kd (fun j e => ?_) fun e => ?_
            · subst e
              have bj : Bd 8999 j := hy
              simp only [q_tb, Bool.not_true, Bool.false_eq_true, if_false, q_gt]
              refine mb_d (fun hq => ⟨by omega, bj, ?_⟩) fun hq => ?_
              · unfold fr
                rw [q_eqP, decide_eq_decide.mpr (fr_iff hq)]
                exact ret_now hp
              · have e1 : fracB (.tup [.int i, .int j]) = false := decide_eq_false (fun z => hq z.1)
                rw [e1] at hp
                rw [decide_eq_false hq]
                exact ret_now hp
            · have e1 : fracB (.tup [.int i, y]) = false := by
                cases y <;> first | rfl | exact (e _ rfl).elim
              rw [e1] at hp
              exact ret_now hp
          · have e1 : fracB (.tup [x, y]) = false := by
              cases x <;> first | rfl | exact (e _ rfl).elim
            rw [e1] at hp
            exact ret_now hp
      · rw [fracB_len h2l] at hp
        refine mb_n (fun _ => ?_) fun z => (h2l (by omega)).elim
        rw [decide_eq_false (fun z : ((l.length : Nat) : Int) = 2 => h2l (by omega))]
        exact ret_now hp
    · have e1 : fracB d = false := by
        cases d <;> first | rfl | exact (hd _ rfl).elim
      rw [e1] at hp
      simp only [isi_not hk hd, q_tb, Bool.not_false, reduceIte]
      exact ret_now hp
  · exact h.elim
/-! ### lists made -/
/-- a list made of a walk: what is let by, each by f -/
theorem lc_filt {t : ATg} {cond : AT} {e : AE} {src : Src} {p : Addr} {ρ : DSt} {Pd : Sto → Prop} {ds : List D} {S1 : Sto} (f : D → D) (c : D → Bool) (np : S1 p = none) (hs : src.ok S1) (hl : ds.length ≤ sizeLine)
    (step : ∀ d ∈ ds, ∀ (T : Sto) (K : D → Sto → Prop) (G : Sto → Prop), Sto.le S1 T → (c d = true → ∀ T', Sto.le T T' → K (f d) T') → (c d = false → ∀ T', Sto.le T T' → G T') → t d ρ T (fun ρ1 T1 => cond ρ1 T1 (fun b T2 => if b = true then e ρ1 T2 K (fun _ _ _ _ => False) else G T2) (fun _ _ _ _ => False)) (fun _ _ _ _ => False))
    (fin : ∀ T, Sto.le S1 T → T p = some (.lst true ((ds.filter c).map f)) → Pd T) : lcS t cond e src p ρ Pd ds (S1.up p (.lst true [])) := by
  have sok : ∀ T, Sto.le S1 T → src.ok T := by
    intro T hT
    cases src with
    | free => trivial
    | lst a w l => exact hT _ _ hs
    | two a w l b v m => exact ⟨hT _ _ hs.1, hT _ _ hs.2⟩
  have main : ∀ (rest done : List D) (T : Sto), ds = done ++ rest → Sto.le S1 T → T p = some (.lst true ((done.filter c).map f)) → lcS t cond e src p ρ Pd rest T := by
    intro rest
    induction rest with
    | nil =>
      intro done T hd hT hTp
      rw [List.append_nil] at hd
      subst hd
      exact ⟨sok T hT, fin T hT hTp⟩
    | cons d rest ih =>
      intro done T hd hT hTp
      have hmem : d ∈ ds := by rw [hd]; simp
      refine ⟨sok T hT, ?_⟩
      refine step d hmem T _ _ hT (fun hc T' hT' => ?_) fun hc T' hT' => ?_
      · show match T' p with
          | some (.lst true acc) => acc.length < sizeLine ∧ lcS t cond e src p ρ Pd rest (T'.up p (.lst true (acc ++ [f d])))
          | _ => False
        rw [hT' _ _ hTp]
        refine ⟨?_, ih (done ++ [d]) _ (by rw [hd]; simp) (fun b o hb => ?_) ?_⟩
        · rw [List.length_map]
          have h1 := List.length_filter_le c done
          have h2 : ds.length = done.length + (rest.length + 1) := by rw [hd]; simp
          omega
        · rw [up_oth (fun x => by rw [x, hb] at np; cases np)]
          exact hT' _ _ (hT _ _ hb)
        · rw [up_same, List.filter_append, List.map_append]
          simp [hc]
      · refine ih (done ++ [d]) T' (by rw [hd]; simp) (hT.trans hT') ?_
        rw [hT' _ _ hTp, List.filter_append, List.map_append]
        simp [hc]
  exact main ds [] _ rfl (up_ls np) up_same
/-- the same, of things encoded -/
theorem lc_encF {α : Type} {t : ATg} {cond : AT} {e : AE} {src : Src} {p : Addr} {ρ : DSt} {Pd : Sto → Prop} {S1 : Sto} (enc f : α → D) (c : α → Bool) {l : List α} (np : S1 p = none) (hs : src.ok S1) (hl : l.length ≤ sizeLine)
    (step : ∀ x ∈ l, ∀ (T : Sto) (K : D → Sto → Prop) (G : Sto → Prop), Sto.le S1 T → (c x = true → ∀ T', Sto.le T T' → K (f x) T') → (c x = false → ∀ T', Sto.le T T' → G T') → t (enc x) ρ T (fun ρ1 T1 => cond ρ1 T1 (fun b T2 => if b = true then e ρ1 T2 K (fun _ _ _ _ => False) else G T2) (fun _ _ _ _ => False)) (fun _ _ _ _ => False))
    (fin : ∀ T, Sto.le S1 T → T p = some (.lst true ((l.filter c).map f)) → Pd T) : lcS t cond e src p ρ Pd (l.map enc) (S1.up p (.lst true [])) := by
  have sok : ∀ T, Sto.le S1 T → src.ok T := by
    intro T hT
    cases src with
    | free => trivial
    | lst a w l => exact hT _ _ hs
    | two a w l b v m => exact ⟨hT _ _ hs.1, hT _ _ hs.2⟩
  have main : ∀ (rest done : List α) (T : Sto), l = done ++ rest → Sto.le S1 T → T p = some (.lst true ((done.filter c).map f)) → lcS t cond e src p ρ Pd (rest.map enc) T := by
    intro rest
    induction rest with
    | nil =>
      intro done T hd hT hTp
      rw [List.append_nil] at hd
      subst hd
      exact ⟨sok T hT, fin T hT hTp⟩
    | cons d rest ih =>
      intro done T hd hT hTp
      have hmem : d ∈ l := by rw [hd]; simp
      refine ⟨sok T hT, ?_⟩
      refine step d hmem T _ _ hT (fun hc T' hT' => ?_) fun hc T' hT' => ?_
      · show match T' p with
          | some (.lst true acc) => acc.length < sizeLine ∧ lcS t cond e src p ρ Pd (rest.map enc) (T'.up p (.lst true (acc ++ [f d])))
          | _ => False
        rw [hT' _ _ hTp]
        refine ⟨?_, ih (done ++ [d]) _ (by rw [hd]; simp) (fun b o hb => ?_) ?_⟩
        · rw [List.length_map]
          have h1 := List.length_filter_le c done
          have h2 : l.length = done.length + (rest.length + 1) := by rw [hd]; simp
          omega
        · rw [up_oth (fun x => by rw [x, hb] at np; cases np)]
          exact hT' _ _ (hT _ _ hb)
        · rw [up_same, List.filter_append, List.map_append]
          simp [hc]
      · refine ih (done ++ [d]) T' (by rw [hd]; simp) (hT.trans hT') ?_
        rw [hT' _ _ hTp, List.filter_append, List.map_append]
        simp [hc]
  exact main l [] _ rfl (up_ls np) up_same
theorem lc_enc {α : Type} {t : ATg} {cond : AT} {e : AE} {src : Src} {p : Addr} {ρ : DSt} {Pd : Sto → Prop} {S1 : Sto} (enc f : α → D) {l : List α} (np : S1 p = none) (hs : src.ok S1) (hl : l.length ≤ sizeLine)
    (step : ∀ x ∈ l, ∀ (T : Sto) (K : D → Sto → Prop) (G : Sto → Prop), Sto.le S1 T → (∀ T', Sto.le T T' → K (f x) T') → t (enc x) ρ T (fun ρ1 T1 => cond ρ1 T1 (fun b T2 => if b = true then e ρ1 T2 K (fun _ _ _ _ => False) else G T2) (fun _ _ _ _ => False)) (fun _ _ _ _ => False))
    (fin : ∀ T, Sto.le S1 T → T p = some (.lst true (l.map f)) → Pd T) : lcS t cond e src p ρ Pd (l.map enc) (S1.up p (.lst true [])) := by
  refine lc_encF enc f (fun _ => true) np hs hl (fun d hd T K G hT hK _ => step d hd T K G hT (hK rfl)) fun T hT hp => fin T hT ?_
  rw [hp, List.filter_eq_self.mpr (fun _ _ => rfl)]
theorem lc_map {t : ATg} {cond : AT} {e : AE} {src : Src} {p : Addr} {ρ : DSt} {Pd : Sto → Prop} {ds : List D} {S1 : Sto} (f : D → D) (np : S1 p = none) (hs : src.ok S1) (hl : ds.length ≤ sizeLine)
    (step : ∀ d ∈ ds, ∀ (T : Sto) (K : D → Sto → Prop) (G : Sto → Prop), Sto.le S1 T → (∀ T', Sto.le T T' → K (f d) T') → t d ρ T (fun ρ1 T1 => cond ρ1 T1 (fun b T2 => if b = true then e ρ1 T2 K (fun _ _ _ _ => False) else G T2) (fun _ _ _ _ => False)) (fun _ _ _ _ => False))
    (fin : ∀ T, Sto.le S1 T → T p = some (.lst true (ds.map f)) → Pd T) : lcS t cond e src p ρ Pd ds (S1.up p (.lst true [])) := by
  refine lc_filt f (fun _ => true) np hs hl (fun d hd T K G hT hK _ => step d hd T K G hT (hK rfl)) fun T hT hp => fin T hT ?_
  rw [hp, List.filter_eq_self.mpr (fun _ _ => rfl)]
theorem bool_map : ∀ {l : List Bool}, boolL (l.map D.bl) = some l
  | [] => rfl
  | b :: l => by rw [List.map_cons, boolL, bool_map]
theorem int_map : ∀ {l : List Int}, intL (l.map D.int) = some l
  | [] => rfl
  | b :: l => by rw [List.map_cons, intL, int_map]
theorem q_all {S : Sto} {P : PD} {a : Addr} {w : Bool} {l : List Bool} (e : S a = some (.lst w (l.map D.bl))) : biS .all [.ref a] S P = P (.bl (l.all id)) S := by
  simp only [biS, lstD, e, bool_map]
theorem q_any {S : Sto} {P : PD} {a : Addr} {w : Bool} {l : List Bool} (e : S a = some (.lst w (l.map D.bl))) : biS .any [.ref a] S P = P (.bl (l.any id)) S := by
  simp only [biS, lstD, e, bool_map]
theorem q_max1 {S : Sto} {P : PD} {a : Addr} {w : Bool} {l : List Int} (e : S a = some (.lst w (l.map D.int))) (hl : 0 < l.length) (h : ∀ m, m ∈ l → (∀ y, y ∈ l → y ≤ m) → P (.int m) S) : biS .max1 [.ref a] S P := by
  simp only [biS, lstD, e, int_map]
  exact ⟨hl, h⟩
theorem q_min1 {S : Sto} {P : PD} {a : Addr} {w : Bool} {l : List Int} (e : S a = some (.lst w (l.map D.int))) (hl : 0 < l.length) (h : ∀ m, m ∈ l → (∀ y, y ∈ l → m ≤ y) → P (.int m) S) : biS .min1 [.ref a] S P := by
  simp only [biS, lstD, e, int_map]
  exact ⟨hl, h⟩
theorem q_sum1 {S : Sto} {P : PD} {a : Addr} {w : Bool} {l : List Int} (e : S a = some (.lst w (l.map D.int))) : biS .sum [.ref a] S P = P (.int l.sum) S := by
  simp only [biS, lstD, e, int_map]
theorem wZs_one {Γ : Gam} {z : Z} {N : DE} {ρ : DSt} {S : Sto} {W : AW} : wZs Γ [z] N ρ S W = wZ Γ z N ρ S W := by simp only [wZs]
theorem wZ_for {Γ : Gam} {t : T} {it : I} {b : List Z} {N : DE} {ρ : DSt} {S : Sto} {W : AW} : wZ Γ (.for_ t it b) N ρ S W = wI Γ it ρ S (fun ds src S1 => forS (wT Γ t) (wZs Γ b) src N W ds ρ S1) W := by simp only [wZ]
theorem wI_r1 {Γ : Gam} {j : Int} {ρ : DSt} {S : Sto} {P : List D → Src → Sto → Prop} {W : AW} : wI Γ (.rng1 (.c (.int j))) ρ S P W = ((-(2 ^ 62) ≤ j ∧ j < 2 ^ 62) ∧ P (rngItems 0 j.toNat) .free S) := by simp only [wI, wE]
theorem rng_cons {lo : Int} {n : Nat} : rngItems lo (n + 1) = .int lo :: rngItems (lo + 1) n := by
  unfold rngItems
  rw [List.range_succ_eq_map, List.map_cons, List.map_map]
  congr 1
  · simp
  · apply List.map_congr_left
    intro i _
    simp only [Function.comp, Nat.succ_eq_add_one]
    congr 1
    omega
theorem rng_zero {lo : Int} : rngItems lo 0 = [] := rfl
/-- a list of things drawn -/
theorem lc_draw {α : Type} {t : ATg} {cond : AT} {e : AE} {p a : Addr} {ρ : DSt} {Pd : Sto → Prop} {ds : List D} {S1 : Sto} {n : Int} (enc : α → D) (good : α → Prop) (c : Nat) (np : S1 p = none) (r : Row S1 a n) (hl : ds.length ≤ sizeLine)
    (step : ∀ d ∈ ds, ∀ (T : Sto) (m : Int) (K : D → Sto → Prop) (G : Sto → Prop), Row T a m → m ≤ n + c * ds.length → Rowed S1 T a → (∀ x T', good x → Row T' a (m + c) → Rowed T T' a → K (enc x) T') → t d ρ T (fun ρ1 T1 => cond ρ1 T1 (fun b T2 => if b = true then e ρ1 T2 K (fun _ _ _ _ => False) else G T2) (fun _ _ _ _ => False)) (fun _ _ _ _ => False))
    (fin : ∀ (l : List α) T, l.length = ds.length → (∀ x ∈ l, good x) → T p = some (.lst true (l.map enc)) → Row T a (n + c * ds.length) → Rowed S1 T a → Pd T) : lcS t cond e .free p ρ Pd ds (S1.up p (.lst true [])) := by
  have dp : p ≠ a := r.ne np
  have main : ∀ (rest : List D) (l : List α) (T : Sto), rest.length + l.length = ds.length → (∀ d ∈ rest, d ∈ ds) → (∀ x ∈ l, good x) → T p = some (.lst true (l.map enc)) → Row T a (n + c * l.length) → Rowed S1 T a → lcS t cond e .free p ρ Pd rest T := by
    intro rest
    induction rest with
    | nil =>
      intro l T hlen _ hg hT hr ho
      have : l.length = ds.length := by simpa using hlen
      exact ⟨trivial, fin l T this hg hT (by rw [← this]; exact hr) ho⟩
    | cons d rest ih =>
      intro l T hlen hsub hg hT hr ho
      have hlen' : rest.length + 1 + l.length = ds.length := by simpa using hlen
      have hle : (c : Int) * (l.length : Int) ≤ (c : Int) * (ds.length : Int) := Int.mul_le_mul_of_nonneg_left (by omega) (by omega)
      refine ⟨trivial, step d (hsub d (by simp)) T (n + c * l.length) _ _ hr (by omega) ho fun x T' hx hr' ho' => ?_⟩
      show match T' p with
        | some (.lst true acc) => acc.length < sizeLine ∧ lcS t cond e .free p ρ Pd rest (T'.up p (.lst true (acc ++ [enc x])))
        | _ => False
      rw [ho' _ _ dp hT]
      refine ⟨by rw [List.length_map]; omega, ih (l ++ [x]) _ (by rw [List.length_append]; simp only [List.length_cons, List.length_nil]; omega) (fun d hd => hsub d (by simp [hd])) (fun y hy => ?_) (by rw [up_same, List.map_append]; rfl) ?_ ?_⟩
      · rcases List.mem_append.mp hy with z | z
        · exact hg y z
        · rw [List.mem_singleton.mp z]; exact hx
      · obtain ⟨k, m, e, m0, m1⟩ := hr'
        refine ⟨k, m, by rw [up_oth dp]; exact e, m0, ?_⟩
        rw [List.length_append]
        simp only [List.length_cons, List.length_nil]
        have : (c : Int) * (((l.length + (0 + 1) : Nat)) : Int) = (c : Int) * (l.length : Int) + c := by
          rw [show (((l.length + (0 + 1) : Nat)) : Int) = (l.length : Int) + 1 by omega, Int.mul_add, Int.mul_one]
        omega
      · intro b o hb e
        rw [up_oth (fun x => by rw [x, e] at np; cases np)]
        exact (ho.trans ho') b o hb e
  exact main ds [] _ (by simp) (fun _ h => h) (by simp) up_same (by simpa using (r.ne' np)) (rowed_refl.new np)
/-- one of a list by a draw -/
theorem pick_row {S : Sto} {r a : Addr} {n : Int} {w : Bool} {l : List D} {K : PD} {W : FW} (row : Row S a n) (hn : n < 2 ^ 59) (e : S r = some (.lst w l)) (hr : r ≠ a) (hl : 0 < l.length) (hm : l.length < 2 ^ 60)
    (hK : ∀ d S', d ∈ l → Row S' a (n + 1) → Rowed S S' a → K d S') : biS .len [.ref r] S (fun x S1 => c_law_take [.ref a, x] S1 (fun y S2 => ixS (.ref r) y S2 K) W) := by
  rw [q_lenL, q_seqL, e]
  refine take_row row hn ⟨by omega, by omega⟩ fun k S' k0 k1 r1 o1 => ?_
  rw [q_ixL, o1 _ _ hr e]
  obtain ⟨d, e1, hd⟩ := at_drawD k0 k1
  simp only [e1]
  exact hK d S' hd r1 o1
/-- one of a list of things -/
theorem pick_wf {S : Sto} {r a : Addr} {n : Int} {m : Nat} {w : Bool} {l : List D} {K : PD} {W : FW} (row : Row S a n) (hn : n < 2 ^ 59) (e : S r = some (.lst w l)) (hr : r ≠ a) (hl : 0 < l.length) (hm : l.length < 2 ^ 60) (hw : Wfs S m l)
    (hK : ∀ d S', Wf S' m d → Row S' a (n + 1) → Rowed S S' a → K d S') : biS .len [.ref r] S (fun x S1 => c_law_take [.ref a, x] S1 (fun y S2 => ixS (.ref r) y S2 K) W) :=
  pick_row row hn e hr hl hm fun d S' hd r1 o1 => hK d S' (Wf.lw (lw_row o1 r1) (Nat.le_refl _) d (wfs_mem.mp hw d hd)) r1 o1
end Sd
namespace Sd
open PySem
/-! ### constants that are tuples of numbers -/
section
open PySem PySem.Spec PyProof.Rows L2
theorem cst_tup {Γ : Gam} {K : PySem.W.Frag} {mg : Str → Option Value} {x : Str} {k : Nat} {ns : List Int} {h : Heap} (X : K.In h) (G : h.Ns mainGlobals mg) (hΓ : Γ.cst k = some (.tup (ns.map D.int)))
    (c : (eqF (PySem.W.nsIn K mainGlobals x) (some (some (.ref (gaK K x)))) && He.tupB K x (ns.map He.Dv.int)) = true) : CstAt Γ K mg (x, k) := by
  intro d e
  rw [hΓ] at e
  cases e
  rw [Bool.and_eq_true] at c
  obtain ⟨c1, c2⟩ := c
  unfold eqF at c1
  rw [decide_eq_true_eq] at c1
  refine ⟨.ref (gaK K x), .ref (gaK K x), PySem.W.mg_of X G c1, rfl, fun H => ⟨_, _, rfl, He.tupB_ok c2 H, ?_⟩⟩
  have e : (ns.map He.Dv.int).map (He.Dv.v K) = ns.map L2.V.int := by
    rw [List.map_map]
    rfl
  rw [e]
  exact rps_ints ns
end
/-! ### primes -/
def primesL : List Int := [2, 3, 5, 7, 11, 13, 17, 19, 23, 29, 31, 37, 41, 43, 47, 53, 59, 61, 67, 71, 73, 79, 83, 89, 97]
def primeD : D → Bool
  | .int i => decide (i ∈ primesL)
  | _ => false
theorem in_ints {i : Int} : ∀ {ns : List Int}, inFl (.int i) (ns.map D.int) = decide (i ∈ ns)
  | [] => by simp [inFl]
  | n :: ns => by
    have ih := in_ints (i := i) (ns := ns)
    unfold inFl at ih ⊢
    rw [List.map_cons, List.any_cons, ih]
    show ((n == i) || decide (i ∈ ns)) = _
    by_cases h : n = i
    · simp [h]
    · have h' : i ≠ n := fun e => h e.symm
      simp [h, h']
theorem fl_ints : ∀ {ns : List Int}, (ns.map D.int).all flD = true
  | [] => rfl
  | n :: ns => by
    rw [List.map_cons, List.all_cons, fl_ints]
    rfl
theorem q_notinT {S : Sto} {P : PD} {i : Int} {ns : List Int} : cmpS .NotIn (.int i) (.tup (ns.map D.int)) S P = P (.bl (!decide (i ∈ ns))) S := by
  show (flD (.int i) = true ∧ (ns.map D.int).all flD = true ∧ P (.bl (!inFl (.int i) (ns.map D.int))) S) = _
  rw [in_ints]
  simp [fl_ints, flD]
def c_look_prime : Con := fun ds S P W => match ds with
  | [d] => Kd S d ∧ (primeD d = true → P .non S) ∧ (primeD d = false → W 2 none S)
  | _ => False
theorem m_look_prime {Γ : Gam} (h21 : Γ.fn 21 = c_is_whole) (a21 : Γ.ar 21 = 1) (hc : Γ.cst 0 = some (.tup (primesL.map D.int))) : Meets Γ 1 z_look_prime c_look_prime := by
  intro ds S P W h
  unfold c_look_prime at h
  split at h
  · rename_i d
    obtain ⟨hk, h1, h2⟩ := h
    change wZs Γ z_look_prime (retE P) [some d] S (errW W)
    dsimp only [z_look_prime, wZs, wZ, wE, wEs, wT, wTs, lk, List.set, aTru]
    simp only [h21, a21, hc, List.length_cons, List.length_nil, Nat.reduceAdd, true_and]
    refine whole_kd hk (fun i e => ?_) fun e => ?_
    · subst e
      simp only [q_tb, Bool.not_true, q_notinT]
      refine if_nb (fun z => err_now (h2 (decide_eq_false z))) fun z => ?_
      exact ⟨S, Sto.le.refl S, h1 (decide_eq_true z)⟩
    · have e1 : primeD d = false := by
        cases d <;> first | rfl | exact (e _ rfl).elim
      simp only [q_tb, Bool.not_false, reduceIte]
      exact err_now (h2 e1)
  · exact h.elim
/-- how often p divides x -/
def Val (p x : Int) (k : Nat) : Prop := p ^ k ∣ x ∧ ¬ p ^ (k + 1) ∣ x
def c_times_in : Con := fun ds S P _ => match ds with
  | [.int x, .int p] => x ≠ 0 ∧ (2 ≤ p ∧ p < 100) ∧ ∀ k, Val p x k → P (.int (k : Nat)) S
  | _ => False
theorem val_end {p x y : Int} {k : Nat} (hp : 2 ≤ p) (e : x = y * p ^ k) (h : ¬ p ∣ y) : Val p x k := by
  refine ⟨⟨y, by rw [e, Int.mul_comm]⟩, fun ⟨z, hz⟩ => h ⟨z, ?_⟩⟩
  have h0 : p ^ k ≠ 0 := Int.ne_of_gt (Int.pow_pos (by omega))
  apply Int.eq_of_mul_eq_mul_right h0
  rw [← e, hz, Int.pow_succ, Int.mul_assoc, Int.mul_comm (p ^ k)]
theorem fmod_dv {a b : Int} (h : a.fmod b = 0) : b ∣ a := Int.dvd_of_fmod_eq_zero h
theorem div_down {y p : Int} (hp : 2 ≤ p) (hy : y ≠ 0) (h : p ∣ y) : (y.fdiv p).natAbs < y.natAbs ∧ y.fdiv p ≠ 0 ∧ y.fdiv p * p = y := by
  rw [fdiv_dvd h]
  have e : y / p * p = y := Int.ediv_mul_cancel h
  have hz : y / p ≠ 0 := fun z => hy (by rw [← e, z, Int.zero_mul])
  have : y.natAbs = (y / p).natAbs * p.natAbs := by rw [← Int.natAbs_mul, e]
  refine ⟨?_, hz, e⟩
  rw [this]
  have h2 : 2 ≤ p.natAbs := by omega
  have h3 : 0 < (y / p).natAbs := by omega
  calc (y / p).natAbs < (y / p).natAbs * 2 := by omega
    _ ≤ (y / p).natAbs * p.natAbs := Nat.mul_le_mul_left _ h2
theorem m_times_in {Γ : Gam} : Meets Γ 3 z_times_in c_times_in := by
  intro ds S P W h
  unfold c_times_in at h
  split at h
  · rename_i x p
    obtain ⟨hx, ⟨hp, hp2⟩, h⟩ := h
    change wZs Γ z_times_in (retE P) [some (.int x), some (.int p), none] S (errW W)
    dsimp only [z_times_in, wZs, wZ, wE, wEs, wT, wTs, lk, List.set, aTru]
    refine ⟨fun m ρ S1 => S1 = S ∧ ∃ y k, m = y.natAbs ∧ ρ = [some (.int y), some (.int p), some (.int (k : Nat))] ∧ y ≠ 0 ∧ x = y * p ^ k, ⟨_, rfl, x, 0, rfl, rfl, hx, by simp⟩, ?_⟩
    rintro m ρ S1 ⟨rfl, y, k, rfl, rfl, hy, e⟩
    simp only [lk, List.set, q_mod, q_eq, q_tb, q_div]
    refine ⟨by omega, if_b (fun hz => ?_) fun hz => ?_⟩
    · obtain ⟨d1, d2, d3⟩ := div_down hp hy (fmod_dv hz)
      refine ⟨div_ok (n := 64) (by omega) (by omega) (by decide) (by decide), ?_⟩
      refine ⟨_, d1, trivial, _, k + 1, rfl, rfl, d2, ?_⟩
      rw [e, Int.pow_succ, Int.mul_comm (p ^ k), ← Int.mul_assoc, d3]
    · exact ret_now (h k (val_end hp e fun z => hz (fmod_dvd z)))
  · exact h.elim
/-! ### what primes do -/
theorem primes_ok : ∀ p ∈ primesL, 2 ≤ p ∧ p < 100 ∧ ∀ d ∈ List.range (p.toNat + 1), d ∣ p.toNat → d = 1 ∨ d = p.toNat := by decide +kernel
theorem prime_dvd {p : Int} (h : p ∈ primesL) {x y : Int} (hd : p ∣ x * y) : p ∣ x ∨ p ∣ y := by
  obtain ⟨h2, _, hp⟩ := primes_ok p h
  have e : ((p.toNat : Nat) : Int) = p := by omega
  have g : Nat.gcd x.natAbs p.toNat ∣ p.toNat := Nat.gcd_dvd_right ..
  have gl : Nat.gcd x.natAbs p.toNat ≤ p.toNat := Nat.le_of_dvd (by omega) g
  have hd' : p.toNat ∣ x.natAbs * y.natAbs := by
    rw [← Int.natAbs_mul]
    have : p.natAbs ∣ (x * y).natAbs := Int.natAbs_dvd_natAbs.mpr hd
    rwa [show p.natAbs = p.toNat by omega] at this
  rcases hp _ (List.mem_range.mpr (by omega)) g with h1 | h1
  · right
    have c : Nat.Coprime p.toNat x.natAbs := by
      unfold Nat.Coprime
      rw [Nat.gcd_comm]
      exact h1
    have := c.dvd_of_dvd_mul_left hd'
    exact Int.natAbs_dvd_natAbs.mp (by rwa [show p.natAbs = p.toNat by omega])
  · left
    have : p.toNat ∣ x.natAbs := by
      rw [← h1]
      exact Nat.gcd_dvd_left ..
    exact Int.natAbs_dvd_natAbs.mp (by rwa [show p.natAbs = p.toNat by omega])
theorem pow_le_dvd {p : Int} {i j : Nat} (h : i ≤ j) : p ^ i ∣ p ^ j := ⟨p ^ (j - i), by rw [← Int.pow_add]; congr 1; omega⟩
theorem val_uniq {p x : Int} {i j : Nat} (h : Val p x i) (k : Val p x j) : i = j := by
  rcases Nat.lt_trichotomy i j with l | l | l
  · exact (h.2 (Int.dvd_trans (pow_le_dvd l) k.1)).elim
  · exact l
  · exact (k.2 (Int.dvd_trans (pow_le_dvd l) h.1)).elim
theorem val_mul {p : Int} (hp : p ∈ primesL) {x y : Int} {i j : Nat} (h : Val p x i) (k : Val p y j) : Val p (x * y) (i + j) := by
  have h2 := (primes_ok p hp).1
  obtain ⟨⟨u, hu⟩, hx⟩ := h
  obtain ⟨⟨v, hv⟩, hy⟩ := k
  refine val_end h2 (y := u * v) ?_ fun hd => ?_
  · rw [hu, hv, Int.pow_add]
    simp only [Int.mul_comm, Int.mul_left_comm, Int.mul_assoc]
  · rcases prime_dvd hp hd with ⟨z, hz⟩ | ⟨z, hz⟩
    · exact hx ⟨z, by rw [hu, hz, Int.pow_succ, Int.mul_assoc]⟩
    · exact hy ⟨z, by rw [hv, hz, Int.pow_succ, Int.mul_assoc]⟩
theorem val_ex {p : Int} (h2 : 2 ≤ p) : ∀ (n : Nat) {x : Int}, x.natAbs ≤ n → x ≠ 0 → ∃ k, Val p x k
  | 0, x, hn, hx => by omega
  | n + 1, x, hn, hx => by
    by_cases hd : p ∣ x
    · obtain ⟨d1, d2, d3⟩ := div_down h2 hx hd
      obtain ⟨k, hk, hk2⟩ := val_ex h2 n (x := x.fdiv p) (by omega) d2
      refine ⟨k + 1, ?_, ?_⟩
      · obtain ⟨z, hz⟩ := hk
        exact ⟨z, by rw [← d3, hz, Int.pow_succ]; simp only [Int.mul_comm, Int.mul_left_comm, Int.mul_assoc]⟩
      · rintro ⟨z, hz⟩
        apply hk2
        have h0 : p ≠ 0 := by omega
        refine ⟨z, Int.eq_of_mul_eq_mul_right h0 ?_⟩
        rw [d3, hz, Int.pow_succ p (k + 1)]
        simp only [Int.mul_comm, Int.mul_left_comm, Int.mul_assoc]
    · exact ⟨0, ⟨x, by simp⟩, by rw [Nat.zero_add, Int.pow_one]; exact hd⟩
/-- the power of p in t over b -/
def Pw (p t b : Int) (n : Int) : Prop := ∃ i j : Nat, Val p t i ∧ Val p b j ∧ n = (i : Int) - (j : Int)
theorem pw_ex {p t b : Int} (h2 : 2 ≤ p) (ht : t ≠ 0) (hb : b ≠ 0) : ∃ n, Pw p t b n := by
  obtain ⟨i, hi⟩ := val_ex h2 _ (Nat.le_refl _) ht
  obtain ⟨j, hj⟩ := val_ex h2 _ (Nat.le_refl _) hb
  exact ⟨_, i, j, hi, hj, rfl⟩
theorem pw_cross {p : Int} (hp : p ∈ primesL) {t b t' b' n n' : Int} (h : Pw p t b n) (h' : Pw p t' b' n') (e : t * b' = t' * b) : n = n' := by
  obtain ⟨i, j, h1, h2, rfl⟩ := h
  obtain ⟨i', j', h1', h2', rfl⟩ := h'
  have a := val_mul hp h1 h2'
  have b := val_mul hp h1' h2
  rw [e] at a
  have := val_uniq a b
  omega
theorem pw_mul {p : Int} (hp : p ∈ primesL) {t b t' b' n n' : Int} (h : Pw p t b n) (h' : Pw p t' b' n') : Pw p (t * t') (b * b') (n + n') := by
  obtain ⟨i, j, h1, h2, rfl⟩ := h
  obtain ⟨i', j', h1', h2', rfl⟩ := h'
  exact ⟨_, _, val_mul hp h1 h1', val_mul hp h2 h2', by omega⟩
/-- power_in(part, prime) -/
def c_power_in : Con := fun ds S P W => match ds with
  | [.tup [.int t, .int b], d] => Kd S d ∧ (primeD d = false → W 2 none S) ∧ ∀ p, d = .int p → p ∈ primesL → (t = 0 → P .non S) ∧ (t ≠ 0 → b ≠ 0 ∧ ∀ n, Pw p t b n → P (.int n) S)
  | _ => False
theorem m_power_in {Γ : Gam} (h26 : Γ.fn 26 = c_look_prime) (a26 : Γ.ar 26 = 1) (h27 : Γ.fn 27 = c_times_in) (a27 : Γ.ar 27 = 2) : Meets Γ 2 z_power_in c_power_in := by
  intro ds S P W h
  unfold c_power_in at h
  split at h
  · rename_i t b d
    obtain ⟨hk, hw, h⟩ := h
    change wZs Γ z_power_in (retE P) [some (.tup [.int t, .int b]), some d] S (errW W)
    dsimp only [z_power_in, wZs, wZ, wE, wEs, wT, wTs, lk, List.set, aTru]
    simp only [h26, a26, h27, a27, c_look_prime, q_ixT, at0, at1, q_eq, q_tb, List.length_cons, List.length_nil, Nat.reduceAdd, true_and]
    refine ⟨hk, fun hp => ?_, fun hp => err_now (hw hp)⟩
    cases d with
    | int p =>
      have hp' : p ∈ primesL := of_decide_eq_true hp
      obtain ⟨h1, h2⟩ := h p rfl hp'
      obtain ⟨q2, q3, _⟩ := primes_ok p hp'
      refine if_b (fun z => ret_now (h1 z)) fun z => ?_
      obtain ⟨hb, h2⟩ := h2 z
      simp only [c_times_in, q_sub]
      exact ⟨z, ⟨q2, q3⟩, fun i hi => ⟨hb, ⟨q2, q3⟩, fun j hj => ret_now (h2 _ ⟨i, j, hi, hj, rfl⟩)⟩⟩
    | _ => cases hp
  · exact h.elim
/-- _law_power(top, bottom, prime) -/
def c_law_power : Con := fun ds S P W => match ds with
  | [.int t, .int b, .int p] => t ≠ 0 ∧ b ≠ 0 ∧ (2 ≤ p ∧ p < 100) ∧ ∀ n, Pw p t b n → P (.int n) S
  | _ => False
theorem m_law_power {Γ : Gam} : Meets Γ 4 z_law_power c_law_power := by
  intro ds S P W h
  unfold c_law_power at h
  split at h
  · rename_i t b p
    obtain ⟨ht, hb, ⟨hp, hp2⟩, h⟩ := h
    change wZs Γ z_law_power (retE P) [some (.int t), some (.int b), some (.int p), none] S (errW W)
    dsimp only [z_law_power, wZs, wZ, wE, wEs, wT, wTs, lk, List.set, aTru]
    have dp : DivOk p := div_ok (n := 64) (by omega) (by omega) (by decide) (by decide)
    refine ⟨fun m ρ S1 => S1 = S ∧ ∃ y k, m = y.natAbs ∧ ρ = [some (.int y), some (.int b), some (.int p), some (.int (k : Nat))] ∧ y ≠ 0 ∧ t = y * p ^ k, ⟨_, rfl, t, 0, rfl, rfl, ht, by simp⟩, ?_⟩
    rintro m ρ S1 ⟨rfl, y, k, rfl, rfl, hy, e⟩
    simp only [lk, List.set, q_mod, q_eq, q_tb, q_div, q_add]
    refine ⟨by omega, if_b (fun hz => ?_) fun hz => ?_⟩
    · obtain ⟨d1, d2, d3⟩ := div_down hp hy (fmod_dv hz)
      refine ⟨dp, ?_⟩
      refine ⟨_, d1, trivial, _, k + 1, rfl, rfl, d2, ?_⟩
      rw [e, Int.pow_succ, Int.mul_comm (p ^ k), ← Int.mul_assoc, d3]
    · have v1 : Val p t k := val_end hp e fun z => hz (fmod_dvd z)
      refine ⟨fun m ρ S2 => S2 = S1 ∧ ∃ (w : Int) (j : Nat), m = w.natAbs ∧ ρ = [some (.int y), some (.int w), some (.int p), some (.int ((k : Int) - (j : Int)))] ∧ w ≠ 0 ∧ b = w * p ^ j, ⟨_, rfl, b, 0, rfl, by simp, hb, by simp⟩, ?_⟩
      rintro m ρ S2 ⟨rfl, w, j, rfl, rfl, hw, e2⟩
      simp only [lk, List.set, q_mod, q_eq, q_tb, q_div, q_sub]
      refine ⟨by omega, if_b (fun hz => ?_) fun hz => ?_⟩
      · obtain ⟨d1, d2, d3⟩ := div_down hp hw (fmod_dv hz)
        refine ⟨dp, ?_⟩
        refine ⟨_, d1, trivial, _, j + 1, rfl, ?_, d2, ?_⟩
        · rw [show (k : Int) - ((j + 1 : Nat) : Int) = (k : Int) - (j : Int) - 1 by omega]
        · rw [e2, Int.pow_succ, Int.mul_comm (p ^ j), ← Int.mul_assoc, d3]
      · exact ret_now (h _ ⟨k, j, v1, val_end hp e2 fun z => hz (fmod_dvd z), rfl⟩)
  · exact h.elim
end Sd
namespace Sd
open PySem
/-! ### spots -/
def spotB : D → Bool
  | .tup [x, y] => fracB x && fracB y
  | _ => false
theorem spotB_s {d : D} : spotB d = true ↔ ∃ s : Spot, d = dS s := by
  constructor
  · intro h
    unfold spotB at h
    split at h
    · rename_i x y
      rw [Bool.and_eq_true] at h
      obtain ⟨a, rfl⟩ := fracB_q.mp h.1
      obtain ⟨b, rfl⟩ := fracB_q.mp h.2
      exact ⟨(a, b), rfl⟩
    · cases h
  · rintro ⟨s, rfl⟩
    unfold spotB dS
    simp only [Bool.and_eq_true]
    exact ⟨fracB_q.mpr ⟨_, rfl⟩, fracB_q.mpr ⟨_, rfl⟩⟩
theorem spotB_len {l : List D} (h : l.length ≠ 2) : spotB (.tup l) = false := by
  match l, h with
  | [], _ => rfl
  | [_], _ => simp [spotB]
  | [_, _], hl => exact (hl rfl).elim
  | _ :: _ :: _ :: _, _ => simp [spotB]
def c_law_spot : Con := fun ds S P _ => match ds with
  | [.ref a] => ∃ n, Row S a n ∧ n < 2 ^ 50 ∧ ∀ s S', SzS 100 s → Row S' a (n + 8) → Rowed S S' a → P (dS s) S'
  | _ => False
theorem m_law_spot {Γ : Gam} (h10 : Γ.fn 10 = c_law_frac) (a10 : Γ.ar 10 = 1) : Meets Γ 1 z_law_spot c_law_spot := by
  intro ds S P W h
  unfold c_law_spot at h
  split at h
  · rename_i a
    obtain ⟨n, r, hn, h⟩ := h
    change wZs Γ z_law_spot (retE P) [some (.ref a)] S (errW W)
    dsimp only [z_law_spot]
    dsimp only [wZs, wZ, wE, wEs, wT, wTs, wI, lk, List.set, aTru, partS, List.take, List.drop]
    try simp only [h10, a10, q_add, q_sub, q_mul, q_div, q_mod, q_pow, q_lt, q_le, q_gt, q_ge, q_eq, q_ne, q_is, q_isnt, q_isntB, q_isB, q_tb, q_ti, q_tn, q_tt, q_ixQ0, q_ixQ1, q_ixS0, q_ixS1, q_eqQ, q_neQ, q_eqSp, q_neSp, q_eqB, q_neB, q_ixT, q_lenT, q_abs, q_intI, q_intB, q_min2, q_max2, at0, at1, at2, List.length_cons, List.length_nil, sizeLine_eq, Nat.reduceAdd, Nat.reduceLeDiff, true_and, Bool.not_true, Bool.not_false, Bool.false_eq_true, if_false, reduceIte, lk, List.set, whole_int, whole_bl, whole_tup, whole_non]
    refine frac_row r (by omega) fun x S1 hx r1 o1 => frac_row r1 (by omega) fun y S2 hy r2 o2 => ret_now (h (x, y) S2 ⟨hx, hy⟩ (r2.mono (by omega)) (o1.trans o2))
  · exact h.elim
def c_is_spot : Con := fun ds S P _ => match ds with
  | [d] => (∃ n, Wf S n d) ∧ P (.bl (spotB d)) S
  | _ => False
theorem m_is_spot {Γ : Gam} (h22 : Γ.fn 22 = c_is_fracT) (a22 : Γ.ar 22 = 1) : Meets Γ 1 z_is_spot c_is_spot := by
  intro ds S P W h
  unfold c_is_spot at h
  split at h
  · rename_i d
    obtain ⟨⟨n, hw⟩, hp⟩ := h
    change wZs Γ z_is_spot (retE P) [some d] S (errW W)
    dsimp only [z_is_spot]
    dsimp only [wZs, wZ, wE, wEs, wT, wTs, wI, lk, List.set, aTru, partS, List.take, List.drop]
    rcases hw.thing with ⟨l, rfl, hl⟩ | ⟨hd, hk⟩
    · try simp only [isi_tup, q_add, q_sub, q_mul, q_div, q_mod, q_pow, q_lt, q_le, q_gt, q_ge, q_eq, q_ne, q_is, q_isnt, q_isntB, q_isB, q_tb, q_ti, q_tn, q_tt, q_ixQ0, q_ixQ1, q_ixS0, q_ixS1, q_eqQ, q_neQ, q_eqSp, q_neSp, q_eqB, q_neB, q_ixT, q_lenT, q_abs, q_intI, q_intB, q_min2, q_max2, at0, at1, at2, List.length_cons, List.length_nil, sizeLine_eq, Nat.reduceAdd, Nat.reduceLeDiff, true_and, Bool.not_true, Bool.not_false, Bool.false_eq_true, if_false, reduceIte, lk, List.set, whole_int, whole_bl, whole_tup, whole_non]
      by_cases h2 : l.length = 2
      · match l, h2 with
        | [x, y], _ =>
          have e2 : decide (((2 : Nat) : Int) = 2) = true := rfl
          try simp only [e2, h22, a22, c_is_fracT, q_add, q_sub, q_mul, q_div, q_mod, q_pow, q_lt, q_le, q_gt, q_ge, q_eq, q_ne, q_is, q_isnt, q_isntB, q_isB, q_tb, q_ti, q_tn, q_tt, q_ixQ0, q_ixQ1, q_ixS0, q_ixS1, q_eqQ, q_neQ, q_eqSp, q_neSp, q_eqB, q_neB, q_ixT, q_lenT, q_abs, q_intI, q_intB, q_min2, q_max2, at0, at1, at2, List.length_cons, List.length_nil, sizeLine_eq, Nat.reduceAdd, Nat.reduceLeDiff, true_and, Bool.not_true, Bool.not_false, Bool.false_eq_true, if_false, reduceIte, lk, List.set, whole_int, whole_bl, whole_tup, whole_non]
          refine ⟨⟨n, hl.1⟩, ?_⟩
          cases hx : fracB x
          · have e1 : spotB (.tup [x, y]) = false := by simp only [spotB, hx, Bool.false_and]
            rw [e1] at hp
            exact ret_now hp
          · refine ⟨⟨n, hl.2.1⟩, ?_⟩
            have e1 : spotB (.tup [x, y]) = fracB y := by simp only [spotB, hx, Bool.true_and]
            rw [e1] at hp
            exact ret_now hp
      · rw [spotB_len h2] at hp
        rw [decide_eq_false (fun z : ((l.length : Nat) : Int) = 2 => h2 (by omega))]
        exact ret_now hp
    · have e1 : spotB d = false := by
        cases d <;> first | rfl | exact (hd _ rfl).elim
      rw [e1] at hp
      try simp only [isi_not hk hd, q_add, q_sub, q_mul, q_div, q_mod, q_pow, q_lt, q_le, q_gt, q_ge, q_eq, q_ne, q_is, q_isnt, q_isntB, q_isB, q_tb, q_ti, q_tn, q_tt, q_ixQ0, q_ixQ1, q_ixS0, q_ixS1, q_eqQ, q_neQ, q_eqSp, q_neSp, q_eqB, q_neB, q_ixT, q_lenT, q_abs, q_intI, q_intB, q_min2, q_max2, at0, at1, at2, List.length_cons, List.length_nil, sizeLine_eq, Nat.reduceAdd, Nat.reduceLeDiff, true_and, Bool.not_true, Bool.not_false, Bool.false_eq_true, if_false, reduceIte, lk, List.set, whole_int, whole_bl, whole_tup, whole_non]
      exact ret_now hp
  · exact h.elim
def c_is_ahead : Con := fun ds S P _ => match ds with
  | [x, y] => ∃ s t, x = dS s ∧ y = dS t ∧ SzS 4000 s ∧ SzS 4000 t ∧ P (.bl (decide (ah s t))) S
  | _ => False
theorem ah_dec {s t : Spot} (h : s.1 ≠ t.1) : decide (s.1 < t.1) = decide (ah s t) := decide_eq_decide.mpr ⟨fun z => .inl z, fun z => z.elim id fun w => (h w.1).elim⟩
theorem ah_dec2 {s t : Spot} (h : s.1 = t.1) : decide (s.2 < t.2) = decide (ah s t) := decide_eq_decide.mpr ⟨fun z => .inr ⟨h, z⟩, fun z => z.elim (fun w => by rw [h] at w; exact (Rat.lt_irrefl w).elim) fun w => w.2⟩
theorem m_is_ahead {Γ : Gam} (h13 : Γ.fn 13 = c_is_below) (a13 : Γ.ar 13 = 2) : Meets Γ 2 z_is_ahead c_is_ahead := by
  intro ds S P W h
  unfold c_is_ahead at h
  split at h
  · obtain ⟨s, t, rfl, rfl, hs, ht, hp⟩ := h
    change wZs Γ z_is_ahead (retE P) [some (dS s), some (dS t)] S (errW W)
    dsimp only [z_is_ahead]
    dsimp only [wZs, wZ, wE, wEs, wT, wTs, wI, lk, List.set, aTru, partS, List.take, List.drop]
    try simp only [h13, a13, q_add, q_sub, q_mul, q_div, q_mod, q_pow, q_lt, q_le, q_gt, q_ge, q_eq, q_ne, q_is, q_isnt, q_isntB, q_isB, q_tb, q_ti, q_tn, q_tt, q_ixQ0, q_ixQ1, q_ixS0, q_ixS1, q_eqQ, q_neQ, q_eqSp, q_neSp, q_eqB, q_neB, q_ixT, q_lenT, q_abs, q_intI, q_intB, q_min2, q_max2, at0, at1, at2, List.length_cons, List.length_nil, sizeLine_eq, Nat.reduceAdd, Nat.reduceLeDiff, true_and, Bool.not_true, Bool.not_false, Bool.false_eq_true, if_false, reduceIte, lk, List.set, whole_int, whole_bl, whole_tup, whole_non]
    refine if_nb (fun hx => ?_) fun hx => ?_
    · refine is_below_q hs.1 ht.1 (ret_now ?_)
      rw [ah_dec hx]
      exact hp
    · refine is_below_q hs.2 ht.2 (ret_now ?_)
      rw [ah_dec2 hx]
      exact hp
  · exact h.elim
end Sd
namespace Sd
open PySem
/-! ### twice the area -/
/-- how_far: differences over the bottoms -/
def c_how_far : Con := fun ds S P _ => match ds with
  | [x, y] => ∃ s t n, x = dS s ∧ y = dS t ∧ n ≤ 100000 ∧ SzS n s ∧ SzS n t ∧ P (.tup [.tup [.int (t.1.num * s.1.den - s.1.num * t.1.den), .int (t.1.den * s.1.den)], .tup [.int (t.2.num * s.2.den - s.2.num * t.2.den), .int (t.2.den * s.2.den)]]) S
  | _ => False
theorem m_how_far {Γ : Gam} : Meets Γ 4 z_how_far c_how_far := by
  intro ds S P W h
  unfold c_how_far at h
  split at h
  · obtain ⟨s, t, n, rfl, rfl, hn, hs, ht, hp⟩ := h
    change wZs Γ z_how_far (retE P) [some (dS s), some (dS t), none, none] S (errW W)
    dsimp only [z_how_far]
    dsimp only [wZs, wZ, wE, wEs, wT, wTs, wI, lk, List.set, aTru, partS, List.take, List.drop]
    try simp only [true_and, q_add, q_sub, q_mul, q_div, q_mod, q_pow, q_lt, q_le, q_gt, q_ge, q_eq, q_ne, q_is, q_isnt, q_isntB, q_isB, q_tb, q_ti, q_tn, q_tt, q_ixQ0, q_ixQ1, q_ixS0, q_ixS1, q_eqQ, q_neQ, q_eqSp, q_neSp, q_eqB, q_neB, q_ixT, q_lenT, q_abs, q_intI, q_intB, q_min2, q_max2, at0, at1, at2, List.length_cons, List.length_nil, sizeLine_eq, Nat.reduceAdd, Nat.reduceLeDiff, true_and, Bool.not_true, Bool.not_false, Bool.false_eq_true, if_false, reduceIte, lk, List.set, whole_int, whole_bl, whole_tup, whole_non]
    have s1 := hs.1.bd; have s2 := hs.2.bd; have t1 := ht.1.bd; have t2 := ht.2.bd
    exact ⟨t1.1.ok s1.2 (by omega), s1.1.ok t1.2 (by omega), t1.2.ok s1.2 (by omega), t2.1.ok s2.2 (by omega), s2.1.ok t2.2 (by omega), t2.2.ok s2.2 (by omega), ret_now hp⟩
  · exact h.elim
/-- a top over a bottom: twice the area -/
def TwP (a b c : Spot) (n : Nat) (t u : Int) : Prop := 0 < u ∧ (t : Rat) = tw a b c * (u : Rat) ∧ Bd (8 * n + 3) t ∧ Bd (8 * n) u
theorem twp_eq (a b c : Spot) :
    (((b.1.num * a.1.den - a.1.num * b.1.den) * (c.2.num * a.2.den - a.2.num * c.2.den) * (c.1.den * a.1.den) * (b.2.den * a.2.den) - (c.1.num * a.1.den - a.1.num * c.1.den) * (b.2.num * a.2.den - a.2.num * b.2.den) * (b.1.den * a.1.den) * (c.2.den * a.2.den) : Int) : Rat)
      = tw a b c * (((b.1.den * a.1.den) * (c.2.den * a.2.den) * (c.1.den * a.1.den) * (b.2.den * a.2.den) : Int) : Rat) := by
  have h1 := rat_eq a.1; have h2 := rat_eq a.2; have h3 := rat_eq b.1; have h4 := rat_eq b.2; have h5 := rat_eq c.1; have h6 := rat_eq c.2
  have n1 := den_ne a.1; have n2 := den_ne a.2; have n3 := den_ne b.1; have n4 := den_ne b.2; have n5 := den_ne c.1; have n6 := den_ne c.2
  unfold tw
  simp only [Rat.intCast_mul, Rat.intCast_sub]
  generalize (a.1.num : Rat) = an at *
  generalize ((a.1.den : Int) : Rat) = ad at *
  generalize (a.2.num : Rat) = am at *
  generalize ((a.2.den : Int) : Rat) = ae at *
  generalize (b.1.num : Rat) = bn at *
  generalize ((b.1.den : Int) : Rat) = bd at *
  generalize (b.2.num : Rat) = bm at *
  generalize ((b.2.den : Int) : Rat) = be at *
  generalize (c.1.num : Rat) = cn at *
  generalize ((c.1.den : Int) : Rat) = cd at *
  generalize (c.2.num : Rat) = cm at *
  generalize ((c.2.den : Int) : Rat) = ce at *
  generalize a.1 = x1 at *
  generalize a.2 = x2 at *
  generalize b.1 = y1 at *
  generalize b.2 = y2 at *
  generalize c.1 = z1 at *
  generalize c.2 = z2 at *
  have e1 : an = x1 * ad := by rw [h1, Rat.div_mul_cancel n1]
  have e2 : am = x2 * ae := by rw [h2, Rat.div_mul_cancel n2]
  have e3 : bn = y1 * bd := by rw [h3, Rat.div_mul_cancel n3]
  have e4 : bm = y2 * be := by rw [h4, Rat.div_mul_cancel n4]
  have e5 : cn = z1 * cd := by rw [h5, Rat.div_mul_cancel n5]
  have e6 : cm = z2 * ce := by rw [h6, Rat.div_mul_cancel n6]
  rw [e1, e2, e3, e4, e5, e6]
  clear h1 h2 h3 h4 h5 h6 n1 n2 n3 n4 n5 n6 e1 e2 e3 e4 e5 e6
  grind
theorem twp_ok {n : Nat} {a b c : Spot} (ha : SzS n a) (hb : SzS n b) (hc : SzS n c) :
    TwP a b c n ((b.1.num * a.1.den - a.1.num * b.1.den) * (c.2.num * a.2.den - a.2.num * c.2.den) * (c.1.den * a.1.den) * (b.2.den * a.2.den) - (c.1.num * a.1.den - a.1.num * c.1.den) * (b.2.num * a.2.den - a.2.num * b.2.den) * (b.1.den * a.1.den) * (c.2.den * a.2.den))
      ((b.1.den * a.1.den) * (c.2.den * a.2.den) * (c.1.den * a.1.den) * (b.2.den * a.2.den)) := by
  have a1 := ha.1.bd; have a2 := ha.2.bd; have b1 := hb.1.bd; have b2 := hb.2.bd; have c1 := hc.1.bd; have c2 := hc.2.bd
  have pd : ∀ x : Rat, 0 < (x.den : Int) := fun x => by have := x.den_nz; omega
  refine ⟨?_, twp_eq a b c, ?_, ?_⟩
  · exact Int.mul_pos (Int.mul_pos (Int.mul_pos (Int.mul_pos (pd _) (pd _)) (Int.mul_pos (pd _) (pd _))) (Int.mul_pos (pd _) (pd _))) (Int.mul_pos (pd _) (pd _))
  · have r := (b1.1.mul a1.2).sub (a1.1.mul b1.2)
    have h := (c2.1.mul a2.2).sub (a2.1.mul c2.2)
    have q := (c1.1.mul a1.2).sub (a1.1.mul c1.2)
    have u := (b2.1.mul a2.2).sub (a2.1.mul b2.2)
    have x1 := ((r.mul h).mul (c1.2.mul a1.2)).mul (b2.2.mul a2.2)
    have x2 := ((q.mul u).mul (b1.2.mul a1.2)).mul (c2.2.mul a2.2)
    exact (x1.sub x2).mono (by omega)
  · exact ((((b1.2.mul a1.2).mul (c2.2.mul a2.2)).mul (c1.2.mul a1.2)).mul (b2.2.mul a2.2)).mono (by omega)
def c_twice_parts : Con := fun ds S P _ => match ds with
  | [x, y, z] => ∃ a b c n, x = dS a ∧ y = dS b ∧ z = dS c ∧ n ≤ 100000 ∧ SzS n a ∧ SzS n b ∧ SzS n c ∧ ∀ t u, TwP a b c n t u → P (.tup [.int t, .int u]) S
  | _ => False
theorem twp_mul {n : Nat} {a b c : Spot} (hn : n ≤ 100000) (ha : SzS n a) (hb : SzS n b) (hc : SzS n c) :
    IntMulOk (b.1.num * a.1.den - a.1.num * b.1.den) (c.2.num * a.2.den - a.2.num * c.2.den) ∧
    IntMulOk ((b.1.num * a.1.den - a.1.num * b.1.den) * (c.2.num * a.2.den - a.2.num * c.2.den)) (c.1.den * a.1.den) ∧
    IntMulOk ((b.1.num * a.1.den - a.1.num * b.1.den) * (c.2.num * a.2.den - a.2.num * c.2.den) * (c.1.den * a.1.den)) (b.2.den * a.2.den) ∧
    IntMulOk (c.1.num * a.1.den - a.1.num * c.1.den) (b.2.num * a.2.den - a.2.num * b.2.den) ∧
    IntMulOk ((c.1.num * a.1.den - a.1.num * c.1.den) * (b.2.num * a.2.den - a.2.num * b.2.den)) (b.1.den * a.1.den) ∧
    IntMulOk ((c.1.num * a.1.den - a.1.num * c.1.den) * (b.2.num * a.2.den - a.2.num * b.2.den) * (b.1.den * a.1.den)) (c.2.den * a.2.den) ∧
    IntMulOk (b.1.den * a.1.den) (c.2.den * a.2.den) ∧
    IntMulOk ((b.1.den * a.1.den) * (c.2.den * a.2.den)) (c.1.den * a.1.den) ∧
    IntMulOk ((b.1.den * a.1.den) * (c.2.den * a.2.den) * (c.1.den * a.1.den)) (b.2.den * a.2.den) := by
  have a1 := ha.1.bd; have a2 := ha.2.bd; have b1 := hb.1.bd; have b2 := hb.2.bd; have c1 := hc.1.bd; have c2 := hc.2.bd
  have r := (b1.1.mul a1.2).sub (a1.1.mul b1.2)
  have h := (c2.1.mul a2.2).sub (a2.1.mul c2.2)
  have q := (c1.1.mul a1.2).sub (a1.1.mul c1.2)
  have u := (b2.1.mul a2.2).sub (a2.1.mul b2.2)
  have d1 := b1.2.mul a1.2; have d2 := c2.2.mul a2.2; have d3 := c1.2.mul a1.2; have d4 := b2.2.mul a2.2
  exact ⟨r.ok h (by omega), (r.mul h).ok d3 (by omega), ((r.mul h).mul d3).ok d4 (by omega), q.ok u (by omega), (q.mul u).ok d1 (by omega), ((q.mul u).mul d1).ok d2 (by omega), d1.ok d2 (by omega), (d1.mul d2).ok d3 (by omega), ((d1.mul d2).mul d3).ok d4 (by omega)⟩
theorem m_twice_parts {Γ : Gam} (h43 : Γ.fn 43 = c_how_far) (a43 : Γ.ar 43 = 2) : Meets Γ 11 z_twice_parts c_twice_parts := by
  intro ds S P W h
  unfold c_twice_parts at h
  split at h
  · obtain ⟨a, b, c, n, rfl, rfl, rfl, hn, ha, hb, hc, hp⟩ := h
    change wZs Γ z_twice_parts (retE P) [some (dS a), some (dS b), some (dS c), none, none, none, none, none, none, none, none] S (errW W)
    dsimp only [z_twice_parts]
    dsimp only [wZs, wZ, wE, wEs, wT, wTs, wI, lk, List.set, aTru, partS, List.take, List.drop]
    try simp only [h43, a43, q_add, q_sub, q_mul, q_div, q_mod, q_pow, q_lt, q_le, q_gt, q_ge, q_eq, q_ne, q_is, q_isnt, q_isntB, q_isB, q_tb, q_ti, q_tn, q_tt, q_ixQ0, q_ixQ1, q_ixS0, q_ixS1, q_eqQ, q_neQ, q_eqSp, q_neSp, q_eqB, q_neB, q_ixT, q_lenT, q_abs, q_intI, q_intB, q_min2, q_max2, at0, at1, at2, List.length_cons, List.length_nil, sizeLine_eq, Nat.reduceAdd, Nat.reduceLeDiff, true_and, Bool.not_true, Bool.not_false, Bool.false_eq_true, if_false, reduceIte, lk, List.set, whole_int, whole_bl, whole_tup, whole_non]
    refine ⟨a, b, n, rfl, rfl, hn, ha, hb, ?_⟩
    try simp only [true_and, q_add, q_sub, q_mul, q_div, q_mod, q_pow, q_lt, q_le, q_gt, q_ge, q_eq, q_ne, q_is, q_isnt, q_isntB, q_isB, q_tb, q_ti, q_tn, q_tt, q_ixQ0, q_ixQ1, q_ixS0, q_ixS1, q_eqQ, q_neQ, q_eqSp, q_neSp, q_eqB, q_neB, q_ixT, q_lenT, q_abs, q_intI, q_intB, q_min2, q_max2, at0, at1, at2, List.length_cons, List.length_nil, sizeLine_eq, Nat.reduceAdd, Nat.reduceLeDiff, true_and, Bool.not_true, Bool.not_false, Bool.false_eq_true, if_false, reduceIte, lk, List.set, whole_int, whole_bl, whole_tup, whole_non]
    refine ⟨a, c, n, rfl, rfl, hn, ha, hc, ?_⟩
    try simp only [true_and, q_add, q_sub, q_mul, q_div, q_mod, q_pow, q_lt, q_le, q_gt, q_ge, q_eq, q_ne, q_is, q_isnt, q_isntB, q_isB, q_tb, q_ti, q_tn, q_tt, q_ixQ0, q_ixQ1, q_ixS0, q_ixS1, q_eqQ, q_neQ, q_eqSp, q_neSp, q_eqB, q_neB, q_ixT, q_lenT, q_abs, q_intI, q_intB, q_min2, q_max2, at0, at1, at2, List.length_cons, List.length_nil, sizeLine_eq, Nat.reduceAdd, Nat.reduceLeDiff, true_and, Bool.not_true, Bool.not_false, Bool.false_eq_true, if_false, reduceIte, lk, List.set, whole_int, whole_bl, whole_tup, whole_non]
    obtain ⟨g1, g2, g3, g4, g5, g6, g7, g8, g9⟩ := twp_mul hn ha hb hc
    exact ⟨g1, g2, g3, g4, g5, g6, g7, g8, g9, ret_now (hp _ _ (twp_ok ha hb hc))⟩
  · exact h.elim
abbrev c_law_less : Con := fun ds S P _ => match ds with
  | [x, y] => ∃ s t n, x = dQ s ∧ y = dQ t ∧ n ≤ 100000 ∧ Sz n s ∧ Sz n t ∧ P (.tup [.int (s.num * t.den - t.num * s.den), .int (s.den * t.den)]) S
  | _ => False
theorem m_law_less {Γ : Gam} : Meets Γ 2 z_law_less c_law_less := by
  intro ds S P W h
  unfold c_law_less at h
  split at h
  · obtain ⟨s, t, n, rfl, rfl, hn, hs, ht, hp⟩ := h
    change wZs Γ z_law_less (retE P) [some (dQ s), some (dQ t)] S (errW W)
    dsimp only [z_law_less]
    dsimp only [wZs, wZ, wE, wEs, wT, wTs, wI, lk, List.set, aTru, partS, List.take, List.drop]
    try simp only [true_and, q_add, q_sub, q_mul, q_div, q_mod, q_pow, q_lt, q_le, q_gt, q_ge, q_eq, q_ne, q_is, q_isnt, q_isntB, q_isB, q_tb, q_ti, q_tn, q_tt, q_ixQ0, q_ixQ1, q_ixS0, q_ixS1, q_eqQ, q_neQ, q_eqSp, q_neSp, q_eqB, q_neB, q_ixT, q_lenT, q_abs, q_intI, q_intB, q_min2, q_max2, at0, at1, at2, List.length_cons, List.length_nil, sizeLine_eq, Nat.reduceAdd, Nat.reduceLeDiff, true_and, Bool.not_true, Bool.not_false, Bool.false_eq_true, if_false, reduceIte, lk, List.set, whole_int, whole_bl, whole_tup, whole_non]
    have s1 := hs.bd; have t1 := ht.bd
    exact ⟨s1.1.ok t1.2 (by omega), t1.1.ok s1.2 (by omega), s1.2.ok t1.2 (by omega), ret_now hp⟩
  · exact h.elim
abbrev c_law_twice : Con := c_twice_parts
theorem m_law_twice {Γ : Gam} (h41 : Γ.fn 41 = c_law_less) (a41 : Γ.ar 41 = 2) : Meets Γ 12 z_law_twice c_law_twice := by
  intro ds S P W h
  unfold c_law_twice c_twice_parts at h
  split at h
  · obtain ⟨a, b, c, n, rfl, rfl, rfl, hn, ha, hb, hc, hp⟩ := h
    change wZs Γ z_law_twice (retE P) [some (dS a), some (dS b), some (dS c), none, none, none, none, none, none, none, none, none] S (errW W)
    dsimp only [z_law_twice]
    dsimp only [wZs, wZ, wE, wEs, wT, wTs, wI, lk, List.set, aTru, partS, List.take, List.drop]
    try simp only [h41, a41, q_add, q_sub, q_mul, q_div, q_mod, q_pow, q_lt, q_le, q_gt, q_ge, q_eq, q_ne, q_is, q_isnt, q_isntB, q_isB, q_tb, q_ti, q_tn, q_tt, q_ixQ0, q_ixQ1, q_ixS0, q_ixS1, q_eqQ, q_neQ, q_eqSp, q_neSp, q_eqB, q_neB, q_ixT, q_lenT, q_abs, q_intI, q_intB, q_min2, q_max2, at0, at1, at2, List.length_cons, List.length_nil, sizeLine_eq, Nat.reduceAdd, Nat.reduceLeDiff, true_and, Bool.not_true, Bool.not_false, Bool.false_eq_true, if_false, reduceIte, lk, List.set, whole_int, whole_bl, whole_tup, whole_non]
    refine ⟨b.1, a.1, n, rfl, rfl, hn, hb.1, ha.1, ?_⟩
    try simp only [true_and, q_add, q_sub, q_mul, q_div, q_mod, q_pow, q_lt, q_le, q_gt, q_ge, q_eq, q_ne, q_is, q_isnt, q_isntB, q_isB, q_tb, q_ti, q_tn, q_tt, q_ixQ0, q_ixQ1, q_ixS0, q_ixS1, q_eqQ, q_neQ, q_eqSp, q_neSp, q_eqB, q_neB, q_ixT, q_lenT, q_abs, q_intI, q_intB, q_min2, q_max2, at0, at1, at2, List.length_cons, List.length_nil, sizeLine_eq, Nat.reduceAdd, Nat.reduceLeDiff, true_and, Bool.not_true, Bool.not_false, Bool.false_eq_true, if_false, reduceIte, lk, List.set, whole_int, whole_bl, whole_tup, whole_non]
    refine ⟨b.2, a.2, n, rfl, rfl, hn, hb.2, ha.2, ?_⟩
    try simp only [true_and, q_add, q_sub, q_mul, q_div, q_mod, q_pow, q_lt, q_le, q_gt, q_ge, q_eq, q_ne, q_is, q_isnt, q_isntB, q_isB, q_tb, q_ti, q_tn, q_tt, q_ixQ0, q_ixQ1, q_ixS0, q_ixS1, q_eqQ, q_neQ, q_eqSp, q_neSp, q_eqB, q_neB, q_ixT, q_lenT, q_abs, q_intI, q_intB, q_min2, q_max2, at0, at1, at2, List.length_cons, List.length_nil, sizeLine_eq, Nat.reduceAdd, Nat.reduceLeDiff, true_and, Bool.not_true, Bool.not_false, Bool.false_eq_true, if_false, reduceIte, lk, List.set, whole_int, whole_bl, whole_tup, whole_non]
    refine ⟨c.1, a.1, n, rfl, rfl, hn, hc.1, ha.1, ?_⟩
    try simp only [true_and, q_add, q_sub, q_mul, q_div, q_mod, q_pow, q_lt, q_le, q_gt, q_ge, q_eq, q_ne, q_is, q_isnt, q_isntB, q_isB, q_tb, q_ti, q_tn, q_tt, q_ixQ0, q_ixQ1, q_ixS0, q_ixS1, q_eqQ, q_neQ, q_eqSp, q_neSp, q_eqB, q_neB, q_ixT, q_lenT, q_abs, q_intI, q_intB, q_min2, q_max2, at0, at1, at2, List.length_cons, List.length_nil, sizeLine_eq, Nat.reduceAdd, Nat.reduceLeDiff, true_and, Bool.not_true, Bool.not_false, Bool.false_eq_true, if_false, reduceIte, lk, List.set, whole_int, whole_bl, whole_tup, whole_non]
    refine ⟨c.2, a.2, n, rfl, rfl, hn, hc.2, ha.2, ?_⟩
    try simp only [true_and, q_add, q_sub, q_mul, q_div, q_mod, q_pow, q_lt, q_le, q_gt, q_ge, q_eq, q_ne, q_is, q_isnt, q_isntB, q_isB, q_tb, q_ti, q_tn, q_tt, q_ixQ0, q_ixQ1, q_ixS0, q_ixS1, q_eqQ, q_neQ, q_eqSp, q_neSp, q_eqB, q_neB, q_ixT, q_lenT, q_abs, q_intI, q_intB, q_min2, q_max2, at0, at1, at2, List.length_cons, List.length_nil, sizeLine_eq, Nat.reduceAdd, Nat.reduceLeDiff, true_and, Bool.not_true, Bool.not_false, Bool.false_eq_true, if_false, reduceIte, lk, List.set, whole_int, whole_bl, whole_tup, whole_non]
    obtain ⟨g1, g2, g3, g4, g5, g6, g7, g8, g9⟩ := twp_mul hn ha hb hc
    exact ⟨g1, g2, g3, g4, g5, g6, g7, g8, g9, ret_now (hp _ _ (twp_ok ha hb hc))⟩
  · exact h.elim
theorem TwP.div {a b c : Spot} {n : Nat} {t u : Int} (h : TwP a b c n t u) : (t : Rat) / (u : Rat) = tw a b c := by
  obtain ⟨h1, h2, _⟩ := h
  rw [h2, Rat.mul_div_cancel (cast_ne (by omega))]
def c_twice_of : Con := fun ds S P _ => match ds with
  | [x, y, z] => ∃ a b c, x = dS a ∧ y = dS b ∧ z = dS c ∧ SzS 1100 a ∧ SzS 1100 b ∧ SzS 1100 c ∧ P (dQ (tw a b c)) S
  | _ => False
theorem m_twice_of {Γ : Gam} (h44 : Γ.fn 44 = c_twice_parts) (a44 : Γ.ar 44 = 3) (h3 : Γ.fn 3 = c_frac_of) (a3 : Γ.ar 3 = 2) : Meets Γ 5 z_twice_of c_twice_of := by
  intro ds S P W h
  unfold c_twice_of at h
  split at h
  · obtain ⟨a, b, c, rfl, rfl, rfl, ha, hb, hc, hp⟩ := h
    change wZs Γ z_twice_of (retE P) [some (dS a), some (dS b), some (dS c), none, none] S (errW W)
    dsimp only [z_twice_of]
    dsimp only [wZs, wZ, wE, wEs, wT, wTs, wI, lk, List.set, aTru, partS, List.take, List.drop]
    try simp only [h44, a44, h3, a3, q_add, q_sub, q_mul, q_div, q_mod, q_pow, q_lt, q_le, q_gt, q_ge, q_eq, q_ne, q_is, q_isnt, q_isntB, q_isB, q_tb, q_ti, q_tn, q_tt, q_ixQ0, q_ixQ1, q_ixS0, q_ixS1, q_eqQ, q_neQ, q_eqSp, q_neSp, q_eqB, q_neB, q_ixT, q_lenT, q_abs, q_intI, q_intB, q_min2, q_max2, at0, at1, at2, List.length_cons, List.length_nil, sizeLine_eq, Nat.reduceAdd, Nat.reduceLeDiff, true_and, Bool.not_true, Bool.not_false, Bool.false_eq_true, if_false, reduceIte, lk, List.set, whole_int, whole_bl, whole_tup, whole_non]
    refine ⟨a, b, c, 1100, rfl, rfl, rfl, by decide, ha, hb, hc, fun t u htu => ?_⟩
    try simp only [true_and, q_add, q_sub, q_mul, q_div, q_mod, q_pow, q_lt, q_le, q_gt, q_ge, q_eq, q_ne, q_is, q_isnt, q_isntB, q_isB, q_tb, q_ti, q_tn, q_tt, q_ixQ0, q_ixQ1, q_ixS0, q_ixS1, q_eqQ, q_neQ, q_eqSp, q_neSp, q_eqB, q_neB, q_ixT, q_lenT, q_abs, q_intI, q_intB, q_min2, q_max2, at0, at1, at2, List.length_cons, List.length_nil, sizeLine_eq, Nat.reduceAdd, Nat.reduceLeDiff, true_and, Bool.not_true, Bool.not_false, Bool.false_eq_true, if_false, reduceIte, lk, List.set, whole_int, whole_bl, whole_tup, whole_non]
    refine frac_of_q (by have := htu.1; omega) (htu.2.2.2.lt9 (by decide)) ?_
    rw [htu.div]
    exact ret_now hp
  · exact h.elim
theorem int_lt0 {t : Int} : ((t : Rat) < 0) ↔ t < 0 := Rat.intCast_neg_iff
theorem sgn_top {a b c : Spot} {n : Nat} {t u : Int} (h : TwP a b c n t u) : ((if decide (0 < t) = true then (1 : Int) else 0) - (if decide (t < 0) = true then 1 else 0)) = sgn (tw a b c) := by
  obtain ⟨h1, h2, _⟩ := h
  have hu : (0 : Rat) < (u : Rat) := Rat.intCast_pos.mpr h1
  have p : 0 < t ↔ 0 < tw a b c := by
    rw [← Rat.intCast_pos (a := t), h2]
    exact Rat.mul_pos_iff_of_pos_right hu
  have q : t < 0 ↔ tw a b c < 0 := by
    rw [← int_lt0 (t := t), h2]
    exact Rat.mul_neg_iff_of_pos_right hu
  unfold sgn
  simp only [decide_eq_true_eq]
  by_cases h3 : 0 < t
  · rw [if_pos h3, if_pos (p.mp h3), if_neg (by omega)]; rfl
  · rw [if_neg h3, if_neg (fun z => h3 (p.mpr z))]
    by_cases h4 : t < 0
    · rw [if_pos h4, if_pos (q.mp h4)]; rfl
    · rw [if_neg h4, if_neg (fun z => h4 (q.mpr z))]; rfl
def c_turn_of : Con := fun ds S P _ => match ds with
  | [x, y, z] => ∃ a b c n, x = dS a ∧ y = dS b ∧ z = dS c ∧ n ≤ 100000 ∧ SzS n a ∧ SzS n b ∧ SzS n c ∧ P (.int (sgn (tw a b c))) S
  | _ => False
theorem m_turn_of {Γ : Gam} (h44 : Γ.fn 44 = c_twice_parts) (a44 : Γ.ar 44 = 3) : Meets Γ 4 z_turn_of c_turn_of := by
  intro ds S P W h
  unfold c_turn_of at h
  split at h
  · obtain ⟨a, b, c, n, rfl, rfl, rfl, hn, ha, hb, hc, hp⟩ := h
    change wZs Γ z_turn_of (retE P) [some (dS a), some (dS b), some (dS c), none] S (errW W)
    dsimp only [z_turn_of]
    dsimp only [wZs, wZ, wE, wEs, wT, wTs, wI, lk, List.set, aTru, partS, List.take, List.drop]
    try simp only [h44, a44, q_add, q_sub, q_mul, q_div, q_mod, q_pow, q_lt, q_le, q_gt, q_ge, q_eq, q_ne, q_is, q_isnt, q_isntB, q_isB, q_tb, q_ti, q_tn, q_tt, q_ixQ0, q_ixQ1, q_ixS0, q_ixS1, q_eqQ, q_neQ, q_eqSp, q_neSp, q_eqB, q_neB, q_ixT, q_lenT, q_abs, q_intI, q_intB, q_min2, q_max2, at0, at1, at2, List.length_cons, List.length_nil, sizeLine_eq, Nat.reduceAdd, Nat.reduceLeDiff, true_and, Bool.not_true, Bool.not_false, Bool.false_eq_true, if_false, reduceIte, lk, List.set, whole_int, whole_bl, whole_tup, whole_non]
    refine ⟨a, b, c, n, rfl, rfl, rfl, hn, ha, hb, hc, fun t u htu => ?_⟩
    try simp only [true_and, q_add, q_sub, q_mul, q_div, q_mod, q_pow, q_lt, q_le, q_gt, q_ge, q_eq, q_ne, q_is, q_isnt, q_isntB, q_isB, q_tb, q_ti, q_tn, q_tt, q_ixQ0, q_ixQ1, q_ixS0, q_ixS1, q_eqQ, q_neQ, q_eqSp, q_neSp, q_eqB, q_neB, q_ixT, q_lenT, q_abs, q_intI, q_intB, q_min2, q_max2, at0, at1, at2, List.length_cons, List.length_nil, sizeLine_eq, Nat.reduceAdd, Nat.reduceLeDiff, true_and, Bool.not_true, Bool.not_false, Bool.false_eq_true, if_false, reduceIte, lk, List.set, whole_int, whole_bl, whole_tup, whole_non]
    rw [sgn_top htu]
    exact ret_now hp
  · exact h.elim
abbrev c_law_turn : Con := c_turn_of
theorem m_law_turn {Γ : Gam} (h42 : Γ.fn 42 = c_twice_parts) (a42 : Γ.ar 42 = 3) : Meets Γ 4 z_law_turn c_law_turn := by
  intro ds S P W h
  unfold c_law_turn c_turn_of at h
  split at h
  · obtain ⟨a, b, c, n, rfl, rfl, rfl, hn, ha, hb, hc, hp⟩ := h
    change wZs Γ z_law_turn (retE P) [some (dS a), some (dS b), some (dS c), none] S (errW W)
    dsimp only [z_law_turn]
    dsimp only [wZs, wZ, wE, wEs, wT, wTs, wI, lk, List.set, aTru, partS, List.take, List.drop]
    try simp only [h42, a42, q_add, q_sub, q_mul, q_div, q_mod, q_pow, q_lt, q_le, q_gt, q_ge, q_eq, q_ne, q_is, q_isnt, q_isntB, q_isB, q_tb, q_ti, q_tn, q_tt, q_ixQ0, q_ixQ1, q_ixS0, q_ixS1, q_eqQ, q_neQ, q_eqSp, q_neSp, q_eqB, q_neB, q_ixT, q_lenT, q_abs, q_intI, q_intB, q_min2, q_max2, at0, at1, at2, List.length_cons, List.length_nil, sizeLine_eq, Nat.reduceAdd, Nat.reduceLeDiff, true_and, Bool.not_true, Bool.not_false, Bool.false_eq_true, if_false, reduceIte, lk, List.set, whole_int, whole_bl, whole_tup, whole_non]
    refine ⟨a, b, c, n, rfl, rfl, rfl, hn, ha, hb, hc, fun t u htu => ?_⟩
    try simp only [true_and, q_add, q_sub, q_mul, q_div, q_mod, q_pow, q_lt, q_le, q_gt, q_ge, q_eq, q_ne, q_is, q_isnt, q_isntB, q_isB, q_tb, q_ti, q_tn, q_tt, q_ixQ0, q_ixQ1, q_ixS0, q_ixS1, q_eqQ, q_neQ, q_eqSp, q_neSp, q_eqB, q_neB, q_ixT, q_lenT, q_abs, q_intI, q_intB, q_min2, q_max2, at0, at1, at2, List.length_cons, List.length_nil, sizeLine_eq, Nat.reduceAdd, Nat.reduceLeDiff, true_and, Bool.not_true, Bool.not_false, Bool.false_eq_true, if_false, reduceIte, lk, List.set, whole_int, whole_bl, whole_tup, whole_non]
    rw [sgn_top htu]
    exact ret_now hp
  · exact h.elim
def c_is_amid : Con := fun ds S P _ => match ds with
  | [x, y, z] => ∃ s a b, x = dS s ∧ y = dS a ∧ z = dS b ∧ SzS 4000 s ∧ SzS 4000 a ∧ SzS 4000 b ∧ P (.bl (decide (amid s a b))) S
  | _ => False
theorem m_is_amid {Γ : Gam} (h46 : Γ.fn 46 = c_turn_of) (a46 : Γ.ar 46 = 3) (h34 : Γ.fn 34 = c_is_ahead) (a34 : Γ.ar 34 = 2) : Meets Γ 3 z_is_amid c_is_amid := by
  intro ds S P W h
  unfold c_is_amid at h
  split at h
  · obtain ⟨s, a, b, rfl, rfl, rfl, hs, ha, hb, hp⟩ := h
    change wZs Γ z_is_amid (retE P) [some (dS s), some (dS a), some (dS b)] S (errW W)
    dsimp only [z_is_amid]
    dsimp only [wZs, wZ, wE, wEs, wT, wTs, wI, lk, List.set, aTru, partS, List.take, List.drop]
    try simp only [h46, a46, h34, a34, q_add, q_sub, q_mul, q_div, q_mod, q_pow, q_lt, q_le, q_gt, q_ge, q_eq, q_ne, q_is, q_isnt, q_isntB, q_isB, q_tb, q_ti, q_tn, q_tt, q_ixQ0, q_ixQ1, q_ixS0, q_ixS1, q_eqQ, q_neQ, q_eqSp, q_neSp, q_eqB, q_neB, q_ixT, q_lenT, q_abs, q_intI, q_intB, q_min2, q_max2, at0, at1, at2, List.length_cons, List.length_nil, sizeLine_eq, Nat.reduceAdd, Nat.reduceLeDiff, true_and, Bool.not_true, Bool.not_false, Bool.false_eq_true, if_false, reduceIte, lk, List.set, whole_int, whole_bl, whole_tup, whole_non]
    refine ⟨a, b, s, 4000, rfl, rfl, rfl, by decide, ha, hb, hs, ?_⟩
    try simp only [true_and, q_add, q_sub, q_mul, q_div, q_mod, q_pow, q_lt, q_le, q_gt, q_ge, q_eq, q_ne, q_is, q_isnt, q_isntB, q_isB, q_tb, q_ti, q_tn, q_tt, q_ixQ0, q_ixQ1, q_ixS0, q_ixS1, q_eqQ, q_neQ, q_eqSp, q_neSp, q_eqB, q_neB, q_ixT, q_lenT, q_abs, q_intI, q_intB, q_min2, q_max2, at0, at1, at2, List.length_cons, List.length_nil, sizeLine_eq, Nat.reduceAdd, Nat.reduceLeDiff, true_and, Bool.not_true, Bool.not_false, Bool.false_eq_true, if_false, reduceIte, lk, List.set, whole_int, whole_bl, whole_tup, whole_non]
    refine if_nb (fun hz => ?_) fun hz => ?_
    · rw [decide_eq_false (fun z : amid s a b => hz (sgn_zero.mpr z.1))] at hp
      exact ret_now hp
    · have h0 := sgn_zero.mp hz
      have e : decide (amid s a b) = decide (ah a s ∧ ah s b ∨ ah b s ∧ ah s a) := decide_eq_decide.mpr ⟨fun z => z.2, fun z => ⟨h0, z⟩⟩
      rw [e] at hp
      refine ⟨a, s, rfl, rfl, ha, hs, ?_⟩
      by_cases g1 : ah a s <;> by_cases g2 : ah s b <;> by_cases g3 : ah b s <;> by_cases g4 : ah s a <;> simp only [g1, g2, g3, g4, decide_true, decide_false, q_tb, and_true, true_and, or_true, true_or, and_false, false_and, or_false, false_or, and_self, or_self] at hp ⊢ <;>
        first
        | exact ret_now hp
        | exact ⟨_, _, rfl, rfl, hs, hb, by simp only [g1, g2, g3, g4, decide_true, decide_false, q_tb]; first | exact ret_now hp | exact ⟨_, _, rfl, rfl, hb, hs, by simp only [g1, g2, g3, g4, decide_true, decide_false, q_tb]; first | exact ret_now hp | exact ⟨_, _, rfl, rfl, hs, ha, by simp only [g1, g2, g3, g4, decide_true, decide_false, q_tb]; exact ret_now hp⟩⟩⟩
        | exact ⟨_, _, rfl, rfl, hb, hs, by simp only [g1, g2, g3, g4, decide_true, decide_false, q_tb]; first | exact ret_now hp | exact ⟨_, _, rfl, rfl, hs, ha, by simp only [g1, g2, g3, g4, decide_true, decide_false, q_tb]; exact ret_now hp⟩⟩
  · exact h.elim
def c_on_way : Con := fun ds S P _ => match ds with
  | [x, y, z] => ∃ a b t n, x = dS a ∧ y = dS b ∧ z = dQ t ∧ n ≤ 900 ∧ SzS n a ∧ SzS n b ∧ Sz n t ∧ P (dS (onw a b t)) S
  | _ => False
theorem m_on_way {Γ : Gam} (h14 : Γ.fn 14 = c_added) (a14 : Γ.ar 14 = 2) (h15 : Γ.fn 15 = c_lessened) (a15 : Γ.ar 15 = 2) (h16 : Γ.fn 16 = c_multiplied) (a16 : Γ.ar 16 = 2) : Meets Γ 3 z_on_way c_on_way := by
  intro ds S P W h
  unfold c_on_way at h
  split at h
  · obtain ⟨a, b, t, n, rfl, rfl, rfl, hn, ha, hb, ht, hp⟩ := h
    change wZs Γ z_on_way (retE P) [some (dS a), some (dS b), some (dQ t)] S (errW W)
    dsimp only [z_on_way]
    dsimp only [wZs, wZ, wE, wEs, wT, wTs, wI, lk, List.set, aTru, partS, List.take, List.drop]
    try simp only [h14, a14, h15, a15, h16, a16, q_add, q_sub, q_mul, q_div, q_mod, q_pow, q_lt, q_le, q_gt, q_ge, q_eq, q_ne, q_is, q_isnt, q_isntB, q_isB, q_tb, q_ti, q_tn, q_tt, q_ixQ0, q_ixQ1, q_ixS0, q_ixS1, q_eqQ, q_neQ, q_eqSp, q_neSp, q_eqB, q_neB, q_ixT, q_lenT, q_abs, q_intI, q_intB, q_min2, q_max2, at0, at1, at2, List.length_cons, List.length_nil, sizeLine_eq, Nat.reduceAdd, Nat.reduceLeDiff, true_and, Bool.not_true, Bool.not_false, Bool.false_eq_true, if_false, reduceIte, lk, List.set, whole_int, whole_bl, whole_tup, whole_non]
    have d1 := hb.1.sub ha.1; have d2 := hb.2.sub ha.2
    refine lessened_q (hb.1.mono (by omega)) (ha.1.mono (by omega)) (multiplied_q (ht.mono (by omega)) (d1.mono (by omega)) (added_q (ha.1.mono (by omega)) ((ht.mul d1).mono (by omega)) ?_))
    refine lessened_q (hb.2.mono (by omega)) (ha.2.mono (by omega)) (multiplied_q (ht.mono (by omega)) (d2.mono (by omega)) (added_q (ha.2.mono (by omega)) ((ht.mul d2).mono (by omega)) ?_))
    exact ret_now hp
  · exact h.elim
def c_law_near : Con := fun ds S P _ => match ds with
  | [.ref a] => ∃ n, Row S a n ∧ n < 2 ^ 50 ∧ ∀ s S', SzS 6 s → Row S' a (n + 4) → Rowed S S' a → P (dS s) S'
  | _ => False
theorem m_law_near {Γ : Gam} (h0 : Γ.fn 0 = c_law_take_2) (a0 : Γ.ar 0 = 2) (h4 : Γ.fn 4 = c_law_lowest) (a4 : Γ.ar 4 = 2) : Meets Γ 1 z_law_near c_law_near := by
  intro ds S P W h
  unfold c_law_near at h
  split at h
  · rename_i a
    obtain ⟨n, r, hn, h⟩ := h
    change wZs Γ z_law_near (retE P) [some (.ref a)] S (errW W)
    dsimp only [z_law_near]
    dsimp only [wZs, wZ, wE, wEs, wT, wTs, wI, lk, List.set, aTru, partS, List.take, List.drop]
    try simp only [h0, a0, h4, a4, q_add, q_sub, q_mul, q_div, q_mod, q_pow, q_lt, q_le, q_gt, q_ge, q_eq, q_ne, q_is, q_isnt, q_isntB, q_isB, q_tb, q_ti, q_tn, q_tt, q_ixQ0, q_ixQ1, q_ixS0, q_ixS1, q_eqQ, q_neQ, q_eqSp, q_neSp, q_eqB, q_neB, q_ixT, q_lenT, q_abs, q_intI, q_intB, q_min2, q_max2, at0, at1, at2, List.length_cons, List.length_nil, sizeLine_eq, Nat.reduceAdd, Nat.reduceLeDiff, true_and, Bool.not_true, Bool.not_false, Bool.false_eq_true, if_false, reduceIte, lk, List.set, whole_int, whole_bl, whole_tup, whole_non]
    have sz : ∀ {k m : Int}, 0 ≤ k → k < 25 → 0 ≤ m → m < 6 → Sz 6 (((k - 12 : Int) : Rat) / ((1 + m : Int) : Rat)) := fun k0 k1 m0 m1 => sz_div (by omega) (by omega) (by omega)
    refine take_row r (by omega) (by decide) fun k S1 k0 k1 r1 o1 => ?_
    try simp only [true_and, q_add, q_sub, q_mul, q_div, q_mod, q_pow, q_lt, q_le, q_gt, q_ge, q_eq, q_ne, q_is, q_isnt, q_isntB, q_isB, q_tb, q_ti, q_tn, q_tt, q_ixQ0, q_ixQ1, q_ixS0, q_ixS1, q_eqQ, q_neQ, q_eqSp, q_neSp, q_eqB, q_neB, q_ixT, q_lenT, q_abs, q_intI, q_intB, q_min2, q_max2, at0, at1, at2, List.length_cons, List.length_nil, sizeLine_eq, Nat.reduceAdd, Nat.reduceLeDiff, true_and, Bool.not_true, Bool.not_false, Bool.false_eq_true, if_false, reduceIte, lk, List.set, whole_int, whole_bl, whole_tup, whole_non]
    refine take_row r1 (by omega) (by decide) fun m S2 m0 m1 r2 o2 => ?_
    try simp only [true_and, q_add, q_sub, q_mul, q_div, q_mod, q_pow, q_lt, q_le, q_gt, q_ge, q_eq, q_ne, q_is, q_isnt, q_isntB, q_isB, q_tb, q_ti, q_tn, q_tt, q_ixQ0, q_ixQ1, q_ixS0, q_ixS1, q_eqQ, q_neQ, q_eqSp, q_neSp, q_eqB, q_neB, q_ixT, q_lenT, q_abs, q_intI, q_intB, q_min2, q_max2, at0, at1, at2, List.length_cons, List.length_nil, sizeLine_eq, Nat.reduceAdd, Nat.reduceLeDiff, true_and, Bool.not_true, Bool.not_false, Bool.false_eq_true, if_false, reduceIte, lk, List.set, whole_int, whole_bl, whole_tup, whole_non]
    refine lowest_q (by omega) (Bd.lt9 (n := 4) (by unfold Bd; omega) (by decide)) ?_
    refine take_row r2 (by omega) (by decide) fun k' S3 k0' k1' r3 o3 => ?_
    try simp only [true_and, q_add, q_sub, q_mul, q_div, q_mod, q_pow, q_lt, q_le, q_gt, q_ge, q_eq, q_ne, q_is, q_isnt, q_isntB, q_isB, q_tb, q_ti, q_tn, q_tt, q_ixQ0, q_ixQ1, q_ixS0, q_ixS1, q_eqQ, q_neQ, q_eqSp, q_neSp, q_eqB, q_neB, q_ixT, q_lenT, q_abs, q_intI, q_intB, q_min2, q_max2, at0, at1, at2, List.length_cons, List.length_nil, sizeLine_eq, Nat.reduceAdd, Nat.reduceLeDiff, true_and, Bool.not_true, Bool.not_false, Bool.false_eq_true, if_false, reduceIte, lk, List.set, whole_int, whole_bl, whole_tup, whole_non]
    refine take_row r3 (by omega) (by decide) fun m' S4 m0' m1' r4 o4 => ?_
    try simp only [true_and, q_add, q_sub, q_mul, q_div, q_mod, q_pow, q_lt, q_le, q_gt, q_ge, q_eq, q_ne, q_is, q_isnt, q_isntB, q_isB, q_tb, q_ti, q_tn, q_tt, q_ixQ0, q_ixQ1, q_ixS0, q_ixS1, q_eqQ, q_neQ, q_eqSp, q_neSp, q_eqB, q_neB, q_ixT, q_lenT, q_abs, q_intI, q_intB, q_min2, q_max2, at0, at1, at2, List.length_cons, List.length_nil, sizeLine_eq, Nat.reduceAdd, Nat.reduceLeDiff, true_and, Bool.not_true, Bool.not_false, Bool.false_eq_true, if_false, reduceIte, lk, List.set, whole_int, whole_bl, whole_tup, whole_non]
    refine lowest_q (by omega) (Bd.lt9 (n := 4) (by unfold Bd; omega) (by decide)) ?_
    exact ret_now (h (_, _) _ ⟨sz k0 k1 m0 m1, sz k0' k1' m0' m1'⟩ (r4.mono (by omega)) (o1.trans (o2.trans (o3.trans o4))))
  · exact h.elim
/-- sums of any list -/
def c_sum_ofT : Con := fun ds S P _ => match ds with
  | [.ref a] => ∃ w l, S a = some (.lst w (l.map dQ)) ∧ (∀ x ∈ l, Sz 4499 x) ∧ (∀ k, Sz 4499 (qsum (l.take k))) ∧ P (dQ (qsum l)) S
  | _ => False
theorem m_sum_ofT {Γ : Gam} (h14 : Γ.fn 14 = c_added) (a14 : Γ.ar 14 = 2) : Meets Γ 3 z_sum_of c_sum_ofT := by
  intro ds S P W h
  unfold c_sum_ofT at h
  split at h
  · rename_i a
    obtain ⟨w, l, e, hz, hk, hp⟩ := h
    change wZs Γ z_sum_of (retE P) [some (.ref a), none, none] S (errW W)
    dsimp only [z_sum_of]
    dsimp only [wZs, wZ, wE, wEs, wT, wTs, wI, lk, List.set, aTru, partS, List.take, List.drop]
    try simp only [e, q_add, q_sub, q_mul, q_div, q_mod, q_pow, q_lt, q_le, q_gt, q_ge, q_eq, q_ne, q_is, q_isnt, q_isntB, q_isB, q_tb, q_ti, q_tn, q_tt, q_ixQ0, q_ixQ1, q_ixS0, q_ixS1, q_eqQ, q_neQ, q_eqSp, q_neSp, q_eqB, q_neB, q_ixT, q_lenT, q_abs, q_intI, q_intB, q_min2, q_max2, at0, at1, at2, List.length_cons, List.length_nil, sizeLine_eq, Nat.reduceAdd, Nat.reduceLeDiff, true_and, Bool.not_true, Bool.not_false, Bool.false_eq_true, if_false, reduceIte, lk, List.set, whole_int, whole_bl, whole_tup, whole_non]
    refine for_ind (src := .lst a w (l.map dQ)) (fun r ρ S1 => S1 = S ∧ ∃ done rest y, l = done ++ rest ∧ r = rest.map dQ ∧ ρ = [some (.ref a), some (dQ (qsum done)), y]) ?_ ?_ ?_ ⟨rfl, [], l, none, rfl, rfl, rfl⟩
    · rintro r ρ S1 ⟨rfl, _⟩
      exact e
    · rintro ρ S1 ⟨rfl, done, rest, y, hl, hr, rfl⟩
      have : rest = [] := by
        cases rest with
        | nil => rfl
        | cons _ _ => cases hr
      subst this
      rw [List.append_nil] at hl
      subst hl
      exact ret_now hp
    · rintro F d r ρ S1 ⟨rfl, done, rest, y, hl, hr, rfl⟩ hF
      cases rest with
      | nil => cases hr
      | cons x rest =>
        simp only [List.map_cons, List.cons.injEq] at hr
        obtain ⟨rfl, rfl⟩ := hr
        try simp only [h14, a14, q_add, q_sub, q_mul, q_div, q_mod, q_pow, q_lt, q_le, q_gt, q_ge, q_eq, q_ne, q_is, q_isnt, q_isntB, q_isB, q_tb, q_ti, q_tn, q_tt, q_ixQ0, q_ixQ1, q_ixS0, q_ixS1, q_eqQ, q_neQ, q_eqSp, q_neSp, q_eqB, q_neB, q_ixT, q_lenT, q_abs, q_intI, q_intB, q_min2, q_max2, at0, at1, at2, List.length_cons, List.length_nil, sizeLine_eq, Nat.reduceAdd, Nat.reduceLeDiff, true_and, Bool.not_true, Bool.not_false, Bool.false_eq_true, if_false, reduceIte, lk, List.set, whole_int, whole_bl, whole_tup, whole_non]
        have hd := hk done.length
        rw [hl, List.take_left] at hd
        refine added_Q hd (hz x (by rw [hl]; simp)) (hF _ _ ⟨rfl, done ++ [x], rest, some (dQ x), by rw [hl]; simp, rfl, ?_⟩)
        rw [qsum_app, qsum, qsum, Rat.add_zero]
  · exact h.elim
end Sd
namespace Sd
open PySem
theorem pd_ints {n : Nat} {g : Addr → Option PyData} : ∀ {l : List Int}, pdWs g (n + 1) (l.map D.int) = some (l.map PyData.int)
  | [] => pd_nil
  | x :: l => by
    rw [List.map_cons, pd_cons, pd_ints, pd_int]
    rfl
theorem pds_ints {S : Sto} {a : Addr} {w : Bool} {l : List Int} (e : S a = some (.lst w (l.map D.int))) : pdS S (.ref a) = some (.list (l.map PyData.int)) := by
  rw [pds_ref, e]
  simp only [pd_ints]
theorem pds_nil {S : Sto} {a : Addr} {w : Bool} (e : S a = some (.lst w [])) : pdS S (.ref a) = some (.list []) := pds_ints (l := []) e
theorem ev_isnil {l : List Int} : PyData.eqv (.list (l.map PyData.int)) (.list []) = l.isEmpty := by
  rw [ev_list]
  cases l with
  | nil => rw [List.map_nil, ev_nil]; rfl
  | cons x l => rw [List.map_cons]; simp only [PyData.eqvAll]; rfl
/-- divisors from lo on -/
def dvs (n : Int) : Int → Nat → List Int
  | _, 0 => []
  | lo, k + 1 => if n.fmod lo = 0 then lo :: dvs n (lo + 1) k else dvs n (lo + 1) k
def isPr (n : Int) : Bool := (dvs n 2 (n - 2).toNat).isEmpty
def sieve : Int → Nat → List Int
  | _, 0 => []
  | lo, k + 1 => if isPr lo = true then lo :: sieve (lo + 1) k else sieve (lo + 1) k
theorem sieve_all : sieve 2 98 = primesL := by decide +kernel
def c_law_primes : Con := fun ds S P _ => match ds with
  | [] => ∀ p, S p = none → P (.ref p) (S.up p (.lst true (primesL.map D.int)))
  | _ => False
theorem m_law_primes {Γ : Gam} : Meets Γ 2 z_law_primes c_law_primes := by
  intro ds S P W h
  unfold c_law_primes at h
  split at h
  · change wZs Γ z_law_primes (retE P) [none, none] S (errW W)
    dsimp only [z_law_primes, wZs, wZ, wE, wEs, wT, wTs, wI, lk, List.set, aTru, wipeD]
    refine ⟨by decide, fun p np => ?_⟩
    refine lc_ind (src := .free) (fun r T => ∃ (lo : Int) (n : Nat) (acc : List Int), r = rngItems lo n ∧ T p = some (.lst true (acc.map D.int)) ∧ Sto.le S T ∧ acc ++ sieve lo n = primesL ∧ 2 ≤ lo ∧ lo + n ≤ 100 ∧ acc.length + n ≤ 98) (fun _ _ _ => trivial) ?_ ?_ ⟨2, 98, [], rfl, up_same, up_ls np, sieve_all, by decide, by decide, by decide⟩
    · rintro T ⟨lo, n, acc, hr, e, hT, hs, _⟩
      have hn : n = 0 := by
        cases n with
        | zero => rfl
        | succ n => rw [rng_cons] at hr; cases hr
      subst hn
      rw [show sieve lo 0 = [] from rfl, List.append_nil] at hs
      subst hs
      refine ret_le (S' := S.up p (.lst true (primesL.map D.int))) (fun b o hb => ?_) (h p np)
      by_cases hbp : p = b
      · subst hbp
        rw [up_same] at hb
        cases hb
        exact e
      · rw [up_oth hbp] at hb
        exact hT _ _ hb
    · rintro F d r T ⟨lo, n, acc, hr, e, hT, hs, h2, h100, hlen⟩ hF
      cases n with
      | zero => cases hr
      | succ n =>
        rw [rng_cons] at hr
        cases hr
        have hlo : ((n + 1 : Nat) : Int) = (n : Int) + 1 := by omega
        simp only [lk, List.set]
        refine ⟨by omega, fun q nq => ?_⟩
        have hpq : q ≠ p := fun x => by rw [x, e] at nq; cases nq
        have fin : ∀ T', T' q = some (.lst true ((dvs lo 2 (lo - 2).toNat).map D.int)) → T' p = some (.lst true (acc.map D.int)) → Sto.le S T' → ∀ q2, T' q2 = none → cmpS .Eq (.ref q) (.ref q2) (T'.up q2 (.lst true [])) (fun d S1 => match truB S1 d with
          | some b => if b = true then (match S1 p with
              | some (.lst true acc) => acc.length < sizeLine ∧ F (S1.up p (.lst true (acc ++ [.int lo])))
              | _ => False) else F S1
          | none => False) := by
          intro T' e1 e2 hT' q2 n2
          have l2 := up_ls (o := .lst true []) n2
          rw [q_eqL, pds_ints (l2 _ _ e1), pds_nil (a := q2) up_same]
          simp only [ev_isnil, q_tb]
          rw [l2 _ _ e2]
          by_cases hP : isPr lo = true
          · rw [if_pos (show (dvs lo 2 (lo - 2).toNat).isEmpty = true from hP)]
            refine ⟨by rw [List.length_map, sizeLine_eq]; omega, hF _ ⟨lo + 1, n, acc ++ [lo], rfl, by rw [up_same]; simp, fun b o hb => ?_, ?_, by omega, by omega, by simp only [List.length_append, List.length_cons, List.length_nil]; omega⟩⟩
            · have := (hT'.trans l2) _ _ hb
              rw [up_oth (fun x => by rw [x, hb] at np; cases np)]
              exact this
            · rw [← hs, sieve, if_pos hP, List.append_assoc]
              rfl
          · rw [if_neg (show ¬ (dvs lo 2 (lo - 2).toNat).isEmpty = true from hP)]
            refine hF _ ⟨lo + 1, n, acc, rfl, l2 _ _ e2, hT'.trans l2, ?_, by omega, by omega, by omega⟩
            rw [← hs, sieve, if_neg hP]
        refine lc_ind (src := .free) (fun r T' => ∃ (k : Int) (m : Nat) (ds : List Int), r = rngItems k m ∧ T' q = some (.lst true (ds.map D.int)) ∧ T' p = some (.lst true (acc.map D.int)) ∧ Sto.le S T' ∧ ds ++ dvs lo k m = dvs lo 2 (lo - 2).toNat ∧ 2 ≤ k ∧ ds.length + m ≤ 98) (fun _ _ _ => trivial) ?_ ?_ ⟨2, (lo - 2).toNat, [], rfl, up_same, by rw [up_oth hpq]; exact e, hT.trans (up_ls nq), rfl, by decide, by simp only [List.length_nil]; omega⟩
        · rintro T' ⟨k, m, ds, hr, e1, e2, hT', hd, _⟩
          have hm : m = 0 := by
            cases m with
            | zero => rfl
            | succ m => rw [rng_cons] at hr; cases hr
          subst hm
          rw [show dvs lo k 0 = [] from rfl, List.append_nil] at hd
          subst hd
          simp only [List.length_nil]
          exact ⟨by rw [sizeLine_eq]; decide, fun q2 n2 => fin T' e1 e2 hT' q2 n2⟩
        · rintro G d r T' ⟨k, m, ds, hr, e1, e2, hT', hd, hk, hl⟩ hG
          cases m with
          | zero => cases hr
          | succ m =>
            rw [rng_cons] at hr
            cases hr
            simp only [lk, List.set, q_mod, q_eq, q_tb]
            rw [dvs] at hd
            refine ⟨by omega, if_b (fun hz => ?_) fun hz => ?_⟩
            · rw [if_pos hz] at hd
              rw [e1]
              refine ⟨by rw [List.length_map, sizeLine_eq]; omega, hG _ ⟨k + 1, m, ds ++ [k], rfl, by rw [up_same]; simp, by rw [up_oth hpq]; exact e2, fun b o hb => ?_, ?_, by omega, by simp only [List.length_append, List.length_cons, List.length_nil]; omega⟩⟩
              · have hbq : q ≠ b := fun x => by
                  rw [← x] at hb
                  rw [hT _ _ hb] at nq
                  cases nq
                rw [up_oth hbq]
                exact hT' _ _ hb
              · rw [List.append_assoc]
                exact hd
            · rw [if_neg hz] at hd
              exact hG _ ⟨k + 1, m, ds, rfl, e1, e2, hT', hd, by omega, by omega⟩
  · exact h.elim
end Sd
namespace Sd
open PySem
/-! ### the power of a prime in a rational number -/
noncomputable def vq (p : Int) (x : Rat) : Int := Classical.epsilon fun n => Pw p x.num x.den n
theorem num_ne {x : Rat} (h : x ≠ 0) : x.num ≠ 0 := fun e => h (Rat.num_eq_zero.mp e)
section
variable {p : Int} (hp : p ∈ primesL) {x y : Rat}
include hp
theorem vq_pw (h : x ≠ 0) : Pw p x.num x.den (vq p x) := Classical.epsilon_spec (pw_ex (primes_ok p hp).1 (num_ne h) (den_neI x))
theorem vq_of {t b n : Int} (h : x ≠ 0) (hb : b ≠ 0) (e : (t : Rat) = x * (b : Rat)) (k : Pw p t b n) : n = vq p x := by
  refine pw_cross hp k (vq_pw hp h) ?_
  apply Rat.intCast_inj.mp
  rw [Rat.intCast_mul, Rat.intCast_mul, e]
  have h1 := rat_eq x
  have h2 := den_ne x
  have h4 : (x.num : Rat) = x * ((x.den : Int) : Rat) := by
    have := Rat.div_mul_cancel (a := (x.num : Rat)) h2
    rw [← h1] at this
    exact this.symm
  rw [h4]
  grind
theorem vq_mul (hx : x ≠ 0) (hy : y ≠ 0) : vq p (x * y) = vq p x + vq p y := by
  have h := pw_mul hp (vq_pw hp hx) (vq_pw hp hy)
  refine (vq_of hp (fun e => ?_) (Int.mul_ne_zero (den_neI x) (den_neI y)) ?_ h).symm
  · rcases Rat.mul_eq_zero.mp e with e | e
    · exact hx e
    · exact hy e
  · have h1 := rat_eq x; have h2 := rat_eq y; have h3 := den_ne x; have h4 := den_ne y
    rw [Rat.intCast_mul, Rat.intCast_mul]
    grind
end
theorem val_le {p x : Int} {k m : Nat} (h : p ^ k ∣ x) (v : Val p x m) : k ≤ m := by
  rcases Nat.lt_or_ge m k with l | l
  · exact (v.2 (Int.dvd_trans (pow_le_dvd l) h)).elim
  · exact l
theorem val_add1 {p x y : Int} {k l m : Nat} (hx : Val p x k) (hy : Val p y l) (h : Val p (x + y) m) (kl : k ≤ l) : k ≤ m ∧ (k ≠ l → m = k) := by
  have d1 : p ^ k ∣ x + y := Int.dvd_add hx.1 (Int.dvd_trans (pow_le_dvd kl) hy.1)
  refine ⟨val_le d1 h, fun hne => ?_⟩
  have d2 : p ^ (k + 1) ∣ y := Int.dvd_trans (pow_le_dvd (by omega)) hy.1
  have v : Val p (x + y) k := ⟨d1, fun d3 => hx.2 (by
    have := Int.dvd_sub d3 d2
    rwa [Int.add_sub_cancel] at this)⟩
  exact val_uniq h v
theorem val_add {p x y : Int} {k l m : Nat} (hx : Val p x k) (hy : Val p y l) (h : Val p (x + y) m) : min k l ≤ m ∧ (k ≠ l → m = min k l) := by
  rcases Nat.le_total k l with z | z
  · obtain ⟨h1, h2⟩ := val_add1 hx hy h z
    exact ⟨by omega, fun hne => by rw [h2 hne]; omega⟩
  · rw [Int.add_comm] at h
    obtain ⟨h1, h2⟩ := val_add1 hy hx h z
    exact ⟨by omega, fun hne => by rw [h2 (fun e => hne e.symm)]; omega⟩
theorem val_small {p x : Int} {k : Nat} {n : Nat} (hp : 2 ≤ p) (hx : x ≠ 0) (h : Val p x k) (hb : x.natAbs < 2 ^ n) : k < n := by
  have h1 : (p ^ k).natAbs ∣ x.natAbs := Int.natAbs_dvd_natAbs.mpr h.1
  have h2 : (p ^ k).natAbs ≤ x.natAbs := Nat.le_of_dvd (by omega) h1
  rw [Int.natAbs_pow] at h2
  have h3 : 2 ^ k ≤ p.natAbs ^ k := Nat.pow_le_pow_left (by omega) k
  exact (Nat.pow_lt_pow_iff_right (by decide)).mp (by omega : 2 ^ k < 2 ^ n)
section
variable {p : Int} (hp : p ∈ primesL) {x y : Rat}
include hp
theorem vq_add (hx : x ≠ 0) (hy : y ≠ 0) (hs : x + y ≠ 0) : min (vq p x) (vq p y) ≤ vq p (x + y) ∧ (vq p x ≠ vq p y → vq p (x + y) = min (vq p x) (vq p y)) := by
  obtain ⟨va, vb, ha, hb, e1⟩ := vq_pw hp hx
  obtain ⟨vc, vd, hc, hd, e2⟩ := vq_pw hp hy
  have hne : x.num * y.den + y.num * x.den ≠ 0 := by
    intro z
    apply hs
    have h1 := rat_eq x; have h2 := rat_eq y; have h3 := den_ne x; have h4 := den_ne y
    have z' : ((x.num * y.den + y.num * x.den : Int) : Rat) = 0 := by rw [z]; rfl
    rw [Rat.intCast_add, Rat.intCast_mul, Rat.intCast_mul] at z'
    grind
  obtain ⟨vt, ht⟩ := val_ex (primes_ok p hp).1 _ (Nat.le_refl _) hne
  have hu := val_mul hp hb hd
  have e3 : ((vt : Int) - ((vb + vd : Nat) : Int)) = vq p (x + y) := by
    refine vq_of hp hs (Int.mul_ne_zero (den_neI x) (den_neI y)) ?_ ⟨vt, vb + vd, ht, hu, rfl⟩
    have h1 := rat_eq x; have h2 := rat_eq y; have h3 := den_ne x; have h4 := den_ne y
    rw [Rat.intCast_add, Rat.intCast_mul, Rat.intCast_mul, Rat.intCast_mul]
    grind
  obtain ⟨q1, q2⟩ := val_add (val_mul hp ha hd) (val_mul hp hc hb) ht
  rw [← e3, e1, e2]
  constructor
  · omega
  · intro hne
    have := q2 (by omega)
    omega
theorem vq_one : vq p 1 = 0 := by
  have h := vq_mul hp (x := 1) (y := 1) (by decide) (by decide)
  rw [Rat.mul_one] at h
  omega
theorem vq_neg (hx : x ≠ 0) : vq p (-x) = vq p x := by
  have h1 := vq_mul hp (x := -1) (y := -1) (by decide) (by decide)
  rw [show (-1 : Rat) * -1 = 1 by grind, vq_one hp] at h1
  have h2 := vq_mul hp (x := -1) (y := x) (by decide) hx
  rw [show (-1 : Rat) * x = -x by grind] at h2
  omega
theorem vq_div (hx : x ≠ 0) (hy : y ≠ 0) : vq p (x / y) = vq p x - vq p y := by
  have h0 : x / y ≠ 0 := by grind
  have h := vq_mul hp h0 hy
  rw [Rat.div_mul_cancel hy] at h
  omega
theorem vq_small {n : Nat} (hx : x ≠ 0) (h : Sz n x) : (vq p x).natAbs < n := by
  obtain ⟨i, j, hi, hj, e⟩ := vq_pw hp hx
  have h1 := val_small (primes_ok p hp).1 (num_ne hx) hi h.bd.1
  have h2 := val_small (primes_ok p hp).1 (den_neI x) hj h.bd.2
  omega
theorem power_q {S : Sto} {P : PD} {W : FW} (h0 : x = 0 → P .non S) (h1 : x ≠ 0 → P (.int (vq p x)) S) : c_power_in [dQ x, .int p] S P W := by
  refine ⟨⟨_, rfl⟩, fun z => ?_, fun q e hq => ?_⟩
  · rw [show primeD (.int p) = true from decide_eq_true hp] at z
    cases z
  · cases e
    refine ⟨fun z => h0 (Rat.num_eq_zero.mp z), fun z => ⟨den_neI x, fun n hn => ?_⟩⟩
    have hx : x ≠ 0 := fun e => z (Rat.num_eq_zero.mpr e)
    have : n = vq p x := pw_cross hp hn (vq_pw hp hx) rfl
    rw [this]
    exact h1 hx
theorem law_power_q {S : Sto} {P : PD} {W : FW} (hx : x ≠ 0) (h1 : P (.int (vq p x)) S) : c_law_power [.int x.num, .int x.den, .int p] S P W := by
  refine ⟨num_ne hx, den_neI x, ⟨(primes_ok p hp).1, (primes_ok p hp).2.1⟩, fun n hn => ?_⟩
  have : n = vq p x := pw_cross hp hn (vq_pw hp hx) rfl
  rw [this]
  exact h1
end
/-- the colour of two numbers -/
noncomputable def col (p : Int) (x y : Rat) : Int :=
  if (x = 0 ∨ 0 < vq p x) ∧ (y = 0 ∨ 0 < vq p y) then 0 else if x ≠ 0 ∧ (y = 0 ∨ vq p x ≤ vq p y) then 1 else 2
theorem prime_kd {S : Sto} {d : D} (h : primeD d = true) : ∃ p, d = .int p ∧ p ∈ primesL := by
  cases d with
  | int p => exact ⟨p, rfl, of_decide_eq_true h⟩
  | _ => cases h
def c_colour_of : Con := fun ds S P W => match ds with
  | [u, v, d] => ∃ x y, u = dQ x ∧ v = dQ y ∧ Kd S d ∧ (primeD d = false → W 2 none S) ∧ ∀ p, d = .int p → p ∈ primesL → P (.int (col p x y)) S
  | _ => False
theorem m_colour_of {Γ : Gam} (h26 : Γ.fn 26 = c_look_prime) (a26 : Γ.ar 26 = 1) (h28 : Γ.fn 28 = c_power_in) (a28 : Γ.ar 28 = 2) : Meets Γ 5 z_colour_of c_colour_of := by
  intro ds S P W h
  unfold c_colour_of at h
  split at h
  · rename_i u v d
    obtain ⟨x, y, rfl, rfl, hk, hw, h⟩ := h
    change wZs Γ z_colour_of (retE P) [some (dQ x), some (dQ y), some d, none, none] S (errW W)
    dsimp only [z_colour_of]
    dsimp only [wZs, wZ, wE, wEs, wT, wTs, wI, lk, List.set, aTru, partS, List.take, List.drop]
    try simp only [h26, a26, h28, a28, q_add, q_sub, q_mul, q_div, q_mod, q_pow, q_lt, q_le, q_gt, q_ge, q_eq, q_ne, q_is, q_isnt, q_isntB, q_isB, q_tb, q_ti, q_tn, q_tt, q_ixQ0, q_ixQ1, q_ixS0, q_ixS1, q_eqQ, q_neQ, q_eqSp, q_neSp, q_eqB, q_neB, q_ixT, q_lenT, q_abs, q_intI, q_intB, q_min2, q_max2, at0, at1, at2, List.length_cons, List.length_nil, sizeLine_eq, Nat.reduceAdd, Nat.reduceLeDiff, true_and, Bool.not_true, Bool.not_false, Bool.false_eq_true, if_false, reduceIte, lk, List.set, whole_int, whole_bl, whole_tup, whole_non]
    refine ⟨hk, fun hd => ?_, fun hd => err_now (hw hd)⟩
    obtain ⟨p, rfl, hp⟩ := prime_kd (S := S) hd
    have h := h p rfl hp
    unfold col at h
    refine power_q hp (fun hx => ?_) fun hx => ?_
    · refine power_q hp (fun hy => ?_) fun hy => ?_
      · try simp only [isNo, q_add, q_sub, q_mul, q_div, q_mod, q_pow, q_lt, q_le, q_gt, q_ge, q_eq, q_ne, q_is, q_isnt, q_isntB, q_isB, q_tb, q_ti, q_tn, q_tt, q_ixQ0, q_ixQ1, q_ixS0, q_ixS1, q_eqQ, q_neQ, q_eqSp, q_neSp, q_eqB, q_neB, q_ixT, q_lenT, q_abs, q_intI, q_intB, q_min2, q_max2, at0, at1, at2, List.length_cons, List.length_nil, sizeLine_eq, Nat.reduceAdd, Nat.reduceLeDiff, true_and, Bool.not_true, Bool.not_false, Bool.false_eq_true, if_false, reduceIte, lk, List.set, whole_int, whole_bl, whole_tup, whole_non]
        rw [if_pos ⟨.inl hx, .inl hy⟩] at h
        exact ret_now h
      · try simp only [isNo, q_add, q_sub, q_mul, q_div, q_mod, q_pow, q_lt, q_le, q_gt, q_ge, q_eq, q_ne, q_is, q_isnt, q_isntB, q_isB, q_tb, q_ti, q_tn, q_tt, q_ixQ0, q_ixQ1, q_ixS0, q_ixS1, q_eqQ, q_neQ, q_eqSp, q_neSp, q_eqB, q_neB, q_ixT, q_lenT, q_abs, q_intI, q_intB, q_min2, q_max2, at0, at1, at2, List.length_cons, List.length_nil, sizeLine_eq, Nat.reduceAdd, Nat.reduceLeDiff, true_and, Bool.not_true, Bool.not_false, Bool.false_eq_true, if_false, reduceIte, lk, List.set, whole_int, whole_bl, whole_tup, whole_non]
        by_cases hv : 0 < vq p y
        · simp only [hv, decide_true, q_tb, reduceIte]
          rw [if_pos ⟨.inl hx, .inr hv⟩] at h
          exact ret_now h
        · simp only [hv, decide_false, q_tb, Bool.false_eq_true, if_false]
          rw [if_neg (fun z => z.2.elim hy hv), if_neg (fun z => z.1 hx)] at h
          exact ret_now h
    · refine power_q hp (fun hy => ?_) fun hy => ?_
      · try simp only [isNo, q_add, q_sub, q_mul, q_div, q_mod, q_pow, q_lt, q_le, q_gt, q_ge, q_eq, q_ne, q_is, q_isnt, q_isntB, q_isB, q_tb, q_ti, q_tn, q_tt, q_ixQ0, q_ixQ1, q_ixS0, q_ixS1, q_eqQ, q_neQ, q_eqSp, q_neSp, q_eqB, q_neB, q_ixT, q_lenT, q_abs, q_intI, q_intB, q_min2, q_max2, at0, at1, at2, List.length_cons, List.length_nil, sizeLine_eq, Nat.reduceAdd, Nat.reduceLeDiff, true_and, Bool.not_true, Bool.not_false, Bool.false_eq_true, if_false, reduceIte, lk, List.set, whole_int, whole_bl, whole_tup, whole_non]
        by_cases hv : 0 < vq p x
        · simp only [hv, decide_true, q_tb, reduceIte]
          rw [if_pos ⟨.inr hv, .inl hy⟩] at h
          exact ret_now h
        · simp only [hv, decide_false, q_tb, Bool.false_eq_true, if_false]
          rw [if_neg (fun z => z.1.elim hx hv), if_pos ⟨hx, .inl hy⟩] at h
          exact ret_now h
      · try simp only [isNo, q_add, q_sub, q_mul, q_div, q_mod, q_pow, q_lt, q_le, q_gt, q_ge, q_eq, q_ne, q_is, q_isnt, q_isntB, q_isB, q_tb, q_ti, q_tn, q_tt, q_ixQ0, q_ixQ1, q_ixS0, q_ixS1, q_eqQ, q_neQ, q_eqSp, q_neSp, q_eqB, q_neB, q_ixT, q_lenT, q_abs, q_intI, q_intB, q_min2, q_max2, at0, at1, at2, List.length_cons, List.length_nil, sizeLine_eq, Nat.reduceAdd, Nat.reduceLeDiff, true_and, Bool.not_true, Bool.not_false, Bool.false_eq_true, if_false, reduceIte, lk, List.set, whole_int, whole_bl, whole_tup, whole_non]
        by_cases hv : 0 < vq p x <;> by_cases hu : 0 < vq p y <;> by_cases hw : vq p x ≤ vq p y <;> simp only [hx, hy, hv, hu, hw, decide_true, decide_false, false_or, or_false, and_true, true_and, and_false, false_and, or_true, reduceIte, q_tb, ne_eq, not_false_eq_true, Bool.false_eq_true, if_false, if_true] at h ⊢ <;> exact ret_now h
  · exact h.elim
end Sd
namespace Sd
open PySem
/-! ### frames -/
def d3 (a b c : Spot) : D := .tup [dS a, dS b, dS c]
def c_look_frame : Con := fun ds S P W => match ds with
  | [f] => ∃ a b c n, f = d3 a b c ∧ n ≤ 100000 ∧ SzS n a ∧ SzS n b ∧ SzS n c ∧ (tw a b c = 0 → W 6 none S) ∧ (tw a b c ≠ 0 → P .non S)
  | _ => False
theorem m_look_frame {Γ : Gam} (h46 : Γ.fn 46 = c_turn_of) (a46 : Γ.ar 46 = 3) : Meets Γ 1 z_look_frame c_look_frame := by
  intro ds S P W h
  unfold c_look_frame at h
  split at h
  · obtain ⟨a, b, c, n, rfl, hn, ha, hb, hc, hw, hp⟩ := h
    change wZs Γ z_look_frame (retE P) [some (d3 a b c)] S (errW W)
    dsimp only [z_look_frame]
    dsimp only [wZs, wZ, wE, wEs, wT, wTs, wI, lk, List.set, aTru, partS, List.take, List.drop]
    try simp only [d3, h46, a46, q_add, q_sub, q_mul, q_div, q_mod, q_pow, q_lt, q_le, q_gt, q_ge, q_eq, q_ne, q_is, q_isnt, q_isntB, q_isB, q_tb, q_ti, q_tn, q_tt, q_ixQ0, q_ixQ1, q_ixS0, q_ixS1, q_eqQ, q_neQ, q_eqSp, q_neSp, q_eqB, q_neB, q_ixT, q_lenT, q_abs, q_intI, q_intB, q_min2, q_max2, at0, at1, at2, List.length_cons, List.length_nil, sizeLine_eq, Nat.reduceAdd, Nat.reduceLeDiff, true_and, Bool.not_true, Bool.not_false, Bool.false_eq_true, if_false, reduceIte, lk, List.set, whole_int, whole_bl, whole_tup, whole_non]
    refine ⟨a, b, c, n, rfl, rfl, rfl, hn, ha, hb, hc, ?_⟩
    try simp only [true_and, q_add, q_sub, q_mul, q_div, q_mod, q_pow, q_lt, q_le, q_gt, q_ge, q_eq, q_ne, q_is, q_isnt, q_isntB, q_isB, q_tb, q_ti, q_tn, q_tt, q_ixQ0, q_ixQ1, q_ixS0, q_ixS1, q_eqQ, q_neQ, q_eqSp, q_neSp, q_eqB, q_neB, q_ixT, q_lenT, q_abs, q_intI, q_intB, q_min2, q_max2, at0, at1, at2, List.length_cons, List.length_nil, sizeLine_eq, Nat.reduceAdd, Nat.reduceLeDiff, true_and, Bool.not_true, Bool.not_false, Bool.false_eq_true, if_false, reduceIte, lk, List.set, whole_int, whole_bl, whole_tup, whole_non]
    exact if_b (fun h => err_now (hw (sgn_zero.mp h))) fun h => ⟨S, Sto.le.refl S, hp fun z => h (sgn_zero.mpr z)⟩
  · exact h.elim
def c_in_frame : Con := fun ds S P W => match ds with
  | [f, x] => ∃ a b c s, f = d3 a b c ∧ x = dS s ∧ SzS 490 a ∧ SzS 490 b ∧ SzS 490 c ∧ SzS 490 s ∧ (tw a b c = 0 → W 6 none S) ∧ (tw a b c ≠ 0 → P (.tup [dQ (tw a s c / tw a b c), dQ (tw a b s / tw a b c)]) S)
  | _ => False
theorem m_in_frame {Γ : Gam} (h57 : Γ.fn 57 = c_look_frame) (a57 : Γ.ar 57 = 1) (h45 : Γ.fn 45 = c_twice_of) (a45 : Γ.ar 45 = 3) (h11 : Γ.fn 11 = c_quotient) (a11 : Γ.ar 11 = 2) : Meets Γ 3 z_in_frame c_in_frame := by
  intro ds S P W h
  unfold c_in_frame at h
  split at h
  · obtain ⟨a, b, c, s, rfl, rfl, ha, hb, hc, hs, hw, hp⟩ := h
    change wZs Γ z_in_frame (retE P) [some (d3 a b c), some (dS s), none] S (errW W)
    dsimp only [z_in_frame]
    dsimp only [wZs, wZ, wE, wEs, wT, wTs, wI, lk, List.set, aTru, partS, List.take, List.drop]
    try simp only [h57, a57, h45, a45, h11, a11, q_add, q_sub, q_mul, q_div, q_mod, q_pow, q_lt, q_le, q_gt, q_ge, q_eq, q_ne, q_is, q_isnt, q_isntB, q_isB, q_tb, q_ti, q_tn, q_tt, q_ixQ0, q_ixQ1, q_ixS0, q_ixS1, q_eqQ, q_neQ, q_eqSp, q_neSp, q_eqB, q_neB, q_ixT, q_lenT, q_abs, q_intI, q_intB, q_min2, q_max2, at0, at1, at2, List.length_cons, List.length_nil, sizeLine_eq, Nat.reduceAdd, Nat.reduceLeDiff, true_and, Bool.not_true, Bool.not_false, Bool.false_eq_true, if_false, reduceIte, lk, List.set, whole_int, whole_bl, whole_tup, whole_non]
    have up' : ∀ {z : Spot}, SzS 490 z → SzS 1100 z := fun h => h.mono (by decide)
    have q : ∀ {x y z : Spot}, SzS 490 x → SzS 490 y → SzS 490 z → Sz 4000 (tw x y z) := fun h1 h2 h3 => (h1.tw h2 h3).mono (by decide)
    refine ⟨a, b, c, 490, rfl, by decide, ha, hb, hc, fun z => err_now (hw z), fun hne => ?_⟩
    try simp only [d3, q_add, q_sub, q_mul, q_div, q_mod, q_pow, q_lt, q_le, q_gt, q_ge, q_eq, q_ne, q_is, q_isnt, q_isntB, q_isB, q_tb, q_ti, q_tn, q_tt, q_ixQ0, q_ixQ1, q_ixS0, q_ixS1, q_eqQ, q_neQ, q_eqSp, q_neSp, q_eqB, q_neB, q_ixT, q_lenT, q_abs, q_intI, q_intB, q_min2, q_max2, at0, at1, at2, List.length_cons, List.length_nil, sizeLine_eq, Nat.reduceAdd, Nat.reduceLeDiff, true_and, Bool.not_true, Bool.not_false, Bool.false_eq_true, if_false, reduceIte, lk, List.set, whole_int, whole_bl, whole_tup, whole_non]
    refine ⟨a, b, c, rfl, rfl, rfl, up' ha, up' hb, up' hc, a, s, c, rfl, rfl, rfl, up' ha, up' hs, up' hc, ?_⟩
    refine quotient_q (q ha hs hc) (q ha hb hc) (fun z => (hne z).elim) fun _ => ?_
    refine ⟨a, b, s, rfl, rfl, rfl, up' ha, up' hb, up' hs, quotient_q (q ha hb hs) (q ha hb hc) (fun z => (hne z).elim) fun _ => ret_now (hp hne)⟩
  · exact h.elim
noncomputable def colF (p : Int) (a b c s : Spot) : Int := col p (tw a s c / tw a b c) (tw a b s / tw a b c)
def c_colour_by : Con := fun ds S P W => match ds with
  | [f, d, x] => ∃ a b c s, f = d3 a b c ∧ x = dS s ∧ SzS 490 a ∧ SzS 490 b ∧ SzS 490 c ∧ SzS 490 s ∧ Kd S d ∧ (tw a b c = 0 → W 6 none S) ∧ (tw a b c ≠ 0 → primeD d = false → W 2 none S) ∧ ∀ p, tw a b c ≠ 0 → d = .int p → p ∈ primesL → P (.int (colF p a b c s)) S
  | _ => False
theorem m_colour_by {Γ : Gam} (h58 : Γ.fn 58 = c_in_frame) (a58 : Γ.ar 58 = 2) (h54 : Γ.fn 54 = c_colour_of) (a54 : Γ.ar 54 = 3) : Meets Γ 5 z_colour_by c_colour_by := by
  intro ds S P W h
  unfold c_colour_by at h
  split at h
  · rename_i f d x
    obtain ⟨a, b, c, s, rfl, rfl, ha, hb, hc, hs, hk, hw, hw2, hp⟩ := h
    change wZs Γ z_colour_by (retE P) [some (d3 a b c), some d, some (dS s), none, none] S (errW W)
    dsimp only [z_colour_by]
    dsimp only [wZs, wZ, wE, wEs, wT, wTs, wI, lk, List.set, aTru, partS, List.take, List.drop]
    try simp only [h58, a58, h54, a54, q_add, q_sub, q_mul, q_div, q_mod, q_pow, q_lt, q_le, q_gt, q_ge, q_eq, q_ne, q_is, q_isnt, q_isntB, q_isB, q_tb, q_ti, q_tn, q_tt, q_ixQ0, q_ixQ1, q_ixS0, q_ixS1, q_eqQ, q_neQ, q_eqSp, q_neSp, q_eqB, q_neB, q_ixT, q_lenT, q_abs, q_intI, q_intB, q_min2, q_max2, at0, at1, at2, List.length_cons, List.length_nil, sizeLine_eq, Nat.reduceAdd, Nat.reduceLeDiff, true_and, Bool.not_true, Bool.not_false, Bool.false_eq_true, if_false, reduceIte, lk, List.set, whole_int, whole_bl, whole_tup, whole_non]
    refine ⟨a, b, c, s, rfl, rfl, ha, hb, hc, hs, fun z => err_now (hw z), fun hne => ?_⟩
    try simp only [true_and, q_add, q_sub, q_mul, q_div, q_mod, q_pow, q_lt, q_le, q_gt, q_ge, q_eq, q_ne, q_is, q_isnt, q_isntB, q_isB, q_tb, q_ti, q_tn, q_tt, q_ixQ0, q_ixQ1, q_ixS0, q_ixS1, q_eqQ, q_neQ, q_eqSp, q_neSp, q_eqB, q_neB, q_ixT, q_lenT, q_abs, q_intI, q_intB, q_min2, q_max2, at0, at1, at2, List.length_cons, List.length_nil, sizeLine_eq, Nat.reduceAdd, Nat.reduceLeDiff, true_and, Bool.not_true, Bool.not_false, Bool.false_eq_true, if_false, reduceIte, lk, List.set, whole_int, whole_bl, whole_tup, whole_non]
    exact ⟨_, _, rfl, rfl, hk, fun z => err_now (hw2 hne z), fun p ep hp' => ret_now (hp p hne ep hp')⟩
  · exact h.elim
/-- the law's own numbers in a frame -/
def c_law_in : Con := fun ds S P W => match ds with
  | [f, x] => ∃ a b c s, f = d3 a b c ∧ x = dS s ∧ SzS 490 a ∧ SzS 490 b ∧ SzS 490 c ∧ SzS 490 s ∧ tw a b c ≠ 0 ∧ P (.tup [dQ (tw a s c / tw a b c), dQ (tw a b s / tw a b c)]) S
  | _ => False
theorem twp_ne {a b c : Spot} {n : Nat} {t u : Int} (h : TwP a b c n t u) (hne : tw a b c ≠ 0) : t ≠ 0 := by
  intro z
  obtain ⟨h1, h2, _⟩ := h
  rw [z] at h2
  have : tw a b c * (u : Rat) = 0 := h2.symm
  rcases Rat.mul_eq_zero.mp this with e | e
  · exact hne e
  · exact cast_ne (by omega) e
theorem twp_quo {a b c a' b' c' : Spot} {n m : Nat} {t u t' u' : Int} (h : TwP a b c n t u) (h' : TwP a' b' c' m t' u') (hne : tw a' b' c' ≠ 0) : ((t * u' : Int) : Rat) / ((u * t' : Int) : Rat) = tw a b c / tw a' b' c' := by
  have n1 := cast_ne (b := u) (by have := h.1; omega)
  have n2 := cast_ne (b := u') (by have := h'.1; omega)
  rw [Rat.intCast_mul, Rat.intCast_mul, h.2.1, h'.2.1]
  generalize tw a b c = x
  generalize tw a' b' c' = y at *
  grind
theorem m_law_in {Γ : Gam} (h42 : Γ.fn 42 = c_law_twice) (a42 : Γ.ar 42 = 3) (h4 : Γ.fn 4 = c_law_lowest) (a4 : Γ.ar 4 = 2) : Meets Γ 8 z_law_in c_law_in := by
  intro ds S P W h
  unfold c_law_in at h
  split at h
  · obtain ⟨a, b, c, s, rfl, rfl, ha, hb, hc, hs, hne, hp⟩ := h
    change wZs Γ z_law_in (retE P) [some (d3 a b c), some (dS s), none, none, none, none, none, none] S (errW W)
    dsimp only [z_law_in]
    dsimp only [wZs, wZ, wE, wEs, wT, wTs, wI, lk, List.set, aTru, partS, List.take, List.drop]
    try simp only [d3, h42, a42, h4, a4, q_add, q_sub, q_mul, q_div, q_mod, q_pow, q_lt, q_le, q_gt, q_ge, q_eq, q_ne, q_is, q_isnt, q_isntB, q_isB, q_tb, q_ti, q_tn, q_tt, q_ixQ0, q_ixQ1, q_ixS0, q_ixS1, q_eqQ, q_neQ, q_eqSp, q_neSp, q_eqB, q_neB, q_ixT, q_lenT, q_abs, q_intI, q_intB, q_min2, q_max2, at0, at1, at2, List.length_cons, List.length_nil, sizeLine_eq, Nat.reduceAdd, Nat.reduceLeDiff, true_and, Bool.not_true, Bool.not_false, Bool.false_eq_true, if_false, reduceIte, lk, List.set, whole_int, whole_bl, whole_tup, whole_non]
    refine ⟨a, b, c, 490, rfl, rfl, rfl, by decide, ha, hb, hc, fun t u htu => ?_⟩
    try simp only [true_and, q_add, q_sub, q_mul, q_div, q_mod, q_pow, q_lt, q_le, q_gt, q_ge, q_eq, q_ne, q_is, q_isnt, q_isntB, q_isB, q_tb, q_ti, q_tn, q_tt, q_ixQ0, q_ixQ1, q_ixS0, q_ixS1, q_eqQ, q_neQ, q_eqSp, q_neSp, q_eqB, q_neB, q_ixT, q_lenT, q_abs, q_intI, q_intB, q_min2, q_max2, at0, at1, at2, List.length_cons, List.length_nil, sizeLine_eq, Nat.reduceAdd, Nat.reduceLeDiff, true_and, Bool.not_true, Bool.not_false, Bool.false_eq_true, if_false, reduceIte, lk, List.set, whole_int, whole_bl, whole_tup, whole_non]
    refine ⟨a, s, c, 490, rfl, rfl, rfl, by decide, ha, hs, hc, fun t1 u1 h1 => ?_⟩
    try simp only [true_and, q_add, q_sub, q_mul, q_div, q_mod, q_pow, q_lt, q_le, q_gt, q_ge, q_eq, q_ne, q_is, q_isnt, q_isntB, q_isB, q_tb, q_ti, q_tn, q_tt, q_ixQ0, q_ixQ1, q_ixS0, q_ixS1, q_eqQ, q_neQ, q_eqSp, q_neSp, q_eqB, q_neB, q_ixT, q_lenT, q_abs, q_intI, q_intB, q_min2, q_max2, at0, at1, at2, List.length_cons, List.length_nil, sizeLine_eq, Nat.reduceAdd, Nat.reduceLeDiff, true_and, Bool.not_true, Bool.not_false, Bool.false_eq_true, if_false, reduceIte, lk, List.set, whole_int, whole_bl, whole_tup, whole_non]
    refine ⟨a, b, s, 490, rfl, rfl, rfl, by decide, ha, hb, hs, fun t2 u2 h2 => ?_⟩
    try simp only [true_and, q_add, q_sub, q_mul, q_div, q_mod, q_pow, q_lt, q_le, q_gt, q_ge, q_eq, q_ne, q_is, q_isnt, q_isntB, q_isB, q_tb, q_ti, q_tn, q_tt, q_ixQ0, q_ixQ1, q_ixS0, q_ixS1, q_eqQ, q_neQ, q_eqSp, q_neSp, q_eqB, q_neB, q_ixT, q_lenT, q_abs, q_intI, q_intB, q_min2, q_max2, at0, at1, at2, List.length_cons, List.length_nil, sizeLine_eq, Nat.reduceAdd, Nat.reduceLeDiff, true_and, Bool.not_true, Bool.not_false, Bool.false_eq_true, if_false, reduceIte, lk, List.set, whole_int, whole_bl, whole_tup, whole_non]
    have tn := twp_ne htu hne
    have un1 := h1.1
    have un2 := h2.1
    refine ⟨h1.2.2.1.ok htu.2.2.2 (by decide), h1.2.2.2.ok htu.2.2.1 (by decide), lowest_q (Int.mul_ne_zero (by omega) tn) ((h1.2.2.2.mul htu.2.2.1).lt9 (by decide)) ?_⟩
    rw [twp_quo h1 htu hne]
    refine ⟨h2.2.2.1.ok htu.2.2.2 (by decide), h2.2.2.2.ok htu.2.2.1 (by decide), lowest_q (Int.mul_ne_zero (by omega) tn) ((h2.2.2.2.mul htu.2.2.1).lt9 (by decide)) ?_⟩
    rw [twp_quo h2 htu hne]
    exact ret_now hp
  · exact h.elim
/-- a frame drawn -/
def c_law_frame : Con := fun ds S P _ => match ds with
  | [.ref r] => ∃ n, Row S r n ∧ n < 2 ^ 45 ∧ ∀ a b c S', SzS 100 a → SzS 100 b → SzS 100 c → tw a b c ≠ 0 → Row S' r (n + 120) → Rowed S S' r → P (d3 a b c) S'
  | _ => False
theorem d3_dflt : D.tup [.tup [.tup [.int 0, .int 1], .tup [.int 0, .int 1]], .tup [.tup [.int 1, .int 1], .tup [.int 0, .int 1]], .tup [.tup [.int 0, .int 1], .tup [.int 1, .int 1]]] = d3 (0, 0) (1, 0) (0, 1) := rfl
theorem sz_small {n : Nat} {x : Rat} (h : x = 0 ∨ x = 1) (hn : 2 ≤ n) : Sz n x := by
  have h4 : 2 ^ 2 ≤ 2 ^ n := Nat.pow_le_pow_right (by decide) hn
  rcases h with rfl | rfl
  · exact ⟨by show 0 < _; omega, by show 1 < _; omega⟩
  · exact ⟨by show 1 < _; omega, by show 1 < _; omega⟩
theorem m_law_frame {Γ : Gam} (h38 : Γ.fn 38 = c_law_near) (a38 : Γ.ar 38 = 1) (h0 : Γ.fn 0 = c_law_take_2) (a0 : Γ.ar 0 = 2) (h32 : Γ.fn 32 = c_law_spot) (a32 : Γ.ar 32 = 1) (h50 : Γ.fn 50 = c_law_turn) (a50 : Γ.ar 50 = 3) : Meets Γ 3 z_law_frame c_law_frame := by
  intro ds S P W h
  unfold c_law_frame at h
  split at h
  · rename_i r
    obtain ⟨n, row, hn, h⟩ := h
    change wZs Γ z_law_frame (retE P) [some (.ref r), none, none] S (errW W)
    dsimp only [z_law_frame]
    dsimp only [wZs, wZ, wE, wEs, wT, wTs, wI, lk, List.set, aTru, partS, List.take, List.drop]
    try simp only [true_and, q_add, q_sub, q_mul, q_div, q_mod, q_pow, q_lt, q_le, q_gt, q_ge, q_eq, q_ne, q_is, q_isnt, q_isntB, q_isB, q_tb, q_ti, q_tn, q_tt, q_ixQ0, q_ixQ1, q_ixS0, q_ixS1, q_eqQ, q_neQ, q_eqSp, q_neSp, q_eqB, q_neB, q_ixT, q_lenT, q_abs, q_intI, q_intB, q_min2, q_max2, at0, at1, at2, List.length_cons, List.length_nil, sizeLine_eq, Nat.reduceAdd, Nat.reduceLeDiff, true_and, Bool.not_true, Bool.not_false, Bool.false_eq_true, if_false, reduceIte, lk, List.set, whole_int, whole_bl, whole_tup, whole_non]
    refine ⟨by decide, ?_⟩
    refine for_ind (src := .free) (fun rr ρ S' => ∃ x1 x2 m, ρ = [some (.ref r), x1, x2] ∧ Row S' r m ∧ m + 40 * rr.length ≤ n + 120 ∧ Rowed S S' r) (fun _ _ _ _ => trivial) ?_ ?_ ⟨none, none, n, rfl, row, by simp [rngItems], rowed_refl⟩
    · rintro ρ S' ⟨x1, x2, m, rfl, r1, hm, o1⟩
      rw [d3_dflt]
      refine ret_now (h _ _ _ S' ⟨sz_small (.inl rfl) (by decide), sz_small (.inl rfl) (by decide)⟩ ⟨sz_small (.inr rfl) (by decide), sz_small (.inl rfl) (by decide)⟩ ⟨sz_small (.inl rfl) (by decide), sz_small (.inr rfl) (by decide)⟩ ?_ (r1.mono (by simp at hm; omega)) o1)
      unfold tw
      grind
    · rintro F d rr ρ S' ⟨x1, x2, m, rfl, r1, hm, o1⟩ hF
      have hm' : m + 40 * ((rr.length + 1 : Nat) : Int) ≤ n + 120 := hm
      try simp only [h38, a38, h0, a0, h32, a32, q_add, q_sub, q_mul, q_div, q_mod, q_pow, q_lt, q_le, q_gt, q_ge, q_eq, q_ne, q_is, q_isnt, q_isntB, q_isB, q_tb, q_ti, q_tn, q_tt, q_ixQ0, q_ixQ1, q_ixS0, q_ixS1, q_eqQ, q_neQ, q_eqSp, q_neSp, q_eqB, q_neB, q_ixT, q_lenT, q_abs, q_intI, q_intB, q_min2, q_max2, at0, at1, at2, List.length_cons, List.length_nil, sizeLine_eq, Nat.reduceAdd, Nat.reduceLeDiff, true_and, Bool.not_true, Bool.not_false, Bool.false_eq_true, if_false, reduceIte, lk, List.set, whole_int, whole_bl, whole_tup, whole_non]
      refine ⟨m, r1, by omega, fun s S2 hs r2 o2 => ⟨m + 4, r2, by omega, fun t S3 ht r3 o3 => ⟨m + 4 + 4, r3, by omega, fun u S4 hu r4 o4 p np => ?_⟩⟩⟩
      have lp := up_ls (o := .lst true [dS s, dS t, dS u]) np
      have dp := r4.ne np
      refine take_row (r4.le lp) (by omega) (by decide) fun k S5 k0 k1 r5 o5 => ?_
      have ep : S5 p = some (.lst true [dS s, dS t, dS u]) := o5 _ _ dp up_same
      have o := o1.trans (o2.trans (o3.trans (o4.trans ((le_rowed lp).trans o5))))
      have fin : ∀ {q s t u S6}, S6 q = some (.lst true [dS s, dS t, dS u]) → SzS 100 s → SzS 100 t → SzS 100 u → Row S6 r (m + 40) → Rowed S S6 r → (if (!decide (sgn (tw s t u) = 0)) = true then biS .tuple [.ref q] S6 (retE P).rt else F [some (.ref r), some d, some (.ref q)] S6) := by
        intro q s t u S6 eq hs ht hu r6 o6
        refine if_nb (fun hz => ?_) fun hz => ?_
        · simp only [biS, q_seqL, eq]
          exact ret_now (h s t u S6 hs ht hu (fun z => hz (sgn_zero.mpr z)) (r6.mono (by omega)) o6)
        · exact hF _ _ ⟨_, _, m + 40, rfl, r6, by omega, o6⟩
      try simp only [true_and, q_add, q_sub, q_mul, q_div, q_mod, q_pow, q_lt, q_le, q_gt, q_ge, q_eq, q_ne, q_is, q_isnt, q_isntB, q_isB, q_tb, q_ti, q_tn, q_tt, q_ixQ0, q_ixQ1, q_ixS0, q_ixS1, q_eqQ, q_neQ, q_eqSp, q_neSp, q_eqB, q_neB, q_ixT, q_lenT, q_abs, q_intI, q_intB, q_min2, q_max2, at0, at1, at2, List.length_cons, List.length_nil, sizeLine_eq, Nat.reduceAdd, Nat.reduceLeDiff, true_and, Bool.not_true, Bool.not_false, Bool.false_eq_true, if_false, reduceIte, lk, List.set, whole_int, whole_bl, whole_tup, whole_non]
      refine if_b (fun hk => ?_) fun hk => ?_
      · refine ⟨m + 4 + 4 + 4 + 1, r5, by omega, fun s S6 hs r6 o6 => ⟨m + 21, r6.mono (by omega), by omega, fun t S7 ht r7 o7 => ⟨m + 29, r7.mono (by omega), by omega, fun u S8 hu r8 o8 q nq => ?_⟩⟩⟩
        have lq := up_ls (o := .lst true [dS s, dS t, dS u]) nq
        try simp only [q_ixL, up_same, h50, a50, q_add, q_sub, q_mul, q_div, q_mod, q_pow, q_lt, q_le, q_gt, q_ge, q_eq, q_ne, q_is, q_isnt, q_isntB, q_isB, q_tb, q_ti, q_tn, q_tt, q_ixQ0, q_ixQ1, q_ixS0, q_ixS1, q_eqQ, q_neQ, q_eqSp, q_neSp, q_eqB, q_neB, q_ixT, q_lenT, q_abs, q_intI, q_intB, q_min2, q_max2, at0, at1, at2, List.length_cons, List.length_nil, sizeLine_eq, Nat.reduceAdd, Nat.reduceLeDiff, true_and, Bool.not_true, Bool.not_false, Bool.false_eq_true, if_false, reduceIte, lk, List.set, whole_int, whole_bl, whole_tup, whole_non]
        refine ⟨s, t, u, 100, rfl, rfl, rfl, by decide, hs, ht, hu, ?_⟩
        try simp only [true_and, q_add, q_sub, q_mul, q_div, q_mod, q_pow, q_lt, q_le, q_gt, q_ge, q_eq, q_ne, q_is, q_isnt, q_isntB, q_isB, q_tb, q_ti, q_tn, q_tt, q_ixQ0, q_ixQ1, q_ixS0, q_ixS1, q_eqQ, q_neQ, q_eqSp, q_neSp, q_eqB, q_neB, q_ixT, q_lenT, q_abs, q_intI, q_intB, q_min2, q_max2, at0, at1, at2, List.length_cons, List.length_nil, sizeLine_eq, Nat.reduceAdd, Nat.reduceLeDiff, true_and, Bool.not_true, Bool.not_false, Bool.false_eq_true, if_false, reduceIte, lk, List.set, whole_int, whole_bl, whole_tup, whole_non]
        exact fin up_same hs ht hu ((r8.le lq).mono (by omega)) (o.trans (o6.trans (o7.trans (o8.new nq))))
      · try simp only [q_ixL, ep, h50, a50, q_add, q_sub, q_mul, q_div, q_mod, q_pow, q_lt, q_le, q_gt, q_ge, q_eq, q_ne, q_is, q_isnt, q_isntB, q_isB, q_tb, q_ti, q_tn, q_tt, q_ixQ0, q_ixQ1, q_ixS0, q_ixS1, q_eqQ, q_neQ, q_eqSp, q_neSp, q_eqB, q_neB, q_ixT, q_lenT, q_abs, q_intI, q_intB, q_min2, q_max2, at0, at1, at2, List.length_cons, List.length_nil, sizeLine_eq, Nat.reduceAdd, Nat.reduceLeDiff, true_and, Bool.not_true, Bool.not_false, Bool.false_eq_true, if_false, reduceIte, lk, List.set, whole_int, whole_bl, whole_tup, whole_non]
        have s6 : SzS 100 s := hs.mono (by decide)
        have t6 : SzS 100 t := ht.mono (by decide)
        have u6 : SzS 100 u := hu.mono (by decide)
        refine ⟨s, t, u, 100, rfl, rfl, rfl, by decide, s6, t6, u6, ?_⟩
        try simp only [true_and, q_add, q_sub, q_mul, q_div, q_mod, q_pow, q_lt, q_le, q_gt, q_ge, q_eq, q_ne, q_is, q_isnt, q_isntB, q_isB, q_tb, q_ti, q_tn, q_tt, q_ixQ0, q_ixQ1, q_ixS0, q_ixS1, q_eqQ, q_neQ, q_eqSp, q_neSp, q_eqB, q_neB, q_ixT, q_lenT, q_abs, q_intI, q_intB, q_min2, q_max2, at0, at1, at2, List.length_cons, List.length_nil, sizeLine_eq, Nat.reduceAdd, Nat.reduceLeDiff, true_and, Bool.not_true, Bool.not_false, Bool.false_eq_true, if_false, reduceIte, lk, List.set, whole_int, whole_bl, whole_tup, whole_non]
        exact fin ep s6 t6 u6 (r5.mono (by omega)) o
  · exact h.elim
end Sd
namespace Sd
open PySem
/-! ### the spot that weights tell -/
def wsm (f : Spot → Rat) (ps : List (Spot × Int)) : Rat := qsum (ps.map fun p => (p.2 : Rat) * f p.1)
def wm (f : Spot → Rat) (l : List Spot) (ws : List Int) : Rat := wsm f (l.zip ws) / (ws.sum : Int)
def mid (l : List Spot) (ws : List Int) : Spot := (wm (·.1) l ws, wm (·.2) l ws)
theorem zipD_map {l : List Spot} {ws : List Int} : zipD (l.map dS) (ws.map D.int) = (l.zip ws).map fun p => D.tup [dS p.1, .int p.2] := by
  unfold zipD
  rw [List.zip_map, List.map_map]
  rfl
def c_law_mid : Con := fun ds S P _ => match ds with
  | [.ref a, .ref b] => ∃ (w v : Bool) (l : List Spot) (ws : List Int) (n m : Nat), S a = some (.lst w (l.map dS)) ∧ S b = some (.lst v (ws.map D.int)) ∧ l.length ≤ 6 ∧ ws.length ≤ 6 ∧ n ≤ 1200 ∧ m ≤ 200 ∧ (∀ s ∈ l, SzS n s) ∧ (∀ i ∈ ws, Bd m i) ∧ ws.sum ≠ 0 ∧ P (dS (mid l ws)) S
  | _ => False
/-- a top over a bottom: the sum so far -/
structure Mi (f : Spot → Rat) (n m : Nat) (ps : List (Spot × Int)) (t b : Int) : Prop where
  eq : (t : Rat) = wsm f ps * (b : Rat)
  pos : 0 < b
  tb : Bd ((n + 1) * ps.length + m + 1) t
  bb : Bd (n * ps.length + 1) b
theorem mi_nil {f : Spot → Rat} {n m : Nat} : Mi f n m [] 0 1 := ⟨by show (0 : Rat) = 0 * _; rw [Rat.zero_mul], by decide, by unfold Bd; exact Nat.pow_pos (by decide), by unfold Bd; exact Nat.one_lt_two_pow (by simp)⟩
theorem mi_snoc {f : Spot → Rat} {n m : Nat} {ps : List (Spot × Int)} {t b : Int} {s : Spot} {w : Int} (h : Mi f n m ps t b) (hs : Sz n (f s)) (hw : Bd m w) : Mi f n m (ps ++ [(s, w)]) (t * (f s).den + w * (f s).num * b) (b * (f s).den) := by
  have s1 := hs.bd
  refine ⟨?_, ?_, ?_, ?_⟩
  · have h1 := rat_eq (f s); have h2 := den_ne (f s); have h3 := h.eq
    have e : wsm f (ps ++ [(s, w)]) = wsm f ps + (w : Rat) * f s := by
      unfold wsm
      rw [List.map_append, qsum_app]
      simp only [List.map, qsum, Rat.add_zero]
    rw [e, Rat.intCast_add, Rat.intCast_mul, Rat.intCast_mul, Rat.intCast_mul, Rat.intCast_mul, h3]
    grind
  · have := (f s).den_nz
    exact Int.mul_pos h.pos (by omega)
  · have x1 := h.tb.mul s1.2
    have x2 := (hw.mul s1.1).mul h.bb
    rw [List.length_append, List.length_singleton]
    have e1 : (n + 1) * (ps.length + 1) = (n + 1) * ps.length + (n + 1) := by rw [Nat.mul_succ]
    have e2 : (n + 1) * ps.length = n * ps.length + ps.length := by rw [Nat.succ_mul]
    have y1 : Bd ((n + 1) * ps.length + m + 1 + n) (t * (f s).den) := x1
    have y2 : Bd ((n + 1) * ps.length + m + 1 + n) (w * (f s).num * b) := x2.mono (by omega)
    exact (y1.add y2).mono (by omega)
  · rw [List.length_append, List.length_singleton]
    exact (h.bb.mul s1.2).mono (by rw [Nat.mul_succ]; omega)
theorem Mi.dv {f : Spot → Rat} {n m : Nat} {ps : List (Spot × Int)} {t b c : Int} (h : Mi f n m ps t b) (hc : c ≠ 0) : (t : Rat) / ((b * c : Int) : Rat) = wsm f ps / (c : Rat) := by
  have h1 := h.eq
  have h2 := cast_ne (b := b) (by have := h.pos; omega)
  have h3 := cast_ne hc
  rw [Rat.intCast_mul, h1]
  grind
theorem sum_bd {m : Nat} : ∀ {ws : List Int}, ws.length ≤ 6 → (∀ i ∈ ws, Bd m i) → Bd (m + 3) ws.sum := by
  have key : ∀ {ws : List Int}, (∀ i ∈ ws, Bd m i) → ws.sum.natAbs ≤ ws.length * 2 ^ m := by
    intro ws
    induction ws with
    | nil => intro _; simp
    | cons x ws ih =>
      intro h
      have h1 : x.natAbs < 2 ^ m := h x (by simp)
      have h2 := ih fun i hi => h i (by simp [hi])
      rw [List.sum_cons, List.length_cons, Nat.succ_mul]
      have := Int.natAbs_add_le x ws.sum
      omega
  intro ws hl h
  have h1 := key h
  unfold Bd
  have h2 : ws.length * 2 ^ m ≤ 6 * 2 ^ m := Nat.mul_le_mul_right _ hl
  have h3 : 2 ^ (m + 3) = 8 * 2 ^ m := by rw [Nat.pow_add]; omega
  have h4 : 0 < 2 ^ m := Nat.pow_pos (by decide)
  omega
theorem m_law_mid {Γ : Gam} (h4 : Γ.fn 4 = c_law_lowest) (a4 : Γ.ar 4 = 2) : Meets Γ 10 z_law_mid c_law_mid := by
  intro ds S P W h
  unfold c_law_mid at h
  split at h
  · rename_i a b
    obtain ⟨w, v, l, ws, n, m, ea, eb, hl, hw, hn, hm, zs, zw, hsum, hp⟩ := h
    have bs := sum_bd hw zw
    have zl : (l.zip ws).length ≤ 6 := by rw [List.length_zip]; omega
    change wZs Γ z_law_mid (retE P) [some (.ref a), some (.ref b), none, none, none, none, none, none, none, none] S (errW W)
    refine cut 1 (fun ρ S' => ∃ r, S r = none ∧ ρ = [some (.ref a), some (.ref b), some (.ref r), none, none, none, none, none, none, none] ∧ S' = S.up r (.lst true [])) (fun G hG => ?_) ?_
    · dsimp only [z_law_mid]
      dsimp only [wZs, wZ, wE, wEs, wT, wTs, wI, lk, List.set, aTru, partS, List.take, List.drop]
      try simp only [true_and, q_add, q_sub, q_mul, q_div, q_mod, q_pow, q_lt, q_le, q_gt, q_ge, q_eq, q_ne, q_is, q_isnt, q_isntB, q_isB, q_tb, q_ti, q_tn, q_tt, q_ixQ0, q_ixQ1, q_ixS0, q_ixS1, q_eqQ, q_neQ, q_eqSp, q_neSp, q_eqB, q_neB, q_ixT, q_lenT, q_abs, q_intI, q_intB, q_min2, q_max2, at0, at1, at2, List.length_cons, List.length_nil, sizeLine_eq, Nat.reduceAdd, Nat.reduceLeDiff, true_and, Bool.not_true, Bool.not_false, Bool.false_eq_true, if_false, reduceIte, lk, List.set, whole_int, whole_bl, whole_tup, whole_non]
      exact fun r nr => hG _ _ ⟨r, nr, rfl, rfl⟩
    rintro ρ S0 ⟨r, nr, rfl, rfl⟩
    have dra : r ≠ a := fun z => by rw [z, ea] at nr; cases nr
    have drb : r ≠ b := fun z => by rw [z, eb] at nr; cases nr
    dsimp only [z_law_mid, List.drop]
    refine cut 1 (fun ρ S' => ∃ x3 x4 x5 x6 x7 x8 x9, ρ = [some (.ref a), some (.ref b), some (.ref r), x3, x4, x5, x6, x7, x8, x9] ∧ S' = S.up r (.lst true [dQ (wm (·.1) l ws), dQ (wm (·.2) l ws)])) (fun G hG => ?_) ?_
    · dsimp only [List.take]
      rw [wZs_one, wZ_for, wI_r1]
      refine ⟨by decide, ?_⟩
      refine for_ind (src := .free) (fun rr ρ S' => ∃ (fnd : List D) (x3 x4 x5 x6 x7 x8 x9 : Option D), ρ = [some (.ref a), some (.ref b), some (.ref r), x3, x4, x5, x6, x7, x8, x9] ∧ S' = S.up r (.lst true fnd) ∧ ((rr = [.int 0, .int 1] ∧ fnd = []) ∨ (rr = [.int 1] ∧ fnd = [dQ (wm (·.1) l ws)]) ∨ (rr = [] ∧ fnd = [dQ (wm (·.1) l ws), dQ (wm (·.2) l ws)]))) (fun _ _ _ _ => trivial) ?_ ?_ ⟨[], _, _, _, _, _, _, _, rfl, rfl, .inl ⟨rfl, rfl⟩⟩
      · rintro ρ S' ⟨fnd, x3, x4, x5, x6, x7, x8, x9, rfl, rfl, h | h | h⟩
        · cases h.1
        · cases h.1
        · rw [h.2]
          exact hG _ _ ⟨_, _, _, _, _, _, _, rfl, rfl⟩
      · rintro F d rr ρ S' ⟨fnd, x3, x4, x5, x6, x7, x8, x9, rfl, rfl, hh⟩ hF
        have hj : ∃ (j : Int) (f : Spot → Rat), d = .int j ∧ (∀ (s : Spot) (T : Sto) (P : PD), ixS (dS s) (.int j) T P = P (dQ (f s)) T) ∧ (∀ s, SzS n s → Sz n (f s)) ∧ fnd.length ≤ 1 ∧ ((rr = [.int 1] ∧ fnd ++ [dQ (wm f l ws)] = [dQ (wm (·.1) l ws)]) ∨ (rr = [] ∧ fnd ++ [dQ (wm f l ws)] = [dQ (wm (·.1) l ws), dQ (wm (·.2) l ws)])) := by
          rcases hh with ⟨h1, h2⟩ | ⟨h1, h2⟩ | ⟨h1, h2⟩
          · cases h1
            exact ⟨0, (·.1), rfl, fun _ _ _ => q_ixS0, fun s hs => hs.1, by rw [h2]; decide, .inl ⟨rfl, by rw [h2]; rfl⟩⟩
          · cases h1
            exact ⟨1, (·.2), rfl, fun _ _ _ => q_ixS1, fun s hs => hs.2, by rw [h2]; simp, .inr ⟨rfl, by rw [h2]; rfl⟩⟩
          · cases h1
        obtain ⟨j, f, rfl, hix, hzf, hfl, hnext⟩ := hj
        have eaS : (S.up r (.lst true fnd)) a = some (.lst w (l.map dS)) := by rw [up_oth dra]; exact ea
        have ebS : (S.up r (.lst true fnd)) b = some (.lst v (ws.map D.int)) := by rw [up_oth drb]; exact eb
        dsimp only [wT, List.set]
        refine cut 2 (fun ρ S' => ∃ t u x6 x7 x8 x9, ρ = [some (.ref a), some (.ref b), some (.ref r), some (.int j), some (.int t), some (.int u), x6, x7, x8, x9] ∧ S' = S.up r (.lst true fnd) ∧ Mi f n m (l.zip ws) t u) (fun G' hG' => ?_) ?_
        · dsimp only [wZs, wZ, wE, wEs, wT, wTs, wI, lk, List.set, aTru, partS, List.take, List.drop]
          try simp only [eaS, ebS, zipD_map, q_add, q_sub, q_mul, q_div, q_mod, q_pow, q_lt, q_le, q_gt, q_ge, q_eq, q_ne, q_is, q_isnt, q_isntB, q_isB, q_tb, q_ti, q_tn, q_tt, q_ixQ0, q_ixQ1, q_ixS0, q_ixS1, q_eqQ, q_neQ, q_eqSp, q_neSp, q_eqB, q_neB, q_ixT, q_lenT, q_abs, q_intI, q_intB, q_min2, q_max2, at0, at1, at2, List.length_cons, List.length_nil, sizeLine_eq, Nat.reduceAdd, Nat.reduceLeDiff, true_and, Bool.not_true, Bool.not_false, Bool.false_eq_true, if_false, reduceIte, lk, List.set, whole_int, whole_bl, whole_tup, whole_non]
          refine for_ind (src := .two a w (l.map dS) b v (ws.map D.int)) (fun rr ρ S' => ∃ (done rest : List (Spot × Int)) (t u : Int) (x6 x7 x8 x9 : Option D), l.zip ws = done ++ rest ∧ rr = rest.map (fun p => D.tup [dS p.1, .int p.2]) ∧ ρ = [some (.ref a), some (.ref b), some (.ref r), some (.int j), some (.int t), some (.int u), x6, x7, x8, x9] ∧ S' = S.up r (.lst true fnd) ∧ Mi f n m done t u) ?_ ?_ ?_ ⟨[], l.zip ws, 0, 1, _, _, _, _, rfl, rfl, rfl, rfl, mi_nil⟩
          · rintro rr ρ S' ⟨done, rest, t, u, y6, y7, y8, y9, hd, hr, rfl, rfl, hM⟩
            exact ⟨eaS, ebS⟩
          · rintro ρ S' ⟨done, rest, t, u, y6, y7, y8, y9, hd, hr, rfl, rfl, hM⟩
            have : rest = [] := by
              cases rest with
              | nil => rfl
              | cons _ _ => cases hr
            subst this
            rw [List.append_nil] at hd
            rw [← hd] at hM
            exact hG' _ _ ⟨t, u, _, _, _, _, rfl, rfl, hM⟩
          · rintro F2 d2 rr2 ρ S' ⟨done, rest, t, u, y6, y7, y8, y9, hd, hr, rfl, rfl, hM⟩ hF2
            cases rest with
            | nil => cases hr
            | cons p rest =>
              simp only [List.map_cons, List.cons.injEq] at hr
              obtain ⟨rfl, rfl⟩ := hr
              have hmem : p ∈ l.zip ws := by rw [hd]; simp
              have hp1 := hzf p.1 (zs p.1 (List.of_mem_zip hmem).1)
              have hp2 := zw p.2 (List.of_mem_zip hmem).2
              have hlen : done.length ≤ 6 := by
                have := congrArg List.length hd
                rw [List.length_append] at this
                omega
              have nk : n * done.length ≤ 1200 * 6 := Nat.mul_le_mul hn hlen
              have nk2 : (n + 1) * done.length ≤ 1201 * 6 := Nat.mul_le_mul (by omega) hlen
              try simp only [hix, dQ, q_add, q_sub, q_mul, q_div, q_mod, q_pow, q_lt, q_le, q_gt, q_ge, q_eq, q_ne, q_is, q_isnt, q_isntB, q_isB, q_tb, q_ti, q_tn, q_tt, q_ixQ0, q_ixQ1, q_ixS0, q_ixS1, q_eqQ, q_neQ, q_eqSp, q_neSp, q_eqB, q_neB, q_ixT, q_lenT, q_abs, q_intI, q_intB, q_min2, q_max2, at0, at1, at2, List.length_cons, List.length_nil, sizeLine_eq, Nat.reduceAdd, Nat.reduceLeDiff, true_and, Bool.not_true, Bool.not_false, Bool.false_eq_true, if_false, reduceIte, lk, List.set, whole_int, whole_bl, whole_tup, whole_non]
              refine ⟨hM.tb.ok hp1.bd.2 (by omega), hp2.ok hp1.bd.1 (by omega), (hp2.mul hp1.bd.1).ok hM.bb (by omega), hM.bb.ok hp1.bd.2 (by omega), hF2 _ _ ⟨done ++ [p], rest, _, _, _, _, _, _, by rw [hd]; simp, rfl, rfl, rfl, mi_snoc hM hp1 hp2⟩⟩
        rintro ρ S' ⟨t, u, y6, y7, y8, y9, rfl, rfl, hM⟩
        have nk : n * (l.zip ws).length ≤ 1200 * 6 := Nat.mul_le_mul hn zl
        dsimp only [wZs, wZ, wE, wEs, wT, wTs, wI, lk, List.set, aTru, partS, List.take, List.drop]
        try simp only [h4, a4, q_isL, up_same, q_add, q_sub, q_mul, q_div, q_mod, q_pow, q_lt, q_le, q_gt, q_ge, q_eq, q_ne, q_is, q_isnt, q_isntB, q_isB, q_tb, q_ti, q_tn, q_tt, q_ixQ0, q_ixQ1, q_ixS0, q_ixS1, q_eqQ, q_neQ, q_eqSp, q_neSp, q_eqB, q_neB, q_ixT, q_lenT, q_abs, q_intI, q_intB, q_min2, q_max2, at0, at1, at2, List.length_cons, List.length_nil, sizeLine_eq, Nat.reduceAdd, Nat.reduceLeDiff, true_and, Bool.not_true, Bool.not_false, Bool.false_eq_true, if_false, reduceIte, lk, List.set, whole_int, whole_bl, whole_tup, whole_non]
        rw [q_sum1 ebS]
        try simp only [true_and, q_add, q_sub, q_mul, q_div, q_mod, q_pow, q_lt, q_le, q_gt, q_ge, q_eq, q_ne, q_is, q_isnt, q_isntB, q_isB, q_tb, q_ti, q_tn, q_tt, q_ixQ0, q_ixQ1, q_ixS0, q_ixS1, q_eqQ, q_neQ, q_eqSp, q_neSp, q_eqB, q_neB, q_ixT, q_lenT, q_abs, q_intI, q_intB, q_min2, q_max2, at0, at1, at2, List.length_cons, List.length_nil, sizeLine_eq, Nat.reduceAdd, Nat.reduceLeDiff, true_and, Bool.not_true, Bool.not_false, Bool.false_eq_true, if_false, reduceIte, lk, List.set, whole_int, whole_bl, whole_tup, whole_non]
        refine ⟨hM.bb.ok bs (by omega), lowest_q (Int.mul_ne_zero (by have := hM.pos; omega) hsum) ((hM.bb.mul bs).lt9 (by omega)) ?_⟩
        rw [hM.dv hsum]
        try simp only [q_append, up_same, upup, q_add, q_sub, q_mul, q_div, q_mod, q_pow, q_lt, q_le, q_gt, q_ge, q_eq, q_ne, q_is, q_isnt, q_isntB, q_isB, q_tb, q_ti, q_tn, q_tt, q_ixQ0, q_ixQ1, q_ixS0, q_ixS1, q_eqQ, q_neQ, q_eqSp, q_neSp, q_eqB, q_neB, q_ixT, q_lenT, q_abs, q_intI, q_intB, q_min2, q_max2, at0, at1, at2, List.length_cons, List.length_nil, sizeLine_eq, Nat.reduceAdd, Nat.reduceLeDiff, true_and, Bool.not_true, Bool.not_false, Bool.false_eq_true, if_false, reduceIte, lk, List.set, whole_int, whole_bl, whole_tup, whole_non]
        refine ⟨by omega, hF _ _ ⟨fnd ++ [dQ (wm f l ws)], _, _, _, _, _, _, _, rfl, rfl, ?_⟩⟩
        rcases hnext with h | h
        · exact .inr (.inl h)
        · exact .inr (.inr h)
    rintro ρ S1 ⟨x3, x4, x5, x6, x7, x8, x9, rfl, rfl⟩
    dsimp only [wZs, wZ, wE, wEs, wT, wTs, wI, lk, List.set, aTru, partS, List.take, List.drop]
    try simp only [q_ixL, up_same, q_add, q_sub, q_mul, q_div, q_mod, q_pow, q_lt, q_le, q_gt, q_ge, q_eq, q_ne, q_is, q_isnt, q_isntB, q_isB, q_tb, q_ti, q_tn, q_tt, q_ixQ0, q_ixQ1, q_ixS0, q_ixS1, q_eqQ, q_neQ, q_eqSp, q_neSp, q_eqB, q_neB, q_ixT, q_lenT, q_abs, q_intI, q_intB, q_min2, q_max2, at0, at1, at2, List.length_cons, List.length_nil, sizeLine_eq, Nat.reduceAdd, Nat.reduceLeDiff, true_and, Bool.not_true, Bool.not_false, Bool.false_eq_true, if_false, reduceIte, lk, List.set, whole_int, whole_bl, whole_tup, whole_non]
    exact ret_le (up_ls nr) hp
  · exact h.elim
end Sd
namespace Sd
open PySem
theorem wm_sz {f : Spot → Rat} {n m k : Nat} {l : List Spot} {ws : List Int} (hm : 0 < m) (hl : l.length ≤ k) (hw : ws.length ≤ 6) (zs : ∀ s ∈ l, Sz n (f s)) (zw : ∀ i ∈ ws, Bd m i) : Sz (k * (m + n + 1) + m + 4) (wm f l ws) := by
  unfold wm wsm
  have h1 : ∀ x ∈ (l.zip ws).map (fun p => (p.2 : Rat) * f p.1), Sz (m + n) x := fun x hx => by
    obtain ⟨p, hp, rfl⟩ := List.mem_map.mp hx
    exact (sz_int (zw p.2 (List.of_mem_zip hp).2) hm).mul (zs p.1 (List.of_mem_zip hp).1)
  have h2 := Sz.sum h1
  have h3 : Sz (m + 3) ((ws.sum : Int) : Rat) := sz_int (sum_bd hw zw) (by omega)
  refine (h2.div h3 (by omega)).mono ?_
  rw [List.length_map, List.length_zip]
  have : min l.length ws.length * (m + n + 1) ≤ k * (m + n + 1) := Nat.mul_le_mul_right _ (by omega)
  omega
theorem mid_sz {n m k : Nat} {l : List Spot} {ws : List Int} (hm : 0 < m) (hl : l.length ≤ k) (hw : ws.length ≤ 6) (zs : ∀ s ∈ l, SzS n s) (zw : ∀ i ∈ ws, Bd m i) : SzS (k * (m + n + 1) + m + 4) (mid l ws) :=
  ⟨wm_sz hm hl hw (fun s hs => (zs s hs).1) zw, wm_sz hm hl hw (fun s hs => (zs s hs).2) zw⟩
theorem rowed_none {S S' : Sto} {a p : Addr} {n : Int} (h : Rowed S S' a) (r : Row S' a n) (e : S' p = none) : S p = none := by
  cases q : S p with
  | none => rfl
  | some o =>
    by_cases hp : p = a
    · obtain ⟨c, m, e', _⟩ := r
      rw [hp, e'] at e
      cases e
    · rw [h p o hp q] at e
      cases e
theorem ixn2 {n : Nat} : L2.ixN (n + 1 + 1 + 1) 2 = some 2 := by
  unfold L2.ixN
  rw [if_pos (by omega), if_pos (by omega)]
  rfl
/-- a place of three by a draw -/
theorem ixn3 {k : Int} (h0 : 0 ≤ k) (h1 : k < 3) : ∃ j, L2.ixN 3 k = some j ∧ j < 3 := by
  unfold L2.ixN
  rw [if_pos h0, if_pos (by omega)]
  exact ⟨_, rfl, by omega⟩
def c_law_frame_2 : Con := fun ds S P _ => match ds with
  | [.ref a] => ∃ n, Row S a n ∧ n < 2 ^ 45 ∧ ∀ p s t u S', SzS 100 s → SzS 100 t → SzS 100 u → S p = none → S' p = some (.lst true [dS s, dS t, dS u]) → Row S' a (n + 30) → Rowed S S' a → P (.ref p) S'
  | _ => False
theorem m_law_frame_2 {Γ : Gam} (h0 : Γ.fn 0 = c_law_take_2) (a0 : Γ.ar 0 = 2) (h32 : Γ.fn 32 = c_law_spot) (a32 : Γ.ar 32 = 1) (h38 : Γ.fn 38 = c_law_near) (a38 : Γ.ar 38 = 1) (h69 : Γ.fn 69 = c_law_mid) (a69 : Γ.ar 69 = 2) : Meets Γ 3 z_law_frame_2 c_law_frame_2 := by
  intro ds S P W h
  unfold c_law_frame_2 at h
  split at h
  · rename_i a
    obtain ⟨n, r, hn, h⟩ := h
    change wZs Γ z_law_frame_2 (retE P) [some (.ref a), none, none] S (errW W)
    dsimp only [z_law_frame_2]
    dsimp only [wZs, wZ, wE, wEs, wT, wTs, wI, lk, List.set, aTru, partS, List.take, List.drop]
    try simp only [h0, a0, h32, a32, h38, a38, q_add, q_sub, q_mul, q_div, q_mod, q_pow, q_lt, q_le, q_gt, q_ge, q_eq, q_ne, q_is, q_isnt, q_isntB, q_isB, q_tb, q_ti, q_tn, q_tt, q_ixQ0, q_ixQ1, q_ixS0, q_ixS1, q_eqQ, q_neQ, q_eqSp, q_neSp, q_eqB, q_neB, q_ixT, q_lenT, q_abs, q_intI, q_intB, q_min2, q_max2, at0, at1, at2, List.length_cons, List.length_nil, sizeLine_eq, Nat.reduceAdd, Nat.reduceLeDiff, true_and, Bool.not_true, Bool.not_false, Bool.false_eq_true, if_false, reduceIte, lk, List.set, whole_int, whole_bl, whole_tup, whole_non]
    refine take_row r (by omega) (by decide) fun k S1 k0 k1 r1 o1 => ?_
    try simp only [true_and, q_add, q_sub, q_mul, q_div, q_mod, q_pow, q_lt, q_le, q_gt, q_ge, q_eq, q_ne, q_is, q_isnt, q_isntB, q_isB, q_tb, q_ti, q_tn, q_tt, q_ixQ0, q_ixQ1, q_ixS0, q_ixS1, q_eqQ, q_neQ, q_eqSp, q_neSp, q_eqB, q_neB, q_ixT, q_lenT, q_abs, q_intI, q_intB, q_min2, q_max2, at0, at1, at2, List.length_cons, List.length_nil, sizeLine_eq, Nat.reduceAdd, Nat.reduceLeDiff, true_and, Bool.not_true, Bool.not_false, Bool.false_eq_true, if_false, reduceIte, lk, List.set, whole_int, whole_bl, whole_tup, whole_non]
    refine if_b (fun hk => ?_) fun hk => ?_
    · refine ⟨n + 1, r1, by omega, fun s S2 hs r2 o2 => ⟨n + 1 + 8, r2, by omega, fun t S3 ht r3 o3 => ⟨n + 1 + 8 + 8, r3, by omega, fun u S4 hu r4 o4 p np => ?_⟩⟩⟩
      have o := o1.trans (o2.trans (o3.trans o4))
      exact ret_now (h p s t u _ hs ht hu (rowed_none o r4 np) up_same ((r4.mono (by omega)).ne' np) (o.new np))
    · refine ⟨n + 1, r1, by omega, fun s S2 hs r2 o2 => ⟨n + 1 + 4, r2, by omega, fun t S3 ht r3 o3 => ⟨n + 1 + 4 + 4, r3, by omega, fun u S4 hu r4 o4 p np => ?_⟩⟩⟩
      have o := o1.trans (o2.trans (o3.trans o4))
      have nS := rowed_none o r4 np
      have dp := r4.ne np
      have oe := o.new (o := .lst true [dS s, dS t, dS u]) np
      have re := (r4.ne' (o := .lst true [dS s, dS t, dS u]) np).mono (m := n + 20) (by omega)
      have ep : (S4.up p (.lst true [dS s, dS t, dS u])) p = some (.lst true [dS s, dS t, dS u]) := up_same
      generalize S4.up p (.lst true [dS s, dS t, dS u]) = S5 at oe re ep
      have s6 : SzS 100 s := hs.mono (by decide)
      have t6 : SzS 100 t := ht.mono (by decide)
      have u6 : SzS 100 u := hu.mono (by decide)
      refine if_b (fun hk1 => ?_) fun hk1 => ?_
      · subst hk1
        try simp only [q_sl, ep, q_add, q_sub, q_mul, q_div, q_mod, q_pow, q_lt, q_le, q_gt, q_ge, q_eq, q_ne, q_is, q_isnt, q_isntB, q_isB, q_tb, q_ti, q_tn, q_tt, q_ixQ0, q_ixQ1, q_ixS0, q_ixS1, q_eqQ, q_neQ, q_eqSp, q_neSp, q_eqB, q_neB, q_ixT, q_lenT, q_abs, q_intI, q_intB, q_min2, q_max2, at0, at1, at2, List.length_cons, List.length_nil, sizeLine_eq, Nat.reduceAdd, Nat.reduceLeDiff, true_and, Bool.not_true, Bool.not_false, Bool.false_eq_true, if_false, reduceIte, lk, List.set, whole_int, whole_bl, whole_tup, whole_non]
        intro q nq
        have lq := up_ls (o := .lst true (cutD [dS s, dS t, dS u] none (some 2))) nq
        have dq := re.ne nq
        refine take_row (re.le lq) (by omega) (by decide) fun k2 S6 k20 k21 r6 o6 => ?_
        try simp only [true_and, q_add, q_sub, q_mul, q_div, q_mod, q_pow, q_lt, q_le, q_gt, q_ge, q_eq, q_ne, q_is, q_isnt, q_isntB, q_isB, q_tb, q_ti, q_tn, q_tt, q_ixQ0, q_ixQ1, q_ixS0, q_ixS1, q_eqQ, q_neQ, q_eqSp, q_neSp, q_eqB, q_neB, q_ixT, q_lenT, q_abs, q_intI, q_intB, q_min2, q_max2, at0, at1, at2, List.length_cons, List.length_nil, sizeLine_eq, Nat.reduceAdd, Nat.reduceLeDiff, true_and, Bool.not_true, Bool.not_false, Bool.false_eq_true, if_false, reduceIte, lk, List.set, whole_int, whole_bl, whole_tup, whole_non]
        refine take_row r6 (by omega) (by decide) fun k3 S7 k30 k31 r7 o7 => ?_
        try simp only [h69, a69, q_add, q_sub, q_mul, q_div, q_mod, q_pow, q_lt, q_le, q_gt, q_ge, q_eq, q_ne, q_is, q_isnt, q_isntB, q_isB, q_tb, q_ti, q_tn, q_tt, q_ixQ0, q_ixQ1, q_ixS0, q_ixS1, q_eqQ, q_neQ, q_eqSp, q_neSp, q_eqB, q_neB, q_ixT, q_lenT, q_abs, q_intI, q_intB, q_min2, q_max2, at0, at1, at2, List.length_cons, List.length_nil, sizeLine_eq, Nat.reduceAdd, Nat.reduceLeDiff, true_and, Bool.not_true, Bool.not_false, Bool.false_eq_true, if_false, reduceIte, lk, List.set, whole_int, whole_bl, whole_tup, whole_non]
        intro q2 nq2
        have lq2 := up_ls (o := .lst true [.int (1 + k2), .int k3]) nq2
        have e7 : S7 q = some (.lst true ([s, t].map dS)) := (o6.trans o7) _ _ dq up_same
        have zs : ∀ x ∈ [s, t], SzS 6 x := by
          simp only [List.forall_mem_cons, List.not_mem_nil, false_implies, implies_true, and_true]
          exact ⟨hs, ht⟩
        have zw : ∀ i ∈ [1 + k2, k3], Bd 3 i := by
          simp only [List.forall_mem_cons, List.not_mem_nil, false_implies, implies_true, and_true]
          exact ⟨by unfold Bd; omega, by unfold Bd; omega⟩
        refine ⟨true, true, [s, t], [1 + k2, k3], 6, 3, lq2 _ _ e7, up_same, by (first | decide | (simp only [List.length_append, List.length_cons, List.length_nil]; decide)), by (first | decide | (simp only [List.length_append, List.length_cons, List.length_nil]; decide)), by decide, by decide, zs, zw, by simp only [List.sum_cons, List.sum_nil]; omega, ?_⟩
        have hmid : SzS 100 (mid [s, t] [1 + k2, k3]) := (mid_sz (k := 2) (by decide) (by (first | decide | (simp only [List.length_append, List.length_cons, List.length_nil]; decide))) (by (first | decide | (simp only [List.length_append, List.length_cons, List.length_nil]; decide))) zs zw).mono (by decide)
        have ep7 : (S7.up q2 (.lst true [.int (1 + k2), .int k3])) p = some (.lst true [dS s, dS t, dS u]) := lq2 _ _ ((o6.trans o7) _ _ dp (lq _ _ ep))
        have r8 := r7.le lq2
        have o8 := oe.trans ((le_rowed lq).trans ((o6.trans o7).le lq2))
        try simp only [ep7, ixn2, q_add, q_sub, q_mul, q_div, q_mod, q_pow, q_lt, q_le, q_gt, q_ge, q_eq, q_ne, q_is, q_isnt, q_isntB, q_isB, q_tb, q_ti, q_tn, q_tt, q_ixQ0, q_ixQ1, q_ixS0, q_ixS1, q_eqQ, q_neQ, q_eqSp, q_neSp, q_eqB, q_neB, q_ixT, q_lenT, q_abs, q_intI, q_intB, q_min2, q_max2, at0, at1, at2, List.length_cons, List.length_nil, sizeLine_eq, Nat.reduceAdd, Nat.reduceLeDiff, true_and, Bool.not_true, Bool.not_false, Bool.false_eq_true, if_false, reduceIte, lk, List.set, whole_int, whole_bl, whole_tup, whole_non]
        simp only [show decide ((1 : Int) = 2) = false from rfl, q_tb, Bool.false_eq_true, if_false]
        exact ret_now (h p s t _ _ s6 t6 hmid nS up_same (by
          obtain ⟨c, m, e, m0, m1⟩ := r8
          exact ⟨c, m, by rw [up_oth dp]; exact e, m0, by omega⟩) (by
          intro b o hb e
          rw [up_oth (fun x => by rw [x, e] at nS; cases nS)]
          exact o8 b o hb e))
      · by_cases hk2 : k = 2
        · rw [decide_eq_true hk2]
          try simp only [true_and, q_add, q_sub, q_mul, q_div, q_mod, q_pow, q_lt, q_le, q_gt, q_ge, q_eq, q_ne, q_is, q_isnt, q_isntB, q_isB, q_tb, q_ti, q_tn, q_tt, q_ixQ0, q_ixQ1, q_ixS0, q_ixS1, q_eqQ, q_neQ, q_eqSp, q_neSp, q_eqB, q_neB, q_ixT, q_lenT, q_abs, q_intI, q_intB, q_min2, q_max2, at0, at1, at2, List.length_cons, List.length_nil, sizeLine_eq, Nat.reduceAdd, Nat.reduceLeDiff, true_and, Bool.not_true, Bool.not_false, Bool.false_eq_true, if_false, reduceIte, lk, List.set, whole_int, whole_bl, whole_tup, whole_non]
          refine take_row re (by omega) (by decide) fun k2 S6 k20 k21 r6 o6 => ?_
          have e6 : S6 p = some (.lst true [dS s, dS t, dS u]) := o6 _ _ dp ep
          try simp only [true_and, q_add, q_sub, q_mul, q_div, q_mod, q_pow, q_lt, q_le, q_gt, q_ge, q_eq, q_ne, q_is, q_isnt, q_isntB, q_isB, q_tb, q_ti, q_tn, q_tt, q_ixQ0, q_ixQ1, q_ixS0, q_ixS1, q_eqQ, q_neQ, q_eqSp, q_neSp, q_eqB, q_neB, q_ixT, q_lenT, q_abs, q_intI, q_intB, q_min2, q_max2, at0, at1, at2, List.length_cons, List.length_nil, sizeLine_eq, Nat.reduceAdd, Nat.reduceLeDiff, true_and, Bool.not_true, Bool.not_false, Bool.false_eq_true, if_false, reduceIte, lk, List.set, whole_int, whole_bl, whole_tup, whole_non]
          refine if_b (fun hz => ?_) fun hz => ?_
          · refine take_row r6 (by omega) (by decide) fun k3 S7 k30 k31 r7 o7 => ?_
            have e7 : S7 p = some (.lst true [dS s, dS t, dS u]) := o7 _ _ dp e6
            have hx : ∃ x : Spot, L2.atI [dS s, dS t, dS u] k3 = some (dS x) ∧ SzS 100 x := by
              have : k3 = 0 ∨ k3 = 1 ∨ k3 = 2 := by omega
              rcases this with rfl | rfl | rfl
              · exact ⟨s, at0, s6⟩
              · exact ⟨t, at1, t6⟩
              · exact ⟨u, at2, u6⟩
            obtain ⟨x, ex, hx⟩ := hx
            try simp only [q_ixL, e7, ex, q_add, q_sub, q_mul, q_div, q_mod, q_pow, q_lt, q_le, q_gt, q_ge, q_eq, q_ne, q_is, q_isnt, q_isntB, q_isB, q_tb, q_ti, q_tn, q_tt, q_ixQ0, q_ixQ1, q_ixS0, q_ixS1, q_eqQ, q_neQ, q_eqSp, q_neSp, q_eqB, q_neB, q_ixT, q_lenT, q_abs, q_intI, q_intB, q_min2, q_max2, at0, at1, at2, List.length_cons, List.length_nil, sizeLine_eq, Nat.reduceAdd, Nat.reduceLeDiff, true_and, Bool.not_true, Bool.not_false, Bool.false_eq_true, if_false, reduceIte, lk, List.set, whole_int, whole_bl, whole_tup, whole_non]
            refine take_row r7 (by omega) (by decide) fun k4 S8 k40 k41 r8 o8 => ?_
            have e8 : S8 p = some (.lst true [dS s, dS t, dS u]) := o8 _ _ dp e7
            obtain ⟨j, ej, hj⟩ := ixn3 k40 k41
            try simp only [e8, ej, q_add, q_sub, q_mul, q_div, q_mod, q_pow, q_lt, q_le, q_gt, q_ge, q_eq, q_ne, q_is, q_isnt, q_isntB, q_isB, q_tb, q_ti, q_tn, q_tt, q_ixQ0, q_ixQ1, q_ixS0, q_ixS1, q_eqQ, q_neQ, q_eqSp, q_neSp, q_eqB, q_neB, q_ixT, q_lenT, q_abs, q_intI, q_intB, q_min2, q_max2, at0, at1, at2, List.length_cons, List.length_nil, sizeLine_eq, Nat.reduceAdd, Nat.reduceLeDiff, true_and, Bool.not_true, Bool.not_false, Bool.false_eq_true, if_false, reduceIte, lk, List.set, whole_int, whole_bl, whole_tup, whole_non]
            have hfin : ∀ s' t' u' : Spot, SzS 100 s' → SzS 100 t' → SzS 100 u' → (retE P).rt (.ref p) (S8.up p (.lst true [dS s', dS t', dS u'])) := fun s' t' u' hs' ht' hu' => ret_now (h p s' t' u' _ hs' ht' hu' nS up_same (by
              obtain ⟨c, m, e, m0, m1⟩ := r8
              exact ⟨c, m, by rw [up_oth dp]; exact e, m0, by omega⟩) (by
              intro b o hb e
              rw [up_oth (fun x => by rw [x, e] at nS; cases nS)]
              exact (oe.trans (o6.trans (o7.trans o8))) b o hb e))
            match j, hj with
            | 0, _ => exact hfin x t u hx t6 u6
            | 1, _ => exact hfin s x u s6 hx u6
            | 2, _ => exact hfin s t x s6 t6 hx
          · exact ret_now (h p s t u _ s6 t6 u6 nS e6 (r6.mono (by omega)) (oe.trans o6))
        · rw [decide_eq_false hk2]
          try simp only [true_and, q_add, q_sub, q_mul, q_div, q_mod, q_pow, q_lt, q_le, q_gt, q_ge, q_eq, q_ne, q_is, q_isnt, q_isntB, q_isB, q_tb, q_ti, q_tn, q_tt, q_ixQ0, q_ixQ1, q_ixS0, q_ixS1, q_eqQ, q_neQ, q_eqSp, q_neSp, q_eqB, q_neB, q_ixT, q_lenT, q_abs, q_intI, q_intB, q_min2, q_max2, at0, at1, at2, List.length_cons, List.length_nil, sizeLine_eq, Nat.reduceAdd, Nat.reduceLeDiff, true_and, Bool.not_true, Bool.not_false, Bool.false_eq_true, if_false, reduceIte, lk, List.set, whole_int, whole_bl, whole_tup, whole_non]
          exact ret_now (h p s t u _ s6 t6 u6 nS ep (re.mono (by omega)) oe)
  · exact h.elim
/-- what the two numbers lead to -/
theorem leads_q {a b c s : Spot} (h : tw a b c ≠ 0) : a.1 + tw a s c / tw a b c * (b.1 - a.1) + tw a b s / tw a b c * (c.1 - a.1) = s.1 ∧ a.2 + tw a s c / tw a b c * (b.2 - a.2) + tw a b s / tw a b c * (c.2 - a.2) = s.2 := by
  have e1 : tw a s c = tw a s c / tw a b c * tw a b c := (Rat.div_mul_cancel h).symm
  have e2 : tw a b s = tw a b s / tw a b c * tw a b c := (Rat.div_mul_cancel h).symm
  generalize tw a s c / tw a b c = u at *
  generalize tw a b s / tw a b c = v at *
  unfold tw at *
  constructor
  · have : ((b.1 - a.1) * (c.2 - a.2) - (c.1 - a.1) * (b.2 - a.2)) * (a.1 + u * (b.1 - a.1) + v * (c.1 - a.1) - s.1) = 0 := by grind
    have := q_z h this
    grind
  · have : ((b.1 - a.1) * (c.2 - a.2) - (c.1 - a.1) * (b.2 - a.2)) * (a.2 + u * (b.2 - a.2) + v * (c.2 - a.2) - s.2) = 0 := by grind
    have := q_z h this
    grind
theorem leads_i {A C E X U V : Rat} (h : A + U * (C - A) + V * (E - A) = X) :
    (A.num * C.den * E.den * U.den * V.den + U.num * V.den * (C.num * A.den * E.den - A.num * C.den * E.den) + V.num * U.den * (E.num * A.den * C.den - A.num * C.den * E.den)) * (X.den : Int) = X.num * A.den * C.den * E.den * U.den * V.den := by
  have r : ∀ x : Rat, (x.num : Rat) = x * ((x.den : Int) : Rat) := fun x => by
    have := Rat.div_mul_cancel (a := (x.num : Rat)) (den_ne x)
    rw [← rat_eq x] at this
    exact this.symm
  apply Rat.intCast_inj.mp
  simp only [Rat.intCast_mul, Rat.intCast_add, Rat.intCast_sub]
  rw [r A, r C, r E, r X, r U, r V]
  grind
def c_law_leads : Con := fun ds S P _ => match ds with
  | [f, x, y] => ∃ a b c s u v, f = d3 a b c ∧ x = dS s ∧ y = .tup [dQ u, dQ v] ∧ SzS 100 a ∧ SzS 100 b ∧ SzS 100 c ∧ SzS 100 s ∧ Sz 2000 u ∧ Sz 2000 v ∧ a.1 + u * (b.1 - a.1) + v * (c.1 - a.1) = s.1 ∧ a.2 + u * (b.2 - a.2) + v * (c.2 - a.2) = s.2 ∧ P (.bl true) S
  | _ => False
theorem m_law_leads {Γ : Gam} (h8 : Γ.fn 8 = c_law_is_fracT) (a8 : Γ.ar 8 = 1) : Meets Γ 20 z_law_leads c_law_leads := by
  intro ds S P W h
  unfold c_law_leads at h
  split at h
  · obtain ⟨a, b, c, s, u, v, rfl, rfl, rfl, ha, hb, hc, hs, hu, hv, g1, g2, hp⟩ := h
    change wZs Γ z_law_leads (retE P) [some (d3 a b c), some (dS s), some (.tup [.tup [.int u.num, .int u.den], .tup [.int v.num, .int v.den]]), none, none, none, none, none, none, none, none, none, none, none, none, none, none, none, none, none] S (errW W)
    have fu : fracB (.tup [.int u.num, .int u.den]) = true := fracB_q.mpr ⟨u, rfl⟩
    have fv : fracB (.tup [.int v.num, .int v.den]) = true := fracB_q.mpr ⟨v, rfl⟩
    refine cut 2 (fun ρ S' => ρ = [some (d3 a b c), some (dS s), some (.tup [dQ u, dQ v]), some (.int u.num), some (.int u.den), some (.int v.num), some (.int v.den), none, none, none, none, none, none, none, none, none, none, none, none, none] ∧ S' = S) (fun G hG => ?_) ?_
    · dsimp only [z_law_leads]
      dsimp only [wZs, wZ, wE, wEs, wT, wTs, wI, lk, List.set, aTru, partS, List.take, List.drop]
      have e2 : decide (((2 : Nat) : Int) = 2) = true := rfl
      try simp only [isi_tup, e2, h8, a8, c_law_is_fracT, fu, fv, q_add, q_sub, q_mul, q_div, q_mod, q_pow, q_lt, q_le, q_gt, q_ge, q_eq, q_ne, q_is, q_isnt, q_isntB, q_isB, q_tb, q_ti, q_tn, q_tt, q_ixQ0, q_ixQ1, q_ixS0, q_ixS1, q_eqQ, q_neQ, q_eqSp, q_neSp, q_eqB, q_neB, q_ixT, q_lenT, q_abs, q_intI, q_intB, q_min2, q_max2, at0, at1, at2, List.length_cons, List.length_nil, sizeLine_eq, Nat.reduceAdd, Nat.reduceLeDiff, true_and, Bool.not_true, Bool.not_false, Bool.false_eq_true, if_false, reduceIte, lk, List.set, whole_int, whole_bl, whole_tup, whole_non]
      exact ⟨wf_q (hu.mono (by decide)), wf_q (hv.mono (by decide)), hG _ _ ⟨rfl, rfl⟩⟩
    rintro ρ S1 ⟨rfl, rfl⟩
    dsimp only [z_law_leads, List.drop]
    refine cut 1 (fun ρ S' => S' = S1) (fun G hG => ?_) ?_
    · dsimp only [List.take]
      rw [wZs_one, wZ_for, wI_r1]
      refine ⟨by decide, ?_⟩
      refine for_inv (src := .free) (fun ρ S' => (∃ x7 x8 x9 x10 x11 x12 x13 x14 x15 x16 x17 x18 x19, ρ = [some (d3 a b c), some (dS s), some (.tup [dQ u, dQ v]), some (.int u.num), some (.int u.den), some (.int v.num), some (.int v.den), x7, x8, x9, x10, x11, x12, x13, x14, x15, x16, x17, x18, x19]) ∧ S' = S1) (fun _ _ _ => trivial) (fun ρ S' h => hG ρ S' h.2) (fun F d ρ S' hd h hF => ?_) ⟨⟨_, _, _, _, _, _, _, _, _, _, _, _, _, rfl⟩, rfl⟩
      obtain ⟨⟨x7, x8, x9, x10, x11, x12, x13, x14, x15, x16, x17, x18, x19, rfl⟩, rfl⟩ := h
      have hd' : d ∈ [D.int 0, D.int 1] := hd
      have hj : ∃ (j : Int) (f : Spot → Rat), d = .int j ∧ (∀ (s : Spot) (T : Sto) (P : PD), ixS (dS s) (.int j) T P = P (dQ (f s)) T) ∧ (∀ s, SzS 100 s → Sz 100 (f s)) ∧ f a + u * (f b - f a) + v * (f c - f a) = f s := by
        simp only [List.mem_cons, List.not_mem_nil, or_false] at hd'
        rcases hd' with rfl | rfl
        · exact ⟨0, (·.1), rfl, fun _ _ _ => q_ixS0, fun s hs => hs.1, g1⟩
        · exact ⟨1, (·.2), rfl, fun _ _ _ => q_ixS1, fun s hs => hs.2, g2⟩
      obtain ⟨j, f, rfl, hix, hzf, hg⟩ := hj
      have A := (hzf a ha).bd; have C := (hzf b hb).bd; have E := (hzf c hc).bd; have X := (hzf s hs).bd; have U := hu.bd; have V := hv.bd
      have hH : Bd 300 ((f a).num * (f b).den * (f c).den) := ((A.1.mul C.2).mul E.2).mono (by decide)
      have key := leads_i hg
      dsimp only [wZs, wZ, wE, wEs, wT, wTs, wI, lk, List.set, aTru, partS, List.take, List.drop]
      try simp only [d3, hix, dQ, q_add, q_sub, q_mul, q_div, q_mod, q_pow, q_lt, q_le, q_gt, q_ge, q_eq, q_ne, q_is, q_isnt, q_isntB, q_isB, q_tb, q_ti, q_tn, q_tt, q_ixQ0, q_ixQ1, q_ixS0, q_ixS1, q_eqQ, q_neQ, q_eqSp, q_neSp, q_eqB, q_neB, q_ixT, q_lenT, q_abs, q_intI, q_intB, q_min2, q_max2, at0, at1, at2, List.length_cons, List.length_nil, sizeLine_eq, Nat.reduceAdd, Nat.reduceLeDiff, true_and, Bool.not_true, Bool.not_false, Bool.false_eq_true, if_false, reduceIte, lk, List.set, whole_int, whole_bl, whole_tup, whole_non]
      have cb : Bd 200 ((f b).num * (f a).den) := C.1.mul A.2
      have ea' : Bd 200 ((f c).num * (f a).den) := E.1.mul A.2
      have uv : Bd 4000 (u.num * v.den) := U.1.mul V.2
      have vu : Bd 4000 (v.num * u.den) := V.1.mul U.2
      have along : Bd 4400 (u.num * v.den * ((f b).num * (f a).den * (f c).den - (f a).num * (f b).den * (f c).den)) := (uv.mul ((cb.mul E.2).sub hH)).mono (by decide)
      have up : Bd 4400 (v.num * u.den * ((f c).num * (f a).den * (f b).den - (f a).num * (f b).den * (f c).den)) := (vu.mul ((ea'.mul C.2).sub hH)).mono (by decide)
      have hr : Bd 2300 ((f a).num * (f b).den * (f c).den * u.den) := hH.mul U.2
      have hrs : Bd 4300 ((f a).num * (f b).den * (f c).den * u.den * v.den) := hr.mul V.2
      have w1 : Bd 4401 ((f a).num * (f b).den * (f c).den * u.den * v.den + u.num * v.den * ((f b).num * (f a).den * (f c).den - (f a).num * (f b).den * (f c).den)) := (hrs.mono (by decide)).add along
      have w2 : Bd 4402 ((f a).num * (f b).den * (f c).den * u.den * v.den + u.num * v.den * ((f b).num * (f a).den * (f c).den - (f a).num * (f b).den * (f c).den) + v.num * u.den * ((f c).num * (f a).den * (f b).den - (f a).num * (f b).den * (f c).den)) := w1.add (up.mono (by decide))
      have p1 : Bd 200 ((f s).num * (f a).den) := X.1.mul A.2
      have p2 : Bd 300 ((f s).num * (f a).den * (f b).den) := p1.mul C.2
      have p3 : Bd 400 ((f s).num * (f a).den * (f b).den * (f c).den) := p2.mul E.2
      have p4 : Bd 2400 ((f s).num * (f a).den * (f b).den * (f c).den * u.den) := p3.mul U.2
      refine ⟨A.1.ok C.2 (by decide), (A.1.mul C.2).ok E.2 (by decide), U.1.ok V.2 (by decide), C.1.ok A.2 (by decide), cb.ok E.2 (by decide), uv.ok ((cb.mul E.2).sub hH) (by decide), V.1.ok U.2 (by decide), E.1.ok A.2 (by decide), ea'.ok C.2 (by decide), vu.ok ((ea'.mul C.2).sub hH) (by decide), hH.ok U.2 (by decide), hr.ok V.2 (by decide), w2.ok X.2 (by decide), X.1.ok A.2 (by decide), p1.ok C.2 (by decide), p2.ok E.2 (by decide), p3.ok U.2 (by decide), p4.ok V.2 (by decide), ?_⟩
      rw [key, decide_eq_true rfl]
      try simp only [true_and, q_add, q_sub, q_mul, q_div, q_mod, q_pow, q_lt, q_le, q_gt, q_ge, q_eq, q_ne, q_is, q_isnt, q_isntB, q_isB, q_tb, q_ti, q_tn, q_tt, q_ixQ0, q_ixQ1, q_ixS0, q_ixS1, q_eqQ, q_neQ, q_eqSp, q_neSp, q_eqB, q_neB, q_ixT, q_lenT, q_abs, q_intI, q_intB, q_min2, q_max2, at0, at1, at2, List.length_cons, List.length_nil, sizeLine_eq, Nat.reduceAdd, Nat.reduceLeDiff, true_and, Bool.not_true, Bool.not_false, Bool.false_eq_true, if_false, reduceIte, lk, List.set, whole_int, whole_bl, whole_tup, whole_non]
      exact hF _ _ ⟨⟨_, _, _, _, _, _, _, _, _, _, _, _, _, rfl⟩, rfl⟩
    rintro ρ S2 rfl
    dsimp only [wZs, wZ, wE, wEs, wT, wTs, wI, lk, List.set, aTru, partS, List.take, List.drop]
    exact ret_now hp
  · exact h.elim
end Sd
namespace Sd
open PySem
theorem ixn_last {n : Nat} : L2.ixN (n + 1) (-1) = some n := by
  unfold L2.ixN
  simp only [Int.reduceNeg, Int.neg_nonneg, Int.reduceLE, if_false, reduceIte]
  have : ¬ ((0 : Int) ≤ -1) := by decide
  try rw [if_neg this]
  try rw [if_pos (by omega)]
  congr 1
  try omega
/-- _law_part(row, prime, times) of k24 -/
def c_law_part_2 : Con := fun ds S P _ => match ds with
  | [.ref a, .int p, .int t] => ∃ n, Row S a n ∧ n < 2 ^ 45 ∧ (2 ≤ p ∧ p < 100) ∧ (-8 ≤ t ∧ t ≤ 8) ∧ ∀ x S', Sz 120 x → Row S' a (n + 5) → Rowed S S' a → P (dQ x) S'
  | _ => False
theorem m_law_part_2 {Γ : Gam} (h0 : Γ.fn 0 = c_law_take_2) (a0 : Γ.ar 0 = 2) (h10 : Γ.fn 10 = c_law_frac) (a10 : Γ.ar 10 = 1) (h4 : Γ.fn 4 = c_law_lowest) (a4 : Γ.ar 4 = 2) : Meets Γ 6 z_law_part_2 c_law_part_2 := by
  intro ds S P W h
  unfold c_law_part_2 at h
  split at h
  · rename_i a p t
    obtain ⟨n, r, hn, hp, ht, h⟩ := h
    have bp : Bd 7 p := by unfold Bd; omega
    change wZs Γ z_law_part_2 (retE P) [some (.ref a), some (.int p), some (.int t), none, none, none] S (errW W)
    refine cut 2 (fun ρ S' => ∃ u v, ρ = [some (.ref a), some (.int p), some (.int t), some (.int u), some (.int v), none] ∧ Row S' a (n + 3) ∧ Rowed S S' a ∧ Bd 5 u ∧ 0 < v ∧ Bd 4 v) (fun G hG => ?_) ?_
    · dsimp only [z_law_part_2]
      dsimp only [wZs, wZ, wE, wEs, wT, wTs, wI, lk, List.set, aTru, partS, List.take, List.drop]
      try simp only [h0, a0, h10, a10, q_add, q_sub, q_mul, q_div, q_mod, q_pow, q_lt, q_le, q_gt, q_ge, q_eq, q_ne, q_is, q_isnt, q_isntB, q_isB, q_tb, q_ti, q_tn, q_tt, q_ixQ0, q_ixQ1, q_ixS0, q_ixS1, q_eqQ, q_neQ, q_eqSp, q_neSp, q_eqB, q_neB, q_ixT, q_lenT, q_abs, q_intI, q_intB, q_min2, q_max2, at0, at1, at2, List.length_cons, List.length_nil, sizeLine_eq, Nat.reduceAdd, Nat.reduceLeDiff, true_and, Bool.not_true, Bool.not_false, Bool.false_eq_true, if_false, reduceIte, lk, List.set, whole_int, whole_bl, whole_tup, whole_non]
      refine take_row r (by omega) (by decide) fun k S1 k0 k1 r1 o1 => ?_
      try simp only [true_and, q_add, q_sub, q_mul, q_div, q_mod, q_pow, q_lt, q_le, q_gt, q_ge, q_eq, q_ne, q_is, q_isnt, q_isntB, q_isB, q_tb, q_ti, q_tn, q_tt, q_ixQ0, q_ixQ1, q_ixS0, q_ixS1, q_eqQ, q_neQ, q_eqSp, q_neSp, q_eqB, q_neB, q_ixT, q_lenT, q_abs, q_intI, q_intB, q_min2, q_max2, at0, at1, at2, List.length_cons, List.length_nil, sizeLine_eq, Nat.reduceAdd, Nat.reduceLeDiff, true_and, Bool.not_true, Bool.not_false, Bool.false_eq_true, if_false, reduceIte, lk, List.set, whole_int, whole_bl, whole_tup, whole_non]
      refine if_b (fun hk => ?_) fun hk => ?_
      · exact frac_row r1 (by omega) fun x S2 hx r2 o2 => ret_now (h x S2 (hx.mono (by decide)) (r2.mono (by omega)) (o1.trans o2))
      · refine take_row r1 (by omega) (by decide) fun k2 S2 k20 k21 r2 o2 => ?_
        try simp only [true_and, q_add, q_sub, q_mul, q_div, q_mod, q_pow, q_lt, q_le, q_gt, q_ge, q_eq, q_ne, q_is, q_isnt, q_isntB, q_isB, q_tb, q_ti, q_tn, q_tt, q_ixQ0, q_ixQ1, q_ixS0, q_ixS1, q_eqQ, q_neQ, q_eqSp, q_neSp, q_eqB, q_neB, q_ixT, q_lenT, q_abs, q_intI, q_intB, q_min2, q_max2, at0, at1, at2, List.length_cons, List.length_nil, sizeLine_eq, Nat.reduceAdd, Nat.reduceLeDiff, true_and, Bool.not_true, Bool.not_false, Bool.false_eq_true, if_false, reduceIte, lk, List.set, whole_int, whole_bl, whole_tup, whole_non]
        refine take_row r2 (by omega) (by decide) fun k3 S3 k30 k31 r3 o3 => ?_
        try simp only [true_and, q_add, q_sub, q_mul, q_div, q_mod, q_pow, q_lt, q_le, q_gt, q_ge, q_eq, q_ne, q_is, q_isnt, q_isntB, q_isB, q_tb, q_ti, q_tn, q_tt, q_ixQ0, q_ixQ1, q_ixS0, q_ixS1, q_eqQ, q_neQ, q_eqSp, q_neSp, q_eqB, q_neB, q_ixT, q_lenT, q_abs, q_intI, q_intB, q_min2, q_max2, at0, at1, at2, List.length_cons, List.length_nil, sizeLine_eq, Nat.reduceAdd, Nat.reduceLeDiff, true_and, Bool.not_true, Bool.not_false, Bool.false_eq_true, if_false, reduceIte, lk, List.set, whole_int, whole_bl, whole_tup, whole_non]
        exact hG _ _ ⟨_, _, rfl, r3.mono (by omega), o1.trans (o2.trans o3), by unfold Bd; omega, by omega, by unfold Bd; omega⟩
    rintro ρ S1 ⟨u, v, rfl, r1, o1, bu, hv, bv⟩
    dsimp only [z_law_part_2, List.drop]
    refine cut 1 (fun ρ S' => ∃ u' x5, ρ = [some (.ref a), some (.int p), some (.int t), some (.int u'), some (.int v), x5] ∧ S' = S1 ∧ Bd 61 u') (fun G hG => ?_) ?_
    · dsimp only [wZs, wZ, wE, wEs, wT, wTs, wI, lk, List.set, aTru, partS, List.take, List.drop]
      try simp only [true_and, q_add, q_sub, q_mul, q_div, q_mod, q_pow, q_lt, q_le, q_gt, q_ge, q_eq, q_ne, q_is, q_isnt, q_isntB, q_isB, q_tb, q_ti, q_tn, q_tt, q_ixQ0, q_ixQ1, q_ixS0, q_ixS1, q_eqQ, q_neQ, q_eqSp, q_neSp, q_eqB, q_neB, q_ixT, q_lenT, q_abs, q_intI, q_intB, q_min2, q_max2, at0, at1, at2, List.length_cons, List.length_nil, sizeLine_eq, Nat.reduceAdd, Nat.reduceLeDiff, true_and, Bool.not_true, Bool.not_false, Bool.false_eq_true, if_false, reduceIte, lk, List.set, whole_int, whole_bl, whole_tup, whole_non]
      refine ⟨by omega, for_ind (src := .free) (fun rr ρ S' => ∃ u' x5 k, ρ = [some (.ref a), some (.int p), some (.int t), some (.int u'), some (.int v), x5] ∧ S' = S1 ∧ Bd (5 + 7 * k) u' ∧ k + rr.length ≤ 8) (fun _ _ _ _ => trivial) ?_ ?_ ⟨u, none, 0, rfl, rfl, bu, by simp [rngItems]; omega⟩⟩
      · rintro ρ S' ⟨u', x5, k, rfl, rfl, hu, hk⟩
        exact hG _ _ ⟨u', x5, rfl, rfl, hu.mono (by simp at hk; omega)⟩
      · rintro F d rr ρ S' ⟨u', x5, k, rfl, rfl, hu, hk⟩ hF
        have hk' : k + (rr.length + 1) ≤ 8 := hk
        try simp only [true_and, q_add, q_sub, q_mul, q_div, q_mod, q_pow, q_lt, q_le, q_gt, q_ge, q_eq, q_ne, q_is, q_isnt, q_isntB, q_isB, q_tb, q_ti, q_tn, q_tt, q_ixQ0, q_ixQ1, q_ixS0, q_ixS1, q_eqQ, q_neQ, q_eqSp, q_neSp, q_eqB, q_neB, q_ixT, q_lenT, q_abs, q_intI, q_intB, q_min2, q_max2, at0, at1, at2, List.length_cons, List.length_nil, sizeLine_eq, Nat.reduceAdd, Nat.reduceLeDiff, true_and, Bool.not_true, Bool.not_false, Bool.false_eq_true, if_false, reduceIte, lk, List.set, whole_int, whole_bl, whole_tup, whole_non]
        exact ⟨hu.ok bp (by omega), hF _ _ ⟨_, _, k + 1, rfl, rfl, (hu.mul bp).mono (by omega), by omega⟩⟩
    rintro ρ S2 ⟨u', x5, rfl, rfl, bu'⟩
    dsimp only [List.drop]
    refine cut 1 (fun ρ S' => ∃ v' x5, ρ = [some (.ref a), some (.int p), some (.int t), some (.int u'), some (.int v'), x5] ∧ S' = S2 ∧ Bd 61 v' ∧ 0 < v') (fun G hG => ?_) ?_
    · dsimp only [wZs, wZ, wE, wEs, wT, wTs, wI, lk, List.set, aTru, partS, List.take, List.drop]
      try simp only [true_and, q_add, q_sub, q_mul, q_div, q_mod, q_pow, q_lt, q_le, q_gt, q_ge, q_eq, q_ne, q_is, q_isnt, q_isntB, q_isB, q_tb, q_ti, q_tn, q_tt, q_ixQ0, q_ixQ1, q_ixS0, q_ixS1, q_eqQ, q_neQ, q_eqSp, q_neSp, q_eqB, q_neB, q_ixT, q_lenT, q_abs, q_intI, q_intB, q_min2, q_max2, at0, at1, at2, List.length_cons, List.length_nil, sizeLine_eq, Nat.reduceAdd, Nat.reduceLeDiff, true_and, Bool.not_true, Bool.not_false, Bool.false_eq_true, if_false, reduceIte, lk, List.set, whole_int, whole_bl, whole_tup, whole_non]
      refine ⟨by omega, for_ind (src := .free) (fun rr ρ S' => ∃ v' x5 k, ρ = [some (.ref a), some (.int p), some (.int t), some (.int u'), some (.int v'), x5] ∧ S' = S2 ∧ Bd (5 + 7 * k) v' ∧ 0 < v' ∧ k + rr.length ≤ 8) (fun _ _ _ _ => trivial) ?_ ?_ ⟨v, x5, 0, rfl, rfl, bv.mono (by decide), hv, by simp [rngItems]; omega⟩⟩
      · rintro ρ S' ⟨v', x5, k, rfl, rfl, hu, h0, hk⟩
        exact hG _ _ ⟨v', x5, rfl, rfl, hu.mono (by simp at hk; omega), h0⟩
      · rintro F d rr ρ S' ⟨v', x5, k, rfl, rfl, hu, h0, hk⟩ hF
        have hk' : k + (rr.length + 1) ≤ 8 := hk
        try simp only [true_and, q_add, q_sub, q_mul, q_div, q_mod, q_pow, q_lt, q_le, q_gt, q_ge, q_eq, q_ne, q_is, q_isnt, q_isntB, q_isB, q_tb, q_ti, q_tn, q_tt, q_ixQ0, q_ixQ1, q_ixS0, q_ixS1, q_eqQ, q_neQ, q_eqSp, q_neSp, q_eqB, q_neB, q_ixT, q_lenT, q_abs, q_intI, q_intB, q_min2, q_max2, at0, at1, at2, List.length_cons, List.length_nil, sizeLine_eq, Nat.reduceAdd, Nat.reduceLeDiff, true_and, Bool.not_true, Bool.not_false, Bool.false_eq_true, if_false, reduceIte, lk, List.set, whole_int, whole_bl, whole_tup, whole_non]
        exact ⟨hu.ok bp (by omega), hF _ _ ⟨_, _, k + 1, rfl, rfl, (hu.mul bp).mono (by omega), Int.mul_pos h0 (by omega), by omega⟩⟩
    rintro ρ S3 ⟨v', x5, rfl, rfl, bv', hv'⟩
    dsimp only [wZs, wZ, wE, wEs, wT, wTs, wI, lk, List.set, aTru, partS, List.take, List.drop]
    try simp only [h4, a4, q_add, q_sub, q_mul, q_div, q_mod, q_pow, q_lt, q_le, q_gt, q_ge, q_eq, q_ne, q_is, q_isnt, q_isntB, q_isB, q_tb, q_ti, q_tn, q_tt, q_ixQ0, q_ixQ1, q_ixS0, q_ixS1, q_eqQ, q_neQ, q_eqSp, q_neSp, q_eqB, q_neB, q_ixT, q_lenT, q_abs, q_intI, q_intB, q_min2, q_max2, at0, at1, at2, List.length_cons, List.length_nil, sizeLine_eq, Nat.reduceAdd, Nat.reduceLeDiff, true_and, Bool.not_true, Bool.not_false, Bool.false_eq_true, if_false, reduceIte, lk, List.set, whole_int, whole_bl, whole_tup, whole_non]
    exact lowest_q (by omega) (bv'.lt9 (by decide)) (ret_now (h _ _ ((sz_div (n := 61) (by omega) bu' bv').mono (by decide)) (r1.mono (by omega)) o1))
  · exact h.elim
theorem col_law {p : Int} (hp : p ∈ primesL) {x y : Rat} {n : Nat} (hn : n ≤ 1000000) (hx : Sz n x) (hy : Sz n y) (i j : Int) (hi : i = if x = 0 then 1000000000 else vq p x) (hj : j = if y = 0 then 1000000000 else vq p y) :
    (0 < i ∧ 0 < j → col p x y = 0) ∧ (¬ (0 < i ∧ 0 < j) → col p x y = 1 + (if j < i then 1 else 0)) := by
  unfold col
  by_cases h1 : x = 0 <;> by_cases h2 : y = 0
  · simp only [h1, h2, if_true] at hi hj ⊢
    simp
    omega
  · have b2 := vq_small hp h2 hy
    simp only [h1, h2, if_true, if_false] at hi hj ⊢
    constructor
    · intro z
      rw [if_pos ⟨.inl trivial, .inr (by omega)⟩]
    · intro z
      rw [if_neg (fun w => z ⟨by omega, by have := w.2.resolve_left (fun e => e); omega⟩), if_neg (fun w => w.1 rfl), if_pos (by omega)]
      rfl
  · have b1 := vq_small hp h1 hx
    simp only [h1, h2, if_true, if_false] at hi hj ⊢
    constructor
    · intro z
      rw [if_pos ⟨.inr (by omega), .inl trivial⟩]
    · intro z
      rw [if_neg (fun w => z ⟨by have := w.1.resolve_left (fun e => e); omega, by omega⟩), if_pos ⟨h1, .inl trivial⟩, if_neg (by omega)]
      rfl
  · simp only [h1, h2, if_true, if_false] at hi hj ⊢
    constructor
    · intro z
      rw [if_pos ⟨.inr (by omega), .inr (by omega)⟩]
    · intro z
      rw [if_neg (fun w => z ⟨by have := w.1.resolve_left (fun e => e); omega, by have := w.2.resolve_left (fun e => e); omega⟩)]
      by_cases hle : vq p x ≤ vq p y
      · rw [if_pos ⟨h1, .inr hle⟩, if_neg (by omega)]; rfl
      · rw [if_neg (fun w => hle (w.2.resolve_left (fun e => e))), if_pos (by omega)]; rfl
def c_law_colour : Con := fun ds S P W => match ds with
  | [u, v, .int p] => ∃ x y, u = dQ x ∧ v = dQ y ∧ p ∈ primesL ∧ Sz 1000000 x ∧ Sz 1000000 y ∧ P (.int (col p x y)) S
  | _ => False
theorem m_law_colour {Γ : Gam} (h29 : Γ.fn 29 = c_law_power) (a29 : Γ.ar 29 = 3) : Meets Γ 5 z_law_colour c_law_colour := by
  intro ds S P W h
  unfold c_law_colour at h
  split at h
  · rename_i u v p
    obtain ⟨x, y, rfl, rfl, hp, hx, hy, h⟩ := h
    change wZs Γ z_law_colour (retE P) [some (dQ x), some (dQ y), some (.int p), none, none] S (errW W)
    refine cut 2 (fun ρ S' => ∃ q x4, S q = none ∧ ρ = [some (dQ x), some (dQ y), some (.int p), some (.ref q), x4] ∧ Sto.le S S' ∧ S' q = some (.lst true ([if x = 0 then 1000000000 else vq p x, if y = 0 then 1000000000 else vq p y].map D.int))) (fun G hG => ?_) ?_
    · dsimp only [z_law_colour]
      dsimp only [wZs, wZ, wE, wEs, wT, wTs, wI, lk, List.set, aTru, partS, List.take, List.drop]
      try simp only [true_and, q_add, q_sub, q_mul, q_div, q_mod, q_pow, q_lt, q_le, q_gt, q_ge, q_eq, q_ne, q_is, q_isnt, q_isntB, q_isB, q_tb, q_ti, q_tn, q_tt, q_ixQ0, q_ixQ1, q_ixS0, q_ixS1, q_eqQ, q_neQ, q_eqSp, q_neSp, q_eqB, q_neB, q_ixT, q_lenT, q_abs, q_intI, q_intB, q_min2, q_max2, at0, at1, at2, List.length_cons, List.length_nil, sizeLine_eq, Nat.reduceAdd, Nat.reduceLeDiff, true_and, Bool.not_true, Bool.not_false, Bool.false_eq_true, if_false, reduceIte, lk, List.set, whole_int, whole_bl, whole_tup, whole_non]
      intro q nq
      have p9 : L2.CPow 10 9 := ⟨by decide, by decide, by decide⟩
      have e9 : (10 : Int) ^ Int.toNat 9 = 1000000000 := by decide
      have l0 := up_ls (o := .lst true []) nq
      refine for_ind (src := .free) (fun rr ρ S' => ∃ (done rest : List Rat) (x4 : Option D), [x, y] = done ++ rest ∧ rr = rest.map dQ ∧ ρ = [some (dQ x), some (dQ y), some (.int p), some (.ref q), x4] ∧ Sto.le S S' ∧ S' q = some (.lst true ((done.map fun z => if z = 0 then 1000000000 else vq p z).map D.int))) (fun _ _ _ _ => trivial) ?_ ?_ ⟨[], [x, y], none, rfl, rfl, rfl, l0, up_same⟩
      · rintro ρ S' ⟨done, rest, x4, hd, hr, rfl, l, e⟩
        have : rest = [] := by
          cases rest with
          | nil => rfl
          | cons _ _ => cases hr
        subst this
        rw [List.append_nil] at hd
        subst hd
        exact hG _ _ ⟨q, x4, nq, rfl, l, e⟩
      · rintro F d rr ρ S' ⟨done, rest, x4, hd, hr, rfl, l, e⟩ hF
        cases rest with
        | nil => cases hr
        | cons z rest =>
          simp only [List.map_cons, List.cons.injEq] at hr
          obtain ⟨rfl, rfl⟩ := hr
          have hlen : done.length + (rest.length + 1) = 2 := by
            have := congrArg List.length hd
            simp at this
            omega
          have fin : ∀ S2, S2 q = some (.lst true ((done.map fun z => if z = 0 then 1000000000 else vq p z).map D.int ++ [.int (if z = 0 then 1000000000 else vq p z)])) → Sto.le S S2 → F [some (dQ x), some (dQ y), some (.int p), some (.ref q), some (dQ z)] S2 := fun S2 e2 l2 => hF _ _ ⟨done ++ [z], rest, _, by rw [hd]; simp, rfl, rfl, l2, by rw [e2]; simp⟩
          have leup : ∀ {o}, Sto.le S (S'.up q o) := fun {o} b u hb => by
            rw [up_oth (fun x => by rw [x, hb] at nq; cases nq)]
            exact l _ _ hb
          try simp only [q_isL, e, q_append, e9, q_add, q_sub, q_mul, q_div, q_mod, q_pow, q_lt, q_le, q_gt, q_ge, q_eq, q_ne, q_is, q_isnt, q_isntB, q_isB, q_tb, q_ti, q_tn, q_tt, q_ixQ0, q_ixQ1, q_ixS0, q_ixS1, q_eqQ, q_neQ, q_eqSp, q_neSp, q_eqB, q_neB, q_ixT, q_lenT, q_abs, q_intI, q_intB, q_min2, q_max2, at0, at1, at2, List.length_cons, List.length_nil, sizeLine_eq, Nat.reduceAdd, Nat.reduceLeDiff, true_and, Bool.not_true, Bool.not_false, Bool.false_eq_true, if_false, reduceIte, lk, List.set, whole_int, whole_bl, whole_tup, whole_non]
          refine ⟨p9, by simp only [List.length_map]; omega, if_nb (fun hz => ?_) fun hz => ?_⟩
          · have hz' : z ≠ 0 := fun w => hz (Rat.num_eq_zero.mpr w)
            try simp only [h29, a29, q_add, q_sub, q_mul, q_div, q_mod, q_pow, q_lt, q_le, q_gt, q_ge, q_eq, q_ne, q_is, q_isnt, q_isntB, q_isB, q_tb, q_ti, q_tn, q_tt, q_ixQ0, q_ixQ1, q_ixS0, q_ixS1, q_eqQ, q_neQ, q_eqSp, q_neSp, q_eqB, q_neB, q_ixT, q_lenT, q_abs, q_intI, q_intB, q_min2, q_max2, at0, at1, at2, List.length_cons, List.length_nil, sizeLine_eq, Nat.reduceAdd, Nat.reduceLeDiff, true_and, Bool.not_true, Bool.not_false, Bool.false_eq_true, if_false, reduceIte, lk, List.set, whole_int, whole_bl, whole_tup, whole_non]
            refine law_power_q hp hz' ?_
            try simp only [up_same, upup, List.length_append, ixn_last, q_add, q_sub, q_mul, q_div, q_mod, q_pow, q_lt, q_le, q_gt, q_ge, q_eq, q_ne, q_is, q_isnt, q_isntB, q_isB, q_tb, q_ti, q_tn, q_tt, q_ixQ0, q_ixQ1, q_ixS0, q_ixS1, q_eqQ, q_neQ, q_eqSp, q_neSp, q_eqB, q_neB, q_ixT, q_lenT, q_abs, q_intI, q_intB, q_min2, q_max2, at0, at1, at2, List.length_cons, List.length_nil, sizeLine_eq, Nat.reduceAdd, Nat.reduceLeDiff, true_and, Bool.not_true, Bool.not_false, Bool.false_eq_true, if_false, reduceIte, lk, List.set, whole_int, whole_bl, whole_tup, whole_non]
            refine fin _ ?_ leup
            rw [up_same, if_neg hz']
            simp
          · have hz' : z = 0 := Rat.num_eq_zero.mp hz
            refine fin _ ?_ leup
            rw [up_same, if_pos hz']
    rintro ρ S1 ⟨q, x4, nq, rfl, l, e⟩
    obtain ⟨c1, c2⟩ := col_law hp (by decide) hx hy _ _ rfl rfl
    generalize (if x = 0 then (1000000000 : Int) else vq p x) = i at *
    generalize (if y = 0 then (1000000000 : Int) else vq p y) = j at *
    dsimp only [z_law_colour]
    dsimp only [wZs, wZ, wE, wEs, wT, wTs, wI, lk, List.set, aTru, partS, List.take, List.drop]
    try simp only [true_and, q_add, q_sub, q_mul, q_div, q_mod, q_pow, q_lt, q_le, q_gt, q_ge, q_eq, q_ne, q_is, q_isnt, q_isntB, q_isB, q_tb, q_ti, q_tn, q_tt, q_ixQ0, q_ixQ1, q_ixS0, q_ixS1, q_eqQ, q_neQ, q_eqSp, q_neSp, q_eqB, q_neB, q_ixT, q_lenT, q_abs, q_intI, q_intB, q_min2, q_max2, at0, at1, at2, List.length_cons, List.length_nil, sizeLine_eq, Nat.reduceAdd, Nat.reduceLeDiff, true_and, Bool.not_true, Bool.not_false, Bool.false_eq_true, if_false, reduceIte, lk, List.set, whole_int, whole_bl, whole_tup, whole_non]
    refine q_min1 e (by (first | decide | (simp only [List.length_append, List.length_cons, List.length_nil]; decide))) fun m hm hle => ?_
    simp only [List.mem_cons, List.not_mem_nil, or_false, forall_eq_or_imp, forall_eq] at hm hle
    try simp only [q_ixL, e, List.map, q_add, q_sub, q_mul, q_div, q_mod, q_pow, q_lt, q_le, q_gt, q_ge, q_eq, q_ne, q_is, q_isnt, q_isntB, q_isB, q_tb, q_ti, q_tn, q_tt, q_ixQ0, q_ixQ1, q_ixS0, q_ixS1, q_eqQ, q_neQ, q_eqSp, q_neSp, q_eqB, q_neB, q_ixT, q_lenT, q_abs, q_intI, q_intB, q_min2, q_max2, at0, at1, at2, List.length_cons, List.length_nil, sizeLine_eq, Nat.reduceAdd, Nat.reduceLeDiff, true_and, Bool.not_true, Bool.not_false, Bool.false_eq_true, if_false, reduceIte, lk, List.set, whole_int, whole_bl, whole_tup, whole_non]
    refine if_b (fun h0 => ?_) fun h0 => ?_
    · rw [c1 (by omega)] at h
      exact ret_le l h
    · rw [c2 (by omega)] at h
      simp only [decide_eq_true_eq]
      exact ret_le l h
  · exact h.elim
def c_law_refused_4 : Con := fun ds S P _ => match ds with
  | [u, v, d] => ∃ x y, u = dQ x ∧ v = dQ y ∧ Kd S d ∧ primeD d = false ∧ P (.bl true) S
  | _ => False
theorem m_law_refused_4 {Γ : Gam} (h54 : Γ.fn 54 = c_colour_of) (a54 : Γ.ar 54 = 3) : Meets Γ 5 z_law_refused_4 c_law_refused_4 := by
  intro ds S P W h
  unfold c_law_refused_4 at h
  split at h
  · rename_i u v d
    obtain ⟨x, y, rfl, rfl, hk, hd, hp⟩ := h
    change wZs Γ z_law_refused_4 (retE P) [some (dQ x), some (dQ y), some d, none, none] S (errW W)
    dsimp only [z_law_refused_4]
    dsimp only [wZs, wZ, wE, wEs, wT, wTs, wI, lk, List.set, aTru, partS, List.take, List.drop]
    try simp only [h54, a54, q_add, q_sub, q_mul, q_div, q_mod, q_pow, q_lt, q_le, q_gt, q_ge, q_eq, q_ne, q_is, q_isnt, q_isntB, q_isB, q_tb, q_ti, q_tn, q_tt, q_ixQ0, q_ixQ1, q_ixS0, q_ixS1, q_eqQ, q_neQ, q_eqSp, q_neSp, q_eqB, q_neB, q_ixT, q_lenT, q_abs, q_intI, q_intB, q_min2, q_max2, at0, at1, at2, List.length_cons, List.length_nil, sizeLine_eq, Nat.reduceAdd, Nat.reduceLeDiff, true_and, Bool.not_true, Bool.not_false, Bool.false_eq_true, if_false, reduceIte, lk, List.set, whole_int, whole_bl, whole_tup, whole_non]
    refine ⟨x, y, rfl, rfl, hk, fun _ => ?_, fun p e hm => ?_⟩
    · simp only [show subK 2 0 = true from rfl, if_true]
      intro e he
      simp only [isiAny, isiOne, btOf, up_same]
      exact ret_le (up_ls he) hp
    · subst e
      rw [show primeD (.int p) = true from decide_eq_true hm] at hd
      cases hd
  · exact h.elim
end Sd
namespace Sd
open PySem
noncomputable def abv (p : Int) (x : Rat) : Int := if x = 0 then 1000000000 else vq p x
def c_law_above : Con := fun ds S P W => match ds with
  | [u, .int p] => ∃ x, u = dQ x ∧ p ∈ primesL ∧ P (.int (abv p x)) S
  | _ => False
theorem m_law_above {Γ : Gam} (h29 : Γ.fn 29 = c_law_power) (a29 : Γ.ar 29 = 3) : Meets Γ 2 z_law_above c_law_above := by
  intro ds S P W h
  unfold c_law_above at h
  split at h
  · rename_i u p
    obtain ⟨x, rfl, hp, h⟩ := h
    change wZs Γ z_law_above (retE P) [some (dQ x), some (.int p)] S (errW W)
    have p9 : L2.CPow 10 9 := ⟨by decide, by decide, by decide⟩
    have e9 : (10 : Int) ^ Int.toNat 9 = 1000000000 := by decide
    dsimp only [z_law_above]
    dsimp only [wZs, wZ, wE, wEs, wT, wTs, wI, lk, List.set, aTru, partS, List.take, List.drop]
    try simp only [h29, a29, e9, q_add, q_sub, q_mul, q_div, q_mod, q_pow, q_lt, q_le, q_gt, q_ge, q_eq, q_ne, q_is, q_isnt, q_isntB, q_isB, q_tb, q_ti, q_tn, q_tt, q_ixQ0, q_ixQ1, q_ixS0, q_ixS1, q_eqQ, q_neQ, q_eqSp, q_neSp, q_eqB, q_neB, q_ixT, q_lenT, q_abs, q_intI, q_intB, q_min2, q_max2, at0, at1, at2, List.length_cons, List.length_nil, sizeLine_eq, Nat.reduceAdd, Nat.reduceLeDiff, true_and, Bool.not_true, Bool.not_false, Bool.false_eq_true, if_false, reduceIte, lk, List.set, whole_int, whole_bl, whole_tup, whole_non]
    unfold abv at h
    refine if_b (fun hz => ?_) fun hz => ?_
    · rw [if_pos (Rat.num_eq_zero.mp hz)] at h
      exact ⟨p9, ret_now h⟩
    · have hz' : x ≠ 0 := fun w => hz (Rat.num_eq_zero.mpr w)
      rw [if_neg hz'] at h
      exact law_power_q hp hz' (ret_now h)
  · exact h.elim
abbrev c_law_colour_2 : Con := c_law_colour
theorem m_law_colour_2 {Γ : Gam} (h64 : Γ.fn 64 = c_law_above) (a64 : Γ.ar 64 = 2) : Meets Γ 5 z_law_colour_2 c_law_colour_2 := by
  intro ds S P W h
  unfold c_law_colour_2 c_law_colour at h
  split at h
  · rename_i u v p
    obtain ⟨x, y, rfl, rfl, hp, hx, hy, h⟩ := h
    change wZs Γ z_law_colour_2 (retE P) [some (dQ x), some (dQ y), some (.int p), none, none] S (errW W)
    dsimp only [z_law_colour_2]
    dsimp only [wZs, wZ, wE, wEs, wT, wTs, wI, lk, List.set, aTru, partS, List.take, List.drop]
    try simp only [h64, a64, q_add, q_sub, q_mul, q_div, q_mod, q_pow, q_lt, q_le, q_gt, q_ge, q_eq, q_ne, q_is, q_isnt, q_isntB, q_isB, q_tb, q_ti, q_tn, q_tt, q_ixQ0, q_ixQ1, q_ixS0, q_ixS1, q_eqQ, q_neQ, q_eqSp, q_neSp, q_eqB, q_neB, q_ixT, q_lenT, q_abs, q_intI, q_intB, q_min2, q_max2, at0, at1, at2, List.length_cons, List.length_nil, sizeLine_eq, Nat.reduceAdd, Nat.reduceLeDiff, true_and, Bool.not_true, Bool.not_false, Bool.false_eq_true, if_false, reduceIte, lk, List.set, whole_int, whole_bl, whole_tup, whole_non]
    refine ⟨x, rfl, hp, y, rfl, hp, ?_⟩
    obtain ⟨c1, c2⟩ := col_law hp (by decide) hx hy _ _ rfl rfl
    unfold abv
    generalize (if x = 0 then (1000000000 : Int) else vq p x) = i at *
    generalize (if y = 0 then (1000000000 : Int) else vq p y) = j at *
    try simp only [true_and, q_add, q_sub, q_mul, q_div, q_mod, q_pow, q_lt, q_le, q_gt, q_ge, q_eq, q_ne, q_is, q_isnt, q_isntB, q_isB, q_tb, q_ti, q_tn, q_tt, q_ixQ0, q_ixQ1, q_ixS0, q_ixS1, q_eqQ, q_neQ, q_eqSp, q_neSp, q_eqB, q_neB, q_ixT, q_lenT, q_abs, q_intI, q_intB, q_min2, q_max2, at0, at1, at2, List.length_cons, List.length_nil, sizeLine_eq, Nat.reduceAdd, Nat.reduceLeDiff, true_and, Bool.not_true, Bool.not_false, Bool.false_eq_true, if_false, reduceIte, lk, List.set, whole_int, whole_bl, whole_tup, whole_non]
    by_cases h1 : 0 < i
    · simp only [decide_eq_true h1]
      refine if_b (fun h2 => ?_) fun h2 => ?_
      · rw [c1 ⟨h1, h2⟩] at h
        exact ret_now h
      · rw [c2 (fun z => h2 z.2)] at h
        simp only [decide_eq_true_eq]
        exact ret_now h
    · simp only [decide_eq_false h1, q_tb, Bool.false_eq_true, if_false]
      rw [c2 (fun z => h1 z.1)] at h
      simp only [decide_eq_true_eq]
      exact ret_now h
  · exact h.elim
/-- what the law is told -/
def c_law_asked : Con := fun ds S P _ => match ds with
  | [f, d, x] => ∃ a b c s, f = d3 a b c ∧ x = dS s ∧ SzS 490 a ∧ SzS 490 b ∧ SzS 490 c ∧ SzS 490 s ∧ Kd S d ∧ (tw a b c = 0 → P (.tup [.str "frame", .non]) S) ∧ (tw a b c ≠ 0 → primeD d = false → P (.tup [.str "prime", .non]) S) ∧ ∀ p, tw a b c ≠ 0 → d = .int p → p ∈ primesL → P (.tup [.str "told", .int (colF p a b c s)]) S
  | _ => False
theorem m_law_asked {Γ : Gam} (h59 : Γ.fn 59 = c_colour_by) (a59 : Γ.ar 59 = 3) (h5 : Γ.fn 5 = c_law_whole) (a5 : Γ.ar 5 = 1) : Meets Γ 7 z_law_asked c_law_asked := by
  intro ds S P W h
  unfold c_law_asked at h
  split at h
  · rename_i f d x
    obtain ⟨a, b, c, s, rfl, rfl, ha, hb, hc, hs, hk, h1, h2, h3⟩ := h
    change wZs Γ z_law_asked (retE P) [some (d3 a b c), some d, some (dS s), none, none, none, none] S (errW W)
    dsimp only [z_law_asked]
    dsimp only [wZs, wZ, wE, wEs, wT, wTs, wI, lk, List.set, aTru, partS, List.take, List.drop]
    try simp only [h59, a59, h5, a5, q_add, q_sub, q_mul, q_div, q_mod, q_pow, q_lt, q_le, q_gt, q_ge, q_eq, q_ne, q_is, q_isnt, q_isntB, q_isB, q_tb, q_ti, q_tn, q_tt, q_ixQ0, q_ixQ1, q_ixS0, q_ixS1, q_eqQ, q_neQ, q_eqSp, q_neSp, q_eqB, q_neB, q_ixT, q_lenT, q_abs, q_intI, q_intB, q_min2, q_max2, at0, at1, at2, List.length_cons, List.length_nil, sizeLine_eq, Nat.reduceAdd, Nat.reduceLeDiff, true_and, Bool.not_true, Bool.not_false, Bool.false_eq_true, if_false, reduceIte, lk, List.set, whole_int, whole_bl, whole_tup, whole_non]
    refine ⟨a, b, c, s, rfl, rfl, ha, hb, hc, hs, hk, fun z => ?_, fun z w => ?_, fun p z ep hp => ?_⟩
    · simp only [show subK 6 0 = true from rfl, if_true]
      intro e he
      try simp only [isNo, isiAny, isiOne, btOf, up_same, show subK 6 1 = false from rfl, show subK 6 6 = true from rfl, show subK 6 2 = false from rfl, beq_self_eq_true, q_add, q_sub, q_mul, q_div, q_mod, q_pow, q_lt, q_le, q_gt, q_ge, q_eq, q_ne, q_is, q_isnt, q_isntB, q_isB, q_tb, q_ti, q_tn, q_tt, q_ixQ0, q_ixQ1, q_ixS0, q_ixS1, q_eqQ, q_neQ, q_eqSp, q_neSp, q_eqB, q_neB, q_ixT, q_lenT, q_abs, q_intI, q_intB, q_min2, q_max2, at0, at1, at2, List.length_cons, List.length_nil, sizeLine_eq, Nat.reduceAdd, Nat.reduceLeDiff, true_and, Bool.not_true, Bool.not_false, Bool.false_eq_true, if_false, reduceIte, lk, List.set, whole_int, whole_bl, whole_tup, whole_non]
      refine ⟨mul_okL (by decide), fun q nq => ?_⟩
      try simp only [q_ixL, up_same, q_add, q_sub, q_mul, q_div, q_mod, q_pow, q_lt, q_le, q_gt, q_ge, q_eq, q_ne, q_is, q_isnt, q_isntB, q_isB, q_tb, q_ti, q_tn, q_tt, q_ixQ0, q_ixQ1, q_ixS0, q_ixS1, q_eqQ, q_neQ, q_eqSp, q_neSp, q_eqB, q_neB, q_ixT, q_lenT, q_abs, q_intI, q_intB, q_min2, q_max2, at0, at1, at2, List.length_cons, List.length_nil, sizeLine_eq, Nat.reduceAdd, Nat.reduceLeDiff, true_and, Bool.not_true, Bool.not_false, Bool.false_eq_true, if_false, reduceIte, lk, List.set, whole_int, whole_bl, whole_tup, whole_non]
      exact ret_le ((up_ls he).trans (up_ls nq)) (h1 z)
    · simp only [show subK 2 0 = true from rfl, if_true]
      intro e he
      try simp only [isNo, isiAny, isiOne, btOf, up_same, show subK 2 1 = false from rfl, show subK 2 6 = false from rfl, show subK 2 2 = true from rfl, beq_self_eq_true, q_add, q_sub, q_mul, q_div, q_mod, q_pow, q_lt, q_le, q_gt, q_ge, q_eq, q_ne, q_is, q_isnt, q_isntB, q_isB, q_tb, q_ti, q_tn, q_tt, q_ixQ0, q_ixQ1, q_ixS0, q_ixS1, q_eqQ, q_neQ, q_eqSp, q_neSp, q_eqB, q_neB, q_ixT, q_lenT, q_abs, q_intI, q_intB, q_min2, q_max2, at0, at1, at2, List.length_cons, List.length_nil, sizeLine_eq, Nat.reduceAdd, Nat.reduceLeDiff, true_and, Bool.not_true, Bool.not_false, Bool.false_eq_true, if_false, reduceIte, lk, List.set, whole_int, whole_bl, whole_tup, whole_non]
      refine ⟨mul_okL (by decide), fun q nq => ?_⟩
      try simp only [q_ixL, up_same, q_add, q_sub, q_mul, q_div, q_mod, q_pow, q_lt, q_le, q_gt, q_ge, q_eq, q_ne, q_is, q_isnt, q_isntB, q_isB, q_tb, q_ti, q_tn, q_tt, q_ixQ0, q_ixQ1, q_ixS0, q_ixS1, q_eqQ, q_neQ, q_eqSp, q_neSp, q_eqB, q_neB, q_ixT, q_lenT, q_abs, q_intI, q_intB, q_min2, q_max2, at0, at1, at2, List.length_cons, List.length_nil, sizeLine_eq, Nat.reduceAdd, Nat.reduceLeDiff, true_and, Bool.not_true, Bool.not_false, Bool.false_eq_true, if_false, reduceIte, lk, List.set, whole_int, whole_bl, whole_tup, whole_non]
      exact ret_le ((up_ls he).trans (up_ls nq)) (h2 z w)
    · try simp only [isNo, q_add, q_sub, q_mul, q_div, q_mod, q_pow, q_lt, q_le, q_gt, q_ge, q_eq, q_ne, q_is, q_isnt, q_isntB, q_isB, q_tb, q_ti, q_tn, q_tt, q_ixQ0, q_ixQ1, q_ixS0, q_ixS1, q_eqQ, q_neQ, q_eqSp, q_neSp, q_eqB, q_neB, q_ixT, q_lenT, q_abs, q_intI, q_intB, q_min2, q_max2, at0, at1, at2, List.length_cons, List.length_nil, sizeLine_eq, Nat.reduceAdd, Nat.reduceLeDiff, true_and, Bool.not_true, Bool.not_false, Bool.false_eq_true, if_false, reduceIte, lk, List.set, whole_int, whole_bl, whole_tup, whole_non]
      exact ret_now (h3 p z ep hp)
  · exact h.elim
end Sd
namespace Sd
open PySem
def c_law_by_prime : Con := fun ds S P _ => match ds with
  | [.ref a, .int p] => ∃ n, Row S a n ∧ n < 2 ^ 45 ∧ (2 ≤ p ∧ p < 100) ∧ ∀ s S', SzS 30 s → Row S' a (n + 6) → Rowed S S' a → P (dS s) S'
  | _ => False
theorem m_law_by_prime {Γ : Gam} (h0 : Γ.fn 0 = c_law_take_2) (a0 : Γ.ar 0 = 2) (h4 : Γ.fn 4 = c_law_lowest) (a4 : Γ.ar 4 = 2) : Meets Γ 8 z_law_by_prime c_law_by_prime := by
  intro ds S P W h
  unfold c_law_by_prime at h
  split at h
  · rename_i a p
    obtain ⟨n, r, hn, hp, h⟩ := h
    have bp : Bd 7 p := by unfold Bd; omega
    change wZs Γ z_law_by_prime (retE P) [some (.ref a), some (.int p), none, none, none, none, none, none] S (errW W)
    refine cut 2 (fun ρ S' => ∃ q x3 x4 x5 x6 x7 s, ρ = [some (.ref a), some (.int p), some (.ref q), x3, x4, x5, x6, x7] ∧ S' q = some (.lst true [dQ s.1, dQ s.2]) ∧ SzS 30 s ∧ Row S' a (n + 6) ∧ Rowed S S' a) (fun G hG => ?_) ?_
    · dsimp only [z_law_by_prime, List.take]
      refine cut 1 (fun ρ S' => ∃ q, S q = none ∧ ρ = [some (.ref a), some (.int p), some (.ref q), none, none, none, none, none] ∧ S' = S.up q (.lst true [])) (fun G' hG' => ?_) ?_
      · dsimp only [wZs, wZ, wE, wEs, wT, wTs, wI, lk, List.set, aTru, partS, List.take, List.drop]
        try simp only [true_and, q_add, q_sub, q_mul, q_div, q_mod, q_pow, q_lt, q_le, q_gt, q_ge, q_eq, q_ne, q_is, q_isnt, q_isntB, q_isB, q_tb, q_ti, q_tn, q_tt, q_ixQ0, q_ixQ1, q_ixS0, q_ixS1, q_eqQ, q_neQ, q_eqSp, q_neSp, q_eqB, q_neB, q_ixT, q_lenT, q_abs, q_intI, q_intB, q_min2, q_max2, at0, at1, at2, List.length_cons, List.length_nil, sizeLine_eq, Nat.reduceAdd, Nat.reduceLeDiff, true_and, Bool.not_true, Bool.not_false, Bool.false_eq_true, if_false, reduceIte, lk, List.set, whole_int, whole_bl, whole_tup, whole_non]
        exact fun q nq => hG' _ _ ⟨q, nq, rfl, rfl⟩
      rintro ρ S1 ⟨q, nq, rfl, rfl⟩
      have dq := r.ne nq
      have l0 := up_ls (o := .lst true []) nq
      dsimp only [List.drop]
      rw [wZs_one, wZ_for, wI_r1]
      refine ⟨by decide, for_ind (src := .free) (fun rr ρ S' => ∃ (l : List Rat) (x3 x4 x5 x6 x7 : Option D), rr.length + l.length = 2 ∧ (∀ x ∈ l, Sz 30 x) ∧ ρ = [some (.ref a), some (.int p), some (.ref q), x3, x4, x5, x6, x7] ∧ S' q = some (.lst true (l.map dQ)) ∧ Row S' a (n + 3 * l.length) ∧ Rowed S S' a) (fun _ _ _ _ => trivial) ?_ ?_ ⟨[], _, _, _, _, _, rfl, by simp, rfl, up_same, by simpa using r.le l0, le_rowed l0⟩⟩
      · rintro ρ S' ⟨l, x3, x4, x5, x6, x7, hl, hz, rfl, e1, r1, o1⟩
        match l, hl with
        | [x, y], _ => exact hG _ _ ⟨q, _, _, _, _, _, (x, y), rfl, e1, ⟨hz x (by simp), hz y (by simp)⟩, r1.mono (by simp), o1⟩
      · rintro F d rr ρ S1 ⟨l, x3, x4, x5, x6, x7, hl, hz, rfl, e1, r1, o1⟩ hF
        have hl' : rr.length + 1 + l.length = 2 := hl
        dsimp only [wT, List.set]
        refine cut 2 (fun ρ S' => ∃ u v t x7, ρ = [some (.ref a), some (.int p), some (.ref q), some d, some (.int u), some (.int v), some (.int t), x7] ∧ Row S' a (n + 3 * l.length + 3) ∧ Rowed S1 S' a ∧ Bd 4 u ∧ 0 < v ∧ Bd 3 v ∧ -3 ≤ t ∧ t ≤ 3) (fun G hG => ?_) ?_
        · dsimp only [wZs, wZ, wE, wEs, wT, wTs, wI, lk, List.set, aTru, partS, List.take, List.drop]
          try simp only [h0, a0, q_add, q_sub, q_mul, q_div, q_mod, q_pow, q_lt, q_le, q_gt, q_ge, q_eq, q_ne, q_is, q_isnt, q_isntB, q_isB, q_tb, q_ti, q_tn, q_tt, q_ixQ0, q_ixQ1, q_ixS0, q_ixS1, q_eqQ, q_neQ, q_eqSp, q_neSp, q_eqB, q_neB, q_ixT, q_lenT, q_abs, q_intI, q_intB, q_min2, q_max2, at0, at1, at2, List.length_cons, List.length_nil, sizeLine_eq, Nat.reduceAdd, Nat.reduceLeDiff, true_and, Bool.not_true, Bool.not_false, Bool.false_eq_true, if_false, reduceIte, lk, List.set, whole_int, whole_bl, whole_tup, whole_non]
          refine take_row r1 (by omega) (by decide) fun k S2 k0 k1 r2 o2 => ?_
          try simp only [true_and, q_add, q_sub, q_mul, q_div, q_mod, q_pow, q_lt, q_le, q_gt, q_ge, q_eq, q_ne, q_is, q_isnt, q_isntB, q_isB, q_tb, q_ti, q_tn, q_tt, q_ixQ0, q_ixQ1, q_ixS0, q_ixS1, q_eqQ, q_neQ, q_eqSp, q_neSp, q_eqB, q_neB, q_ixT, q_lenT, q_abs, q_intI, q_intB, q_min2, q_max2, at0, at1, at2, List.length_cons, List.length_nil, sizeLine_eq, Nat.reduceAdd, Nat.reduceLeDiff, true_and, Bool.not_true, Bool.not_false, Bool.false_eq_true, if_false, reduceIte, lk, List.set, whole_int, whole_bl, whole_tup, whole_non]
          refine take_row r2 (by omega) (by decide) fun k' S3 k0' k1' r3 o3 => ?_
          try simp only [true_and, q_add, q_sub, q_mul, q_div, q_mod, q_pow, q_lt, q_le, q_gt, q_ge, q_eq, q_ne, q_is, q_isnt, q_isntB, q_isB, q_tb, q_ti, q_tn, q_tt, q_ixQ0, q_ixQ1, q_ixS0, q_ixS1, q_eqQ, q_neQ, q_eqSp, q_neSp, q_eqB, q_neB, q_ixT, q_lenT, q_abs, q_intI, q_intB, q_min2, q_max2, at0, at1, at2, List.length_cons, List.length_nil, sizeLine_eq, Nat.reduceAdd, Nat.reduceLeDiff, true_and, Bool.not_true, Bool.not_false, Bool.false_eq_true, if_false, reduceIte, lk, List.set, whole_int, whole_bl, whole_tup, whole_non]
          refine take_row r3 (by omega) (by decide) fun k2 S4 k20 k21 r4 o4 => ?_
          try simp only [true_and, q_add, q_sub, q_mul, q_div, q_mod, q_pow, q_lt, q_le, q_gt, q_ge, q_eq, q_ne, q_is, q_isnt, q_isntB, q_isB, q_tb, q_ti, q_tn, q_tt, q_ixQ0, q_ixQ1, q_ixS0, q_ixS1, q_eqQ, q_neQ, q_eqSp, q_neSp, q_eqB, q_neB, q_ixT, q_lenT, q_abs, q_intI, q_intB, q_min2, q_max2, at0, at1, at2, List.length_cons, List.length_nil, sizeLine_eq, Nat.reduceAdd, Nat.reduceLeDiff, true_and, Bool.not_true, Bool.not_false, Bool.false_eq_true, if_false, reduceIte, lk, List.set, whole_int, whole_bl, whole_tup, whole_non]
          exact hG _ _ ⟨_, _, _, _, rfl, r4.mono (by omega), o2.trans (o3.trans o4), by unfold Bd; omega, by omega, by unfold Bd; omega, by omega, by omega⟩
        rintro ρ S2 ⟨u, v, t, y7, rfl, r2, o2, bu, hv, bv, t0, t1⟩
        dsimp only [List.drop]
        refine cut 1 (fun ρ S' => ∃ u' y7, ρ = [some (.ref a), some (.int p), some (.ref q), some d, some (.int u'), some (.int v), some (.int t), y7] ∧ S' = S2 ∧ Bd 29 u') (fun G hG => ?_) ?_
        · dsimp only [wZs, wZ, wE, wEs, wT, wTs, wI, lk, List.set, aTru, partS, List.take, List.drop]
          try simp only [true_and, q_add, q_sub, q_mul, q_div, q_mod, q_pow, q_lt, q_le, q_gt, q_ge, q_eq, q_ne, q_is, q_isnt, q_isntB, q_isB, q_tb, q_ti, q_tn, q_tt, q_ixQ0, q_ixQ1, q_ixS0, q_ixS1, q_eqQ, q_neQ, q_eqSp, q_neSp, q_eqB, q_neB, q_ixT, q_lenT, q_abs, q_intI, q_intB, q_min2, q_max2, at0, at1, at2, List.length_cons, List.length_nil, sizeLine_eq, Nat.reduceAdd, Nat.reduceLeDiff, true_and, Bool.not_true, Bool.not_false, Bool.false_eq_true, if_false, reduceIte, lk, List.set, whole_int, whole_bl, whole_tup, whole_non]
          refine ⟨by omega, for_ind (src := .free) (fun rr ρ S' => ∃ u' y7 k, ρ = [some (.ref a), some (.int p), some (.ref q), some d, some (.int u'), some (.int v), some (.int t), y7] ∧ S' = S2 ∧ Bd (4 + 7 * k) u' ∧ k + rr.length ≤ 3) (fun _ _ _ _ => trivial) ?_ ?_ ⟨u, _, 0, rfl, rfl, bu, by simp [rngItems]; omega⟩⟩
          · rintro ρ S' ⟨u', x5, k, rfl, rfl, hu, hk⟩
            exact hG _ _ ⟨u', x5, rfl, rfl, hu.mono (by simp at hk; omega)⟩
          · rintro F d rr ρ S' ⟨u', x5, k, rfl, rfl, hu, hk⟩ hF
            have hk' : k + (rr.length + 1) ≤ 3 := hk
            try simp only [true_and, q_add, q_sub, q_mul, q_div, q_mod, q_pow, q_lt, q_le, q_gt, q_ge, q_eq, q_ne, q_is, q_isnt, q_isntB, q_isB, q_tb, q_ti, q_tn, q_tt, q_ixQ0, q_ixQ1, q_ixS0, q_ixS1, q_eqQ, q_neQ, q_eqSp, q_neSp, q_eqB, q_neB, q_ixT, q_lenT, q_abs, q_intI, q_intB, q_min2, q_max2, at0, at1, at2, List.length_cons, List.length_nil, sizeLine_eq, Nat.reduceAdd, Nat.reduceLeDiff, true_and, Bool.not_true, Bool.not_false, Bool.false_eq_true, if_false, reduceIte, lk, List.set, whole_int, whole_bl, whole_tup, whole_non]
            exact ⟨hu.ok bp (by omega), hF _ _ ⟨_, _, k + 1, rfl, rfl, (hu.mul bp).mono (by omega), by omega⟩⟩
        rintro ρ S3 ⟨u', z7, rfl, rfl, bu'⟩
        dsimp only [List.drop]
        refine cut 1 (fun ρ S' => ∃ v' y7, ρ = [some (.ref a), some (.int p), some (.ref q), some d, some (.int u'), some (.int v'), some (.int t), y7] ∧ S' = S3 ∧ Bd 29 v' ∧ 0 < v') (fun G hG => ?_) ?_
        · dsimp only [wZs, wZ, wE, wEs, wT, wTs, wI, lk, List.set, aTru, partS, List.take, List.drop]
          try simp only [true_and, q_add, q_sub, q_mul, q_div, q_mod, q_pow, q_lt, q_le, q_gt, q_ge, q_eq, q_ne, q_is, q_isnt, q_isntB, q_isB, q_tb, q_ti, q_tn, q_tt, q_ixQ0, q_ixQ1, q_ixS0, q_ixS1, q_eqQ, q_neQ, q_eqSp, q_neSp, q_eqB, q_neB, q_ixT, q_lenT, q_abs, q_intI, q_intB, q_min2, q_max2, at0, at1, at2, List.length_cons, List.length_nil, sizeLine_eq, Nat.reduceAdd, Nat.reduceLeDiff, true_and, Bool.not_true, Bool.not_false, Bool.false_eq_true, if_false, reduceIte, lk, List.set, whole_int, whole_bl, whole_tup, whole_non]
          refine ⟨by omega, for_ind (src := .free) (fun rr ρ S' => ∃ v' y7 k, ρ = [some (.ref a), some (.int p), some (.ref q), some d, some (.int u'), some (.int v'), some (.int t), y7] ∧ S' = S3 ∧ Bd (4 + 7 * k) v' ∧ 0 < v' ∧ k + rr.length ≤ 3) (fun _ _ _ _ => trivial) ?_ ?_ ⟨v, _, 0, rfl, rfl, bv.mono (by decide), hv, by simp [rngItems]; omega⟩⟩
          · rintro ρ S' ⟨v', x5, k, rfl, rfl, hu, h0, hk⟩
            exact hG _ _ ⟨v', x5, rfl, rfl, hu.mono (by simp at hk; omega), h0⟩
          · rintro F d rr ρ S' ⟨v', x5, k, rfl, rfl, hu, h0, hk⟩ hF
            have hk' : k + (rr.length + 1) ≤ 3 := hk
            try simp only [true_and, q_add, q_sub, q_mul, q_div, q_mod, q_pow, q_lt, q_le, q_gt, q_ge, q_eq, q_ne, q_is, q_isnt, q_isntB, q_isB, q_tb, q_ti, q_tn, q_tt, q_ixQ0, q_ixQ1, q_ixS0, q_ixS1, q_eqQ, q_neQ, q_eqSp, q_neSp, q_eqB, q_neB, q_ixT, q_lenT, q_abs, q_intI, q_intB, q_min2, q_max2, at0, at1, at2, List.length_cons, List.length_nil, sizeLine_eq, Nat.reduceAdd, Nat.reduceLeDiff, true_and, Bool.not_true, Bool.not_false, Bool.false_eq_true, if_false, reduceIte, lk, List.set, whole_int, whole_bl, whole_tup, whole_non]
            exact ⟨hu.ok bp (by omega), hF _ _ ⟨_, _, k + 1, rfl, rfl, (hu.mul bp).mono (by omega), Int.mul_pos h0 (by omega), by omega⟩⟩
        rintro ρ S4 ⟨v', w7, rfl, rfl, bv', hv'⟩
        have e2 := o2 _ _ dq e1
        dsimp only [wZs, wZ, wE, wEs, wT, wTs, wI, lk, List.set, aTru, partS, List.take, List.drop]
        try simp only [h4, a4, q_isL, e2, q_add, q_sub, q_mul, q_div, q_mod, q_pow, q_lt, q_le, q_gt, q_ge, q_eq, q_ne, q_is, q_isnt, q_isntB, q_isB, q_tb, q_ti, q_tn, q_tt, q_ixQ0, q_ixQ1, q_ixS0, q_ixS1, q_eqQ, q_neQ, q_eqSp, q_neSp, q_eqB, q_neB, q_ixT, q_lenT, q_abs, q_intI, q_intB, q_min2, q_max2, at0, at1, at2, List.length_cons, List.length_nil, sizeLine_eq, Nat.reduceAdd, Nat.reduceLeDiff, true_and, Bool.not_true, Bool.not_false, Bool.false_eq_true, if_false, reduceIte, lk, List.set, whole_int, whole_bl, whole_tup, whole_non]
        refine lowest_q (by omega) (bv'.lt9 (by decide)) ?_
        try simp only [q_append, e2, q_add, q_sub, q_mul, q_div, q_mod, q_pow, q_lt, q_le, q_gt, q_ge, q_eq, q_ne, q_is, q_isnt, q_isntB, q_isB, q_tb, q_ti, q_tn, q_tt, q_ixQ0, q_ixQ1, q_ixS0, q_ixS1, q_eqQ, q_neQ, q_eqSp, q_neSp, q_eqB, q_neB, q_ixT, q_lenT, q_abs, q_intI, q_intB, q_min2, q_max2, at0, at1, at2, List.length_cons, List.length_nil, sizeLine_eq, Nat.reduceAdd, Nat.reduceLeDiff, true_and, Bool.not_true, Bool.not_false, Bool.false_eq_true, if_false, reduceIte, lk, List.set, whole_int, whole_bl, whole_tup, whole_non]
        refine ⟨by rw [List.length_map]; omega, hF _ _ ⟨l ++ [(u' : Rat) / (v' : Rat)], _, _, _, _, _, by rw [List.length_append]; simp only [List.length_cons, List.length_nil]; omega, ?_, rfl, by rw [up_same, List.map_append]; rfl, ?_, ?_⟩⟩
        · intro x hx
          rcases List.mem_append.mp hx with z | z
          · exact hz x z
          · rw [List.mem_singleton.mp z]
            exact (sz_div (n := 29) (by omega) bu' bv').mono (by decide)
        · obtain ⟨c, i, e, i0, i1⟩ := r2
          exact ⟨c, i, by rw [up_oth dq]; exact e, i0, by rw [List.length_append]; simp only [List.length_cons, List.length_nil]; omega⟩
        · intro b o hb e
          rw [up_oth (fun x => by rw [x, e] at nq; cases nq)]
          exact (o1.trans o2) b o hb e
    rintro ρ S1 ⟨q, x3, x4, x5, x6, x7, s, rfl, e1, hs, r1, o1⟩
    dsimp only [z_law_by_prime]
    dsimp only [wZs, wZ, wE, wEs, wT, wTs, wI, lk, List.set, aTru, partS, List.take, List.drop]
    try simp only [q_ixL, e1, q_add, q_sub, q_mul, q_div, q_mod, q_pow, q_lt, q_le, q_gt, q_ge, q_eq, q_ne, q_is, q_isnt, q_isntB, q_isB, q_tb, q_ti, q_tn, q_tt, q_ixQ0, q_ixQ1, q_ixS0, q_ixS1, q_eqQ, q_neQ, q_eqSp, q_neSp, q_eqB, q_neB, q_ixT, q_lenT, q_abs, q_intI, q_intB, q_min2, q_max2, at0, at1, at2, List.length_cons, List.length_nil, sizeLine_eq, Nat.reduceAdd, Nat.reduceLeDiff, true_and, Bool.not_true, Bool.not_false, Bool.false_eq_true, if_false, reduceIte, lk, List.set, whole_int, whole_bl, whole_tup, whole_non]
    exact ret_now (h s S1 hs r1 o1)
  · exact h.elim
/-- a spot on the line of the first two -/
def c_law_on_line : Con := fun ds S P _ => match ds with
  | [.ref r, f] => ∃ n a b c, f = d3 a b c ∧ Row S r n ∧ n < 2 ^ 45 ∧ SzS 100 a ∧ SzS 100 b ∧ ∀ s S', SzS 100 s → tw a b s = 0 → Row S' r (n + 1) → Rowed S S' r → P (dS s) S'
  | _ => False
theorem on_line_q (p q : Rat) (t : Int) : ((p.num * q.den * (1 - t) + q.num * p.den * t : Int) : Rat) / ((p.den * q.den : Int) : Rat) = p + (t : Rat) * (q - p) := by
  have h1 := rat_eq p; have h2 := rat_eq q
  have n1 := den_ne p; have n2 := den_ne q
  simp only [Rat.intCast_mul, Rat.intCast_sub, Rat.intCast_add, Rat.intCast_one]
  grind
theorem m_law_on_line {Γ : Gam} (h0 : Γ.fn 0 = c_law_take_2) (a0 : Γ.ar 0 = 2) (h4 : Γ.fn 4 = c_law_lowest) (a4 : Γ.ar 4 = 2) : Meets Γ 11 z_law_on_line c_law_on_line := by
  intro ds S P W h
  unfold c_law_on_line at h
  split at h
  · rename_i r f
    obtain ⟨n, a, b, c, rfl, row, hn, ha, hb, h⟩ := h
    change wZs Γ z_law_on_line (retE P) [some (.ref r), some (.tup [.tup [dQ a.1, dQ a.2], .tup [dQ b.1, dQ b.2], dS c]), none, none, none, none, none, none, none, none, none] S (errW W)
    refine cut 3 (fun ρ S' => ∃ t x7, ρ = [some (.ref r), some (d3 a b c), some (dQ a.1), some (dQ a.2), some (dQ b.1), some (dQ b.2), some (.int t), x7, none, none, none] ∧ Row S' r (n + 1) ∧ Rowed S S' r ∧ -1 ≤ t ∧ t ≤ 3 ∧ SzS 27 a ∧ SzS 27 b) (fun G hG => ?_) ?_
    · dsimp only [z_law_on_line]
      dsimp only [wZs, wZ, wE, wEs, wT, wTs, wI, lk, List.set, aTru, partS, List.take, List.drop]
      try simp only [h0, a0, q_add, q_sub, q_mul, q_div, q_mod, q_pow, q_lt, q_le, q_gt, q_ge, q_eq, q_ne, q_is, q_isnt, q_isntB, q_isB, q_tb, q_ti, q_tn, q_tt, q_ixQ0, q_ixQ1, q_ixS0, q_ixS1, q_eqQ, q_neQ, q_eqSp, q_neSp, q_eqB, q_neB, q_ixT, q_lenT, q_abs, q_intI, q_intB, q_min2, q_max2, at0, at1, at2, List.length_cons, List.length_nil, sizeLine_eq, Nat.reduceAdd, Nat.reduceLeDiff, true_and, Bool.not_true, Bool.not_false, Bool.false_eq_true, if_false, reduceIte, lk, List.set, whole_int, whole_bl, whole_tup, whole_non]
      intro q nq
      have lq := up_ls (o := .lst true [.int 0, .int 2, .int 3, .int (-1)]) nq
      have dq := row.ne nq
      refine take_row (row.le lq) (by omega) (by decide) fun k S1 k0 k1 r1 o1 => ?_
      have e1 : S1 q = some (.lst true [.int 0, .int 2, .int 3, .int (-1)]) := o1 _ _ dq up_same
      try simp only [q_ixL, e1, q_add, q_sub, q_mul, q_div, q_mod, q_pow, q_lt, q_le, q_gt, q_ge, q_eq, q_ne, q_is, q_isnt, q_isntB, q_isB, q_tb, q_ti, q_tn, q_tt, q_ixQ0, q_ixQ1, q_ixS0, q_ixS1, q_eqQ, q_neQ, q_eqSp, q_neSp, q_eqB, q_neB, q_ixT, q_lenT, q_abs, q_intI, q_intB, q_min2, q_max2, at0, at1, at2, List.length_cons, List.length_nil, sizeLine_eq, Nat.reduceAdd, Nat.reduceLeDiff, true_and, Bool.not_true, Bool.not_false, Bool.false_eq_true, if_false, reduceIte, lk, List.set, whole_int, whole_bl, whole_tup, whole_non]
      obtain ⟨d, ed, hd⟩ := at_drawD (l := [D.int 0, .int 2, .int 3, .int (-1)]) k0 k1
      have : ∃ t, d = .int t ∧ -1 ≤ t ∧ t ≤ 3 := by
        simp only [List.mem_cons, List.not_mem_nil, or_false] at hd
        rcases hd with rfl | rfl | rfl | rfl <;> exact ⟨_, rfl, by decide, by decide⟩
      obtain ⟨t, rfl, t0, t1⟩ := this
      try simp only [ed, q_add, q_sub, q_mul, q_div, q_mod, q_pow, q_lt, q_le, q_gt, q_ge, q_eq, q_ne, q_is, q_isnt, q_isntB, q_isB, q_tb, q_ti, q_tn, q_tt, q_ixQ0, q_ixQ1, q_ixS0, q_ixS1, q_eqQ, q_neQ, q_eqSp, q_neSp, q_eqB, q_neB, q_ixT, q_lenT, q_abs, q_intI, q_intB, q_min2, q_max2, at0, at1, at2, List.length_cons, List.length_nil, sizeLine_eq, Nat.reduceAdd, Nat.reduceLeDiff, true_and, Bool.not_true, Bool.not_false, Bool.false_eq_true, if_false, reduceIte, lk, List.set, whole_int, whole_bl, whole_tup, whole_non]
      intro p np
      have p8 : L2.CPow 10 8 := ⟨by decide, by decide, by decide⟩
      have e8 : (10 : Int) ^ Int.toNat 8 = 100000000 := by decide
      refine lc_map (fun d => match d with
        | .tup [.int i, .int j] => .int ((i.natAbs : Int) + j)
        | _ => .non) np trivial (by rw [sizeLine_eq]; (first | decide | (simp only [List.length_append, List.length_cons, List.length_nil]; decide))) (fun d hd T K G' hT hK => ?_) fun T hT eT => ?_
      · have : ∃ x : Rat, d = dQ x := by
          simp only [List.mem_cons, List.not_mem_nil, or_false] at hd
          rcases hd with rfl | rfl | rfl | rfl <;> exact ⟨_, rfl⟩
        obtain ⟨x, rfl⟩ := this
        try simp only [wipeD, q_add, q_sub, q_mul, q_div, q_mod, q_pow, q_lt, q_le, q_gt, q_ge, q_eq, q_ne, q_is, q_isnt, q_isntB, q_isB, q_tb, q_ti, q_tn, q_tt, q_ixQ0, q_ixQ1, q_ixS0, q_ixS1, q_eqQ, q_neQ, q_eqSp, q_neSp, q_eqB, q_neB, q_ixT, q_lenT, q_abs, q_intI, q_intB, q_min2, q_max2, at0, at1, at2, List.length_cons, List.length_nil, sizeLine_eq, Nat.reduceAdd, Nat.reduceLeDiff, true_and, Bool.not_true, Bool.not_false, Bool.false_eq_true, if_false, reduceIte, lk, List.set, whole_int, whole_bl, whole_tup, whole_non]
        exact hK T (Sto.le.refl _)
      · have o2 : Rowed S T r := ((le_rowed lq).trans o1).le hT
        have r2 := r1.le hT
        refine q_max1 (l := [(a.1.num.natAbs : Int) + a.1.den, (a.2.num.natAbs : Int) + a.2.den, (b.1.num.natAbs : Int) + b.1.den, (b.2.num.natAbs : Int) + b.2.den]) eT (by (first | decide | (simp only [List.length_append, List.length_cons, List.length_nil]; decide))) fun m hm hle => ?_
        simp only [List.mem_cons, List.not_mem_nil, or_false, forall_eq_or_imp, forall_eq] at hle
        try simp only [e8, q_add, q_sub, q_mul, q_div, q_mod, q_pow, q_lt, q_le, q_gt, q_ge, q_eq, q_ne, q_is, q_isnt, q_isntB, q_isB, q_tb, q_ti, q_tn, q_tt, q_ixQ0, q_ixQ1, q_ixS0, q_ixS1, q_eqQ, q_neQ, q_eqSp, q_neSp, q_eqB, q_neB, q_ixT, q_lenT, q_abs, q_intI, q_intB, q_min2, q_max2, at0, at1, at2, List.length_cons, List.length_nil, sizeLine_eq, Nat.reduceAdd, Nat.reduceLeDiff, true_and, Bool.not_true, Bool.not_false, Bool.false_eq_true, if_false, reduceIte, lk, List.set, whole_int, whole_bl, whole_tup, whole_non]
        refine ⟨p8, if_b (fun hb8 => ?_) fun hb8 => ?_⟩
        · exact ret_now (h a T ha (by unfold tw; grind) r2 o2)
        · have sm : ∀ {x : Rat}, (x.num.natAbs : Int) + x.den ≤ m → Sz 27 x := fun hx => ⟨by omega, by omega⟩
          exact hG _ _ ⟨t, _, rfl, r2, o2, t0, t1, ⟨sm hle.1, sm hle.2.1⟩, ⟨sm hle.2.2.1, sm hle.2.2.2⟩⟩
    rintro ρ S1 ⟨t, x7, rfl, r1, o1, t0, t1, ha', hb'⟩
    have bt : Bd 2 t := by unfold Bd; omega
    have bt1 : Bd 2 (1 - t) := by unfold Bd; omega
    have one : ∀ {x y : Rat}, Sz 27 x → Sz 27 y → (IntMulOk x.num y.den ∧ IntMulOk (x.num * y.den) (1 - t) ∧ IntMulOk y.num x.den ∧ IntMulOk (y.num * x.den) t ∧ IntMulOk x.den y.den) ∧ ((x.den : Int) * y.den ≠ 0 ∧ Lt9 ((x.den : Int) * y.den)) ∧ Sz 60 (x + (t : Rat) * (y - x)) := by
      intro x y hx hy
      have x1 := hx.bd; have y1 := hy.bd
      refine ⟨⟨x1.1.ok y1.2 (by decide), (x1.1.mul y1.2).ok bt1 (by decide), y1.1.ok x1.2 (by decide), (y1.1.mul x1.2).ok bt (by decide), x1.2.ok y1.2 (by decide)⟩, ⟨Int.mul_ne_zero (den_neI _) (den_neI _), (x1.2.mul y1.2).lt9 (by decide)⟩, ?_⟩
      rw [← on_line_q]
      exact sz_div (Int.mul_ne_zero (den_neI _) (den_neI _)) ((((x1.1.mul y1.2).mul bt1).add ((y1.1.mul x1.2).mul bt)).mono (by decide)) ((x1.2.mul y1.2).mono (by decide))
    obtain ⟨⟨u1, u2, u3, u4, u5⟩, ⟨u6, u7⟩, u8⟩ := one ha'.1 hb'.1
    obtain ⟨⟨v1, v2, v3, v4, v5⟩, ⟨v6, v7⟩, v8⟩ := one ha'.2 hb'.2
    dsimp only [z_law_on_line]
    dsimp only [wZs, wZ, wE, wEs, wT, wTs, wI, lk, List.set, aTru, partS, List.take, List.drop]
    try simp only [true_and, q_add, q_sub, q_mul, q_div, q_mod, q_pow, q_lt, q_le, q_gt, q_ge, q_eq, q_ne, q_is, q_isnt, q_isntB, q_isB, q_tb, q_ti, q_tn, q_tt, q_ixQ0, q_ixQ1, q_ixS0, q_ixS1, q_eqQ, q_neQ, q_eqSp, q_neSp, q_eqB, q_neB, q_ixT, q_lenT, q_abs, q_intI, q_intB, q_min2, q_max2, at0, at1, at2, List.length_cons, List.length_nil, sizeLine_eq, Nat.reduceAdd, Nat.reduceLeDiff, true_and, Bool.not_true, Bool.not_false, Bool.false_eq_true, if_false, reduceIte, lk, List.set, whole_int, whole_bl, whole_tup, whole_non]
    intro q nq
    have dq := r1.ne nq
    simp only [forS, Src.ok, true_and]
    try simp only [h4, a4, q_isL, q_append, up_same, upup, q_add, q_sub, q_mul, q_div, q_mod, q_pow, q_lt, q_le, q_gt, q_ge, q_eq, q_ne, q_is, q_isnt, q_isntB, q_isB, q_tb, q_ti, q_tn, q_tt, q_ixQ0, q_ixQ1, q_ixS0, q_ixS1, q_eqQ, q_neQ, q_eqSp, q_neSp, q_eqB, q_neB, q_ixT, q_lenT, q_abs, q_intI, q_intB, q_min2, q_max2, at0, at1, at2, List.length_cons, List.length_nil, sizeLine_eq, Nat.reduceAdd, Nat.reduceLeDiff, true_and, Bool.not_true, Bool.not_false, Bool.false_eq_true, if_false, reduceIte, lk, List.set, whole_int, whole_bl, whole_tup, whole_non]
    refine ⟨u1, u2, u3, u4, u5, lowest_q u6 u7 ?_⟩
    rw [on_line_q]
    try simp only [up_same, upup, q_add, q_sub, q_mul, q_div, q_mod, q_pow, q_lt, q_le, q_gt, q_ge, q_eq, q_ne, q_is, q_isnt, q_isntB, q_isB, q_tb, q_ti, q_tn, q_tt, q_ixQ0, q_ixQ1, q_ixS0, q_ixS1, q_eqQ, q_neQ, q_eqSp, q_neSp, q_eqB, q_neB, q_ixT, q_lenT, q_abs, q_intI, q_intB, q_min2, q_max2, at0, at1, at2, List.length_cons, List.length_nil, sizeLine_eq, Nat.reduceAdd, Nat.reduceLeDiff, true_and, Bool.not_true, Bool.not_false, Bool.false_eq_true, if_false, reduceIte, lk, List.set, whole_int, whole_bl, whole_tup, whole_non]
    refine ⟨by (first | decide | (simp only [List.length_append, List.length_cons, List.length_nil]; decide)), v1, v2, v3, v4, v5, lowest_q v6 v7 ?_⟩
    rw [on_line_q]
    try simp only [up_same, upup, q_ixL, List.cons_append, List.nil_append, q_add, q_sub, q_mul, q_div, q_mod, q_pow, q_lt, q_le, q_gt, q_ge, q_eq, q_ne, q_is, q_isnt, q_isntB, q_isB, q_tb, q_ti, q_tn, q_tt, q_ixQ0, q_ixQ1, q_ixS0, q_ixS1, q_eqQ, q_neQ, q_eqSp, q_neSp, q_eqB, q_neB, q_ixT, q_lenT, q_abs, q_intI, q_intB, q_min2, q_max2, at0, at1, at2, List.length_cons, List.length_nil, sizeLine_eq, Nat.reduceAdd, Nat.reduceLeDiff, true_and, Bool.not_true, Bool.not_false, Bool.false_eq_true, if_false, reduceIte, lk, List.set, whole_int, whole_bl, whole_tup, whole_non]
    refine ⟨by (first | decide | (simp only [List.length_append, List.length_cons, List.length_nil]; decide)), ret_now (h (_, _) _ ⟨u8.mono (by decide), v8.mono (by decide)⟩ ?_ ?_ (o1.new nq))⟩
    · unfold tw
      grind
    · exact r1.ne' nq
  · exact h.elim
end Sd
namespace Sd
open PySem
section
variable {p : Int} (hp : p ∈ primesL) {x y : Rat}
include hp
theorem vq_lt_add (hx : x ≠ 0) (h : y = 0 ∨ vq p x < vq p y) : x + y ≠ 0 ∧ vq p (x + y) = vq p x := by
  by_cases hy : y = 0
  · rw [hy, Rat.add_zero]
    exact ⟨hx, rfl⟩
  · have h := h.resolve_left hy
    have hs : x + y ≠ 0 := fun e => by
      have e2 : y = -x := by grind
      rw [e2, vq_neg hp hx] at h
      omega
    have := (vq_add hp hx hy hs).2 (by omega)
    exact ⟨hs, by omega⟩
theorem vq_ge_add {n : Int} (h1 : x = 0 ∨ n ≤ vq p x) (h2 : y = 0 ∨ n ≤ vq p y) : x + y = 0 ∨ n ≤ vq p (x + y) := by
  by_cases hx : x = 0
  · rw [hx, Rat.zero_add]
    exact h2
  · by_cases hy : y = 0
    · rw [hy, Rat.add_zero]
      exact h1
    · by_cases hs : x + y = 0
      · exact .inl hs
      · have := (vq_add hp hx hy hs).1
        have h1 := h1.resolve_left hx
        have h2 := h2.resolve_left hy
        exact .inr (by omega)
theorem vq_ge_neg {n : Int} (h : x = 0 ∨ n ≤ vq p x) : -x = 0 ∨ n ≤ vq p (-x) := by
  by_cases hx : x = 0
  · exact .inl (by rw [hx]; rfl)
  · rw [vq_neg hp hx]
    exact .inr (h.resolve_left hx)
end
theorem col_0 {p : Int} {x y : Rat} (h : col p x y = 0) : (x = 0 ∨ 1 ≤ vq p x) ∧ (y = 0 ∨ 1 ≤ vq p y) := by
  unfold col at h
  split at h
  · assumption
  · split at h <;> cases h
theorem col_1 {p : Int} {x y : Rat} (h : col p x y = 1) : x ≠ 0 ∧ vq p x ≤ 0 ∧ (y = 0 ∨ vq p x ≤ vq p y) := by
  unfold col at h
  split at h
  · cases h
  · rename_i h1
    split at h
    · rename_i h2
      refine ⟨h2.1, ?_, h2.2⟩
      rcases Int.lt_or_le 0 (vq p x) with hv | hv
      · refine (h1 ⟨.inr hv, ?_⟩).elim
        rcases h2.2 with z | z
        · exact .inl z
        · exact .inr (by omega)
      · exact hv
    · cases h
theorem col_2 {p : Int} {x y : Rat} (h : col p x y = 2) : y ≠ 0 ∧ vq p y ≤ 0 ∧ (x = 0 ∨ vq p y < vq p x) := by
  unfold col at h
  split at h
  · cases h
  · rename_i h1
    split at h
    · cases h
    · rename_i h2
      by_cases hx : x = 0
      · have hy : ¬ (y = 0 ∨ 0 < vq p y) := fun z => h1 ⟨.inl hx, z⟩
        exact ⟨fun z => hy (.inl z), by omega, .inl hx⟩
      · have hy : ¬ (y = 0 ∨ vq p x ≤ vq p y) := fun z => h2 ⟨hx, z⟩
        have hy0 : y ≠ 0 := fun z => hy (.inl z)
        have hlt : vq p y < vq p x := by omega
        refine ⟨hy0, ?_, .inr hlt⟩
        rcases Int.lt_or_le 0 (vq p y) with hv | hv
        · exact (h1 ⟨.inr (by omega), .inr hv⟩).elim
        · exact hv
theorem mk_0 {p : Int} {x y : Rat} (hx : x = 0 ∨ 0 < vq p x) (hy : y = 0 ∨ 0 < vq p y) : col p x y = 0 := by
  unfold col
  rw [if_pos ⟨hx, hy⟩]
theorem mk_1 {p : Int} {x y : Rat} (hx : x ≠ 0) (h : vq p x ≤ 0) (hy : y = 0 ∨ vq p x ≤ vq p y) : col p x y = 1 := by
  unfold col
  rw [if_neg (fun z => z.1.elim hx (by omega)), if_pos ⟨hx, hy⟩]
theorem mk_2 {p : Int} {x y : Rat} (hy : y ≠ 0) (h : vq p y ≤ 0) (hx : x = 0 ∨ vq p y < vq p x) : col p x y = 2 := by
  unfold col
  rw [if_neg (fun z => z.2.elim hy (by omega)), if_neg (fun z => ?_)]
  rcases hx with e | e
  · exact z.1 e
  · exact z.2.elim hy (by omega)
theorem full_det {p : Int} (hp : p ∈ primesL) {x0 y0 x1 y1 x2 y2 : Rat} (h0 : col p x0 y0 = 0) (h1 : col p x1 y1 = 1) (h2 : col p x2 y2 = 2) :
    (x1 - x0) * (y2 - y0) - (x2 - x0) * (y1 - y0) ≠ 0 ∧ vq p ((x1 - x0) * (y2 - y0) - (x2 - x0) * (y1 - y0)) ≤ 0 := by
  obtain ⟨a0, b0⟩ := col_0 h0
  obtain ⟨n1, v1, b1⟩ := col_1 h1
  obtain ⟨n2, v2, a2⟩ := col_2 h2
  have ma := vq_ge_neg hp a0
  have mb := vq_ge_neg hp b0
  obtain ⟨X1, VX1⟩ := vq_lt_add hp n1 (y := -x0) (ma.imp id fun z => by omega)
  obtain ⟨Y2, VY2⟩ := vq_lt_add hp n2 (y := -y0) (mb.imp id fun z => by omega)
  have Y1 := vq_ge_add hp (n := vq p x1) b1 (mb.imp id fun z => by omega)
  have X2 := vq_ge_add hp (n := vq p y2 + 1) (a2.imp id fun z => by omega) (ma.imp id fun z => by omega)
  have e1 : x1 - x0 = x1 + -x0 := by grind
  have e2 : y2 - y0 = y2 + -y0 := by grind
  have e3 : x2 - x0 = x2 + -x0 := by grind
  have e4 : y1 - y0 = y1 + -y0 := by grind
  rw [e1, e2, e3, e4]
  generalize x1 + -x0 = A at *
  generalize y2 + -y0 = B at *
  generalize x2 + -x0 = C at *
  generalize y1 + -y0 = E at *
  have hAB : A * B ≠ 0 := fun e => (Rat.mul_eq_zero.mp e).elim X1 Y2
  have vAB := vq_mul hp X1 Y2
  have hCE : -(C * E) = 0 ∨ vq p (A * B) < vq p (-(C * E)) := by
    by_cases hC : C = 0
    · exact .inl (by rw [hC, Rat.zero_mul]; rfl)
    · by_cases hE : E = 0
      · exact .inl (by rw [hE, Rat.mul_zero]; rfl)
      · have hce : C * E ≠ 0 := fun e => (Rat.mul_eq_zero.mp e).elim hC hE
        rw [vq_neg hp hce, vq_mul hp hC hE, vAB]
        have := X2.resolve_left hC
        have := Y1.resolve_left hE
        exact .inr (by omega)
  obtain ⟨r1, r2⟩ := vq_lt_add hp hAB hCE
  rw [show A * B - C * E = A * B + -(C * E) by grind]
  exact ⟨r1, by omega⟩
theorem tw_det {a b c r s t : Spot} (h : tw a b c ≠ 0) : tw r s t / tw a b c = (tw a s c / tw a b c - tw a r c / tw a b c) * (tw a b t / tw a b c - tw a b r / tw a b c) - (tw a t c / tw a b c - tw a r c / tw a b c) * (tw a b s / tw a b c - tw a b r / tw a b c) := by
  have key : tw r s t * tw a b c = (tw a s c - tw a r c) * (tw a b t - tw a b r) - (tw a t c - tw a r c) * (tw a b s - tw a b r) := by
    unfold tw
    grind
  generalize tw a b c = T at *
  generalize tw r s t = U at *
  generalize tw a s c = x1 at *
  generalize tw a r c = x0 at *
  generalize tw a t c = x2 at *
  generalize tw a b t = y2 at *
  generalize tw a b r = y0 at *
  generalize tw a b s = y1 at *
  have : U = ((x1 - x0) * (y2 - y0) - (x2 - x0) * (y1 - y0)) / T := by grind
  rw [this]
  grind
theorem full_1 {p : Int} (hp : p ∈ primesL) {a b c r s t : Spot} (h : tw a b c ≠ 0) (h0 : colF p a b c r = 0) (h1 : colF p a b c s = 1) (h2 : colF p a b c t = 2) : tw r s t ≠ 0 ∧ vq p (tw r s t / tw a b c) ≤ 0 := by
  obtain ⟨r1, r2⟩ := full_det hp h0 h1 h2
  rw [← tw_det h] at r1 r2
  exact ⟨fun z => r1 (by rw [z]; grind), r2⟩
theorem full_neg {p : Int} (hp : p ∈ primesL) {x y T : Rat} (e : y = -x) (hT : T ≠ 0) (h : x ≠ 0 ∧ vq p (x / T) ≤ 0) : y ≠ 0 ∧ vq p (y / T) ≤ 0 := by
  have h1 : x / T ≠ 0 := by grind
  subst e
  refine ⟨by grind, ?_⟩
  rw [show -x / T = -(x / T) by grind, vq_neg hp h1]
  exact h.2
theorem three_of {i j k : Int} {ns : List Int} (h : ns.Perm [i, j, k]) (e : ns = [0, 1, 2]) : (i = 0 ∧ j = 1 ∧ k = 2) ∨ (i = 0 ∧ j = 2 ∧ k = 1) ∨ (i = 1 ∧ j = 0 ∧ k = 2) ∨ (i = 1 ∧ j = 2 ∧ k = 0) ∨ (i = 2 ∧ j = 0 ∧ k = 1) ∨ (i = 2 ∧ j = 1 ∧ k = 0) := by
  subst e
  have m0 : (0 : Int) ∈ [i, j, k] := h.mem_iff.mp (by simp)
  have m1 : (1 : Int) ∈ [i, j, k] := h.mem_iff.mp (by simp)
  have m2 : (2 : Int) ∈ [i, j, k] := h.mem_iff.mp (by simp)
  simp only [List.mem_cons, List.not_mem_nil, or_false] at m0 m1 m2
  omega
theorem full_any {p : Int} (hp : p ∈ primesL) {a b c r s t : Spot} (h : tw a b c ≠ 0) {ns : List Int} (hn : ns.Perm [colF p a b c r, colF p a b c s, colF p a b c t]) (e : ns = [0, 1, 2]) : tw r s t ≠ 0 ∧ vq p (tw r s t / tw a b c) ≤ 0 := by
  rcases three_of hn e with ⟨h1, h2, h3⟩ | ⟨h1, h2, h3⟩ | ⟨h1, h2, h3⟩ | ⟨h1, h2, h3⟩ | ⟨h1, h2, h3⟩ | ⟨h1, h2, h3⟩
  · exact full_1 hp h h1 h2 h3
  · exact full_neg hp (by unfold tw; grind) h (full_1 hp h h1 h3 h2)
  · exact full_neg hp (by unfold tw; grind) h (full_1 hp h h2 h1 h3)
  · have := full_1 hp h h3 h1 h2
    rwa [show tw t r s = tw r s t by unfold tw; grind] at this
  · have := full_1 hp h h2 h3 h1
    rwa [show tw s t r = tw r s t by unfold tw; grind] at this
  · exact full_neg hp (by unfold tw; grind) h (full_1 hp h h3 h2 h1)
end Sd
namespace Sd
open PySem
theorem bd_pow {p : Int} (b : Bd 7 p) : ∀ k : Nat, Bd (7 * k + 1) (p ^ k)
  | 0 => by rw [Int.pow_zero]; unfold Bd; decide
  | k + 1 => by
    rw [Int.pow_succ]
    exact ((bd_pow b k).mul b).mono (by omega)
def c_law_part_3 : Con := fun ds S P _ => match ds with
  | [.ref a, .int p, .int t] => ∃ n, Row S a n ∧ n < 2 ^ 45 ∧ p ∈ primesL ∧ -4 ≤ t ∧ t ≤ 5 ∧ ∀ x S', x ≠ 0 → vq p x = t → Sz 45 x → Row S' a (n + 3) → Rowed S S' a → P (dQ x) S'
  | _ => False
theorem m_law_part_3 {Γ : Gam} (h0 : Γ.fn 0 = c_law_take_2) (a0 : Γ.ar 0 = 2) (h4 : Γ.fn 4 = c_law_lowest) (a4 : Γ.ar 4 = 2) : Meets Γ 6 z_law_part_3 c_law_part_3 := by
  intro ds S P W h
  unfold c_law_part_3 at h
  split at h
  · rename_i a p t
    obtain ⟨n, r, hn, hpp, t0, t1, h⟩ := h
    obtain ⟨p2, p3, _⟩ := primes_ok p hpp
    have bp : Bd 7 p := by unfold Bd; omega
    change wZs Γ z_law_part_3 (retE P) [some (.ref a), some (.int p), some (.int t), none, none, none] S (errW W)
    refine cut 1 (fun ρ S' => ∃ y z, ρ = [some (.ref a), some (.int p), some (.int t), some (.int y), some (.int z), none] ∧ Row S' a (n + 2) ∧ Rowed S S' a ∧ 0 < y ∧ y ≤ 40 ∧ 0 < z ∧ z ≤ 12) (fun G hG => ?_) ?_
    · dsimp only [z_law_part_3]
      dsimp only [wZs, wZ, wE, wEs, wT, wTs, wI, lk, List.set, aTru, partS, List.take, List.drop]
      try simp only [h0, a0, q_add, q_sub, q_mul, q_div, q_mod, q_pow, q_lt, q_le, q_gt, q_ge, q_eq, q_ne, q_is, q_isnt, q_isntB, q_isB, q_tb, q_ti, q_tn, q_tt, q_ixQ0, q_ixQ1, q_ixS0, q_ixS1, q_eqQ, q_neQ, q_eqSp, q_neSp, q_eqB, q_neB, q_ixT, q_lenT, q_abs, q_intI, q_intB, q_min2, q_max2, at0, at1, at2, List.length_cons, List.length_nil, sizeLine_eq, Nat.reduceAdd, Nat.reduceLeDiff, true_and, Bool.not_true, Bool.not_false, Bool.false_eq_true, if_false, reduceIte, lk, List.set, whole_int, whole_bl, whole_tup, whole_non]
      refine take_row r (by omega) (by decide) fun k S1 k0 k1 r1 o1 => ?_
      try simp only [true_and, q_add, q_sub, q_mul, q_div, q_mod, q_pow, q_lt, q_le, q_gt, q_ge, q_eq, q_ne, q_is, q_isnt, q_isntB, q_isB, q_tb, q_ti, q_tn, q_tt, q_ixQ0, q_ixQ1, q_ixS0, q_ixS1, q_eqQ, q_neQ, q_eqSp, q_neSp, q_eqB, q_neB, q_ixT, q_lenT, q_abs, q_intI, q_intB, q_min2, q_max2, at0, at1, at2, List.length_cons, List.length_nil, sizeLine_eq, Nat.reduceAdd, Nat.reduceLeDiff, true_and, Bool.not_true, Bool.not_false, Bool.false_eq_true, if_false, reduceIte, lk, List.set, whole_int, whole_bl, whole_tup, whole_non]
      refine take_row r1 (by omega) (by decide) fun k' S2 k0' k1' r2 o2 => ?_
      try simp only [true_and, q_add, q_sub, q_mul, q_div, q_mod, q_pow, q_lt, q_le, q_gt, q_ge, q_eq, q_ne, q_is, q_isnt, q_isntB, q_isB, q_tb, q_ti, q_tn, q_tt, q_ixQ0, q_ixQ1, q_ixS0, q_ixS1, q_eqQ, q_neQ, q_eqSp, q_neSp, q_eqB, q_neB, q_ixT, q_lenT, q_abs, q_intI, q_intB, q_min2, q_max2, at0, at1, at2, List.length_cons, List.length_nil, sizeLine_eq, Nat.reduceAdd, Nat.reduceLeDiff, true_and, Bool.not_true, Bool.not_false, Bool.false_eq_true, if_false, reduceIte, lk, List.set, whole_int, whole_bl, whole_tup, whole_non]
      exact hG _ _ ⟨_, _, rfl, r2.mono (by omega), o1.trans o2, by omega, by omega, by omega, by omega⟩
    rintro ρ S1 ⟨y, z, rfl, r1, o1, y0, y1, z0, z1⟩
    dsimp only [z_law_part_3, List.drop]
    refine cut 1 (fun ρ S' => ∃ y, ρ = [some (.ref a), some (.int p), some (.int t), some (.int y), some (.int z), none] ∧ S' = S1 ∧ 0 < y ∧ y ≤ 40 ∧ ¬ p ∣ y) (fun G hG => ?_) ?_
    · dsimp only [wZs, wZ, wE, wEs, wT, wTs, wI, lk, List.set, aTru, partS, List.take, List.drop]
      refine ⟨fun m ρ S' => ∃ y, m = y.natAbs ∧ ρ = [some (.ref a), some (.int p), some (.int t), some (.int y), some (.int z), none] ∧ S' = S1 ∧ 0 < y ∧ y ≤ 40, ⟨_, y, rfl, rfl, rfl, y0, y1⟩, ?_⟩
      rintro m ρ S' ⟨y, rfl, rfl, rfl, y0, y1⟩
      try simp only [true_and, q_add, q_sub, q_mul, q_div, q_mod, q_pow, q_lt, q_le, q_gt, q_ge, q_eq, q_ne, q_is, q_isnt, q_isntB, q_isB, q_tb, q_ti, q_tn, q_tt, q_ixQ0, q_ixQ1, q_ixS0, q_ixS1, q_eqQ, q_neQ, q_eqSp, q_neSp, q_eqB, q_neB, q_ixT, q_lenT, q_abs, q_intI, q_intB, q_min2, q_max2, at0, at1, at2, List.length_cons, List.length_nil, sizeLine_eq, Nat.reduceAdd, Nat.reduceLeDiff, true_and, Bool.not_true, Bool.not_false, Bool.false_eq_true, if_false, reduceIte, lk, List.set, whole_int, whole_bl, whole_tup, whole_non]
      refine ⟨by omega, if_b (fun hz => ?_) fun hz => ?_⟩
      · obtain ⟨d1, d2, d3⟩ := div_down p2 (by omega : y ≠ 0) (fmod_dv hz)
        refine ⟨div_ok (n := 64) (by omega) (by omega) (by decide) (by decide), _, d1, _, rfl, rfl, ?_, by omega⟩
        have : 0 ≤ y.fdiv p := by
          rw [fdiv_dvd (fmod_dv hz)]
          exact Int.ediv_nonneg (by omega) (by omega)
        omega
      · exact hG _ _ ⟨y, rfl, rfl, y0, y1, fun w => hz (fmod_dvd w)⟩
    rintro ρ S1 ⟨y, rfl, rfl, y0, y1, ny⟩
    dsimp only [List.drop]
    refine cut 1 (fun ρ S' => ∃ z, ρ = [some (.ref a), some (.int p), some (.int t), some (.int y), some (.int z), none] ∧ S' = S1 ∧ 0 < z ∧ z ≤ 12 ∧ ¬ p ∣ z) (fun G hG => ?_) ?_
    · dsimp only [wZs, wZ, wE, wEs, wT, wTs, wI, lk, List.set, aTru, partS, List.take, List.drop]
      refine ⟨fun m ρ S' => ∃ z, m = z.natAbs ∧ ρ = [some (.ref a), some (.int p), some (.int t), some (.int y), some (.int z), none] ∧ S' = S1 ∧ 0 < z ∧ z ≤ 12, ⟨_, z, rfl, rfl, rfl, z0, z1⟩, ?_⟩
      rintro m ρ S' ⟨z, rfl, rfl, rfl, z0, z1⟩
      try simp only [true_and, q_add, q_sub, q_mul, q_div, q_mod, q_pow, q_lt, q_le, q_gt, q_ge, q_eq, q_ne, q_is, q_isnt, q_isntB, q_isB, q_tb, q_ti, q_tn, q_tt, q_ixQ0, q_ixQ1, q_ixS0, q_ixS1, q_eqQ, q_neQ, q_eqSp, q_neSp, q_eqB, q_neB, q_ixT, q_lenT, q_abs, q_intI, q_intB, q_min2, q_max2, at0, at1, at2, List.length_cons, List.length_nil, sizeLine_eq, Nat.reduceAdd, Nat.reduceLeDiff, true_and, Bool.not_true, Bool.not_false, Bool.false_eq_true, if_false, reduceIte, lk, List.set, whole_int, whole_bl, whole_tup, whole_non]
      refine ⟨by omega, if_b (fun hz => ?_) fun hz => ?_⟩
      · obtain ⟨d1, d2, d3⟩ := div_down p2 (by omega : z ≠ 0) (fmod_dv hz)
        refine ⟨div_ok (n := 64) (by omega) (by omega) (by decide) (by decide), _, d1, _, rfl, rfl, ?_, by omega⟩
        have : 0 ≤ z.fdiv p := by
          rw [fdiv_dvd (fmod_dv hz)]
          exact Int.ediv_nonneg (by omega) (by omega)
        omega
      · exact hG _ _ ⟨z, rfl, rfl, z0, z1, fun w => hz (fmod_dvd w)⟩
    rintro ρ S1 ⟨z, rfl, rfl, z0, z1, nz⟩
    have by6 : Bd 6 y := by unfold Bd; omega
    have bz6 : Bd 6 z := by unfold Bd; omega
    dsimp only [List.drop]
    refine cut 1 (fun ρ S' => ∃ x5, ρ = [some (.ref a), some (.int p), some (.int t), some (.int (y * p ^ t.toNat)), some (.int z), x5] ∧ S' = S1) (fun G hG => ?_) ?_
    · dsimp only [wZs, wZ, wE, wEs, wT, wTs, wI, lk, List.set, aTru, partS, List.take, List.drop]
      try simp only [true_and, q_add, q_sub, q_mul, q_div, q_mod, q_pow, q_lt, q_le, q_gt, q_ge, q_eq, q_ne, q_is, q_isnt, q_isntB, q_isB, q_tb, q_ti, q_tn, q_tt, q_ixQ0, q_ixQ1, q_ixS0, q_ixS1, q_eqQ, q_neQ, q_eqSp, q_neSp, q_eqB, q_neB, q_ixT, q_lenT, q_abs, q_intI, q_intB, q_min2, q_max2, at0, at1, at2, List.length_cons, List.length_nil, sizeLine_eq, Nat.reduceAdd, Nat.reduceLeDiff, true_and, Bool.not_true, Bool.not_false, Bool.false_eq_true, if_false, reduceIte, lk, List.set, whole_int, whole_bl, whole_tup, whole_non]
      refine ⟨by omega, for_ind (src := .free) (fun rr ρ S' => ∃ (x5 : Option D) (k : Nat), ρ = [some (.ref a), some (.int p), some (.int t), some (.int (y * p ^ k)), some (.int z), x5] ∧ S' = S1 ∧ k + rr.length = t.toNat) (fun _ _ _ _ => trivial) ?_ ?_ ⟨_, 0, by rw [Int.pow_zero, Int.mul_one], rfl, by rw [rng_len]; omega⟩⟩
      · rintro ρ S' ⟨x5, k, rfl, rfl, hk⟩
        have : k = t.toNat := hk
        subst this
        exact hG _ _ ⟨_, rfl, rfl⟩
      · rintro F d rr ρ S' ⟨x5, k, rfl, rfl, hk⟩ hF
        have hk' : k + (rr.length + 1) = t.toNat := hk
        try simp only [true_and, q_add, q_sub, q_mul, q_div, q_mod, q_pow, q_lt, q_le, q_gt, q_ge, q_eq, q_ne, q_is, q_isnt, q_isntB, q_isB, q_tb, q_ti, q_tn, q_tt, q_ixQ0, q_ixQ1, q_ixS0, q_ixS1, q_eqQ, q_neQ, q_eqSp, q_neSp, q_eqB, q_neB, q_ixT, q_lenT, q_abs, q_intI, q_intB, q_min2, q_max2, at0, at1, at2, List.length_cons, List.length_nil, sizeLine_eq, Nat.reduceAdd, Nat.reduceLeDiff, true_and, Bool.not_true, Bool.not_false, Bool.false_eq_true, if_false, reduceIte, lk, List.set, whole_int, whole_bl, whole_tup, whole_non]
        refine ⟨(by6.mul (bd_pow bp k)).ok bp (by omega), hF _ _ ⟨some d, k + 1, by rw [Int.pow_succ, Int.mul_assoc], rfl, by omega⟩⟩
    rintro ρ S1 ⟨x5, rfl, rfl⟩
    dsimp only [List.drop]
    refine cut 1 (fun ρ S' => ∃ x5, ρ = [some (.ref a), some (.int p), some (.int t), some (.int (y * p ^ t.toNat)), some (.int (z * p ^ (0 - t).toNat)), x5] ∧ S' = S1) (fun G hG => ?_) ?_
    · dsimp only [wZs, wZ, wE, wEs, wT, wTs, wI, lk, List.set, aTru, partS, List.take, List.drop]
      try simp only [true_and, q_add, q_sub, q_mul, q_div, q_mod, q_pow, q_lt, q_le, q_gt, q_ge, q_eq, q_ne, q_is, q_isnt, q_isntB, q_isB, q_tb, q_ti, q_tn, q_tt, q_ixQ0, q_ixQ1, q_ixS0, q_ixS1, q_eqQ, q_neQ, q_eqSp, q_neSp, q_eqB, q_neB, q_ixT, q_lenT, q_abs, q_intI, q_intB, q_min2, q_max2, at0, at1, at2, List.length_cons, List.length_nil, sizeLine_eq, Nat.reduceAdd, Nat.reduceLeDiff, true_and, Bool.not_true, Bool.not_false, Bool.false_eq_true, if_false, reduceIte, lk, List.set, whole_int, whole_bl, whole_tup, whole_non]
      refine ⟨by omega, for_ind (src := .free) (fun rr ρ S' => ∃ (x5 : Option D) (k : Nat), ρ = [some (.ref a), some (.int p), some (.int t), some (.int (y * p ^ t.toNat)), some (.int (z * p ^ k)), x5] ∧ S' = S1 ∧ k + rr.length = (0 - t).toNat) (fun _ _ _ _ => trivial) ?_ ?_ ⟨_, 0, by rw [Int.pow_zero, Int.mul_one], rfl, by rw [rng_len]; omega⟩⟩
      · rintro ρ S' ⟨x5, k, rfl, rfl, hk⟩
        have : k = (0 - t).toNat := hk
        subst this
        exact hG _ _ ⟨_, rfl, rfl⟩
      · rintro F d rr ρ S' ⟨x5, k, rfl, rfl, hk⟩ hF
        have hk' : k + (rr.length + 1) = (0 - t).toNat := hk
        try simp only [true_and, q_add, q_sub, q_mul, q_div, q_mod, q_pow, q_lt, q_le, q_gt, q_ge, q_eq, q_ne, q_is, q_isnt, q_isntB, q_isB, q_tb, q_ti, q_tn, q_tt, q_ixQ0, q_ixQ1, q_ixS0, q_ixS1, q_eqQ, q_neQ, q_eqSp, q_neSp, q_eqB, q_neB, q_ixT, q_lenT, q_abs, q_intI, q_intB, q_min2, q_max2, at0, at1, at2, List.length_cons, List.length_nil, sizeLine_eq, Nat.reduceAdd, Nat.reduceLeDiff, true_and, Bool.not_true, Bool.not_false, Bool.false_eq_true, if_false, reduceIte, lk, List.set, whole_int, whole_bl, whole_tup, whole_non]
        refine ⟨(bz6.mul (bd_pow bp k)).ok bp (by omega), hF _ _ ⟨some d, k + 1, by rw [Int.pow_succ, Int.mul_assoc], rfl, by omega⟩⟩
    rintro ρ S1 ⟨x5, rfl, rfl⟩
    dsimp only [wZs, wZ, wE, wEs, wT, wTs, wI, lk, List.set, aTru, partS, List.take, List.drop]
    try simp only [h0, a0, h4, a4, q_add, q_sub, q_mul, q_div, q_mod, q_pow, q_lt, q_le, q_gt, q_ge, q_eq, q_ne, q_is, q_isnt, q_isntB, q_isB, q_tb, q_ti, q_tn, q_tt, q_ixQ0, q_ixQ1, q_ixS0, q_ixS1, q_eqQ, q_neQ, q_eqSp, q_neSp, q_eqB, q_neB, q_ixT, q_lenT, q_abs, q_intI, q_intB, q_min2, q_max2, at0, at1, at2, List.length_cons, List.length_nil, sizeLine_eq, Nat.reduceAdd, Nat.reduceLeDiff, true_and, Bool.not_true, Bool.not_false, Bool.false_eq_true, if_false, reduceIte, lk, List.set, whole_int, whole_bl, whole_tup, whole_non]
    intro q nq
    have lq := up_ls (o := .lst true [.int 1, .int (-1)]) nq
    have dq := r1.ne nq
    refine take_row (r1.le lq) (by omega) (by decide) fun k S2 k0 k1 r2 o2 => ?_
    have e2 : S2 q = some (.lst true [.int 1, .int (-1)]) := o2 _ _ dq up_same
    have hsg : ∃ g : Int, L2.atI [D.int 1, D.int (-1)] k = some (.int g) ∧ (g = 1 ∨ g = -1) := by
      have : k = 0 ∨ k = 1 := by omega
      rcases this with rfl | rfl
      · exact ⟨1, at0, .inl rfl⟩
      · exact ⟨-1, at1, .inr rfl⟩
    obtain ⟨g, eg, hg⟩ := hsg
    try simp only [q_ixL, e2, eg, q_add, q_sub, q_mul, q_div, q_mod, q_pow, q_lt, q_le, q_gt, q_ge, q_eq, q_ne, q_is, q_isnt, q_isntB, q_isB, q_tb, q_ti, q_tn, q_tt, q_ixQ0, q_ixQ1, q_ixS0, q_ixS1, q_eqQ, q_neQ, q_eqSp, q_neSp, q_eqB, q_neB, q_ixT, q_lenT, q_abs, q_intI, q_intB, q_min2, q_max2, at0, at1, at2, List.length_cons, List.length_nil, sizeLine_eq, Nat.reduceAdd, Nat.reduceLeDiff, true_and, Bool.not_true, Bool.not_false, Bool.false_eq_true, if_false, reduceIte, lk, List.set, whole_int, whole_bl, whole_tup, whole_non]
    have bg : Bd 1 g := by unfold Bd; omega
    have hpow : ∀ k : Nat, p ^ k ≠ 0 := fun k => Int.ne_of_gt (Int.pow_pos (by omega))
    have bt : Bd 43 (y * p ^ t.toNat) := (by6.mul (bd_pow bp t.toNat)).mono (by omega)
    have bz : Bd 43 (z * p ^ (0 - t).toNat) := (bz6.mul (bd_pow bp (0 - t).toNat)).mono (by omega)
    have nzz : z * p ^ (0 - t).toNat ≠ 0 := Int.mul_ne_zero (by omega) (hpow _)
    have nyy : y * p ^ t.toNat * g ≠ 0 := Int.mul_ne_zero (Int.mul_ne_zero (by omega) (hpow _)) (by omega)
    have vt : Val p (y * p ^ t.toNat * g) t.toNat := val_end p2 (y := y * g) (by rw [Int.mul_assoc, Int.mul_comm (p ^ _), Int.mul_assoc]) (by
      rcases hg with rfl | rfl
      · rw [Int.mul_one]; exact ny
      · rw [Int.mul_neg, Int.mul_one]
        exact fun z => ny (Int.dvd_neg.mp z))
    have vb : Val p (z * p ^ (0 - t).toNat) (0 - t).toNat := val_end p2 rfl nz
    have nx : ((y * p ^ t.toNat * g : Int) : Rat) / ((z * p ^ (0 - t).toNat : Int) : Rat) ≠ 0 := by
      have := cast_ne nzz
      have := cast_ne nyy
      generalize ((y * p ^ t.toNat * g : Int) : Rat) = A at *
      generalize ((z * p ^ (0 - t).toNat : Int) : Rat) = B at *
      grind
    refine ⟨bt.ok bg (by decide), lowest_q nzz (bz.lt9 (by decide)) (ret_now (h _ _ nx ?_ ((sz_div (n := 44) nzz (bt.mul bg) (bz.mono (by decide))).mono (by decide)) (r2.mono (by omega)) (o1.trans ((le_rowed lq).trans o2))))⟩
    refine (vq_of hpp nx nzz ?_ ⟨_, _, vt, vb, by omega⟩).symm
    exact (Rat.div_mul_cancel (cast_ne nzz)).symm
  · exact h.elim
end Sd
namespace Sd
open PySem
theorem d_nought : D.tup [.int 0, .int 1] = dQ 0 := rfl
def c_law_painted : Con := fun ds S P _ => match ds with
  | [.ref a, .int p, .int k] => ∃ n, Row S a n ∧ n < 2 ^ 44 ∧ p ∈ primesL ∧ 0 ≤ k ∧ k < 3 ∧ ∀ q x y S', col p x y = k → Sz 45 x → Sz 45 y → S q = none → S' q = some (.lst true [dQ x, dQ y]) → Row S' a (n + 10) → Rowed S S' a → P (.ref q) S'
  | _ => False
theorem ixn20 {n : Nat} : L2.ixN (n + 1 + 1) 0 = some 0 := by
  unfold L2.ixN
  rw [if_pos (by omega), if_pos (by omega)]
  rfl
theorem ixn21 {n : Nat} : L2.ixN (n + 1 + 1) 1 = some 1 := by
  unfold L2.ixN
  rw [if_pos (by omega), if_pos (by omega)]
  rfl
theorem m_law_painted {Γ : Gam} (h0 : Γ.fn 0 = c_law_take_2) (a0 : Γ.ar 0 = 2) (h30 : Γ.fn 30 = c_law_part_3) (a30 : Γ.ar 30 = 3) : Meets Γ 6 z_law_painted c_law_painted := by
  intro ds S P W h
  unfold c_law_painted at h
  split at h
  · rename_i a p k
    obtain ⟨n, r, hn, hpp, k0, k1, h⟩ := h
    change wZs Γ z_law_painted (retE P) [some (.ref a), some (.int p), some (.int k), none, none, none] S (errW W)
    refine cut 1 (fun ρ S' => ∃ y z, ρ = [some (.ref a), some (.int p), some (.int k), some (.int y), some (.int z), none] ∧ Row S' a (n + 2) ∧ Rowed S S' a ∧ 0 ≤ y ∧ y < 4 ∧ 0 ≤ z ∧ z < 4) (fun G hG => ?_) ?_
    · dsimp only [z_law_painted]
      dsimp only [wZs, wZ, wE, wEs, wT, wTs, wI, lk, List.set, aTru, partS, List.take, List.drop]
      try simp only [h0, a0, q_add, q_sub, q_mul, q_div, q_mod, q_pow, q_lt, q_le, q_gt, q_ge, q_eq, q_ne, q_is, q_isnt, q_isntB, q_isB, q_tb, q_ti, q_tn, q_tt, q_ixQ0, q_ixQ1, q_ixS0, q_ixS1, q_eqQ, q_neQ, q_eqSp, q_neSp, q_eqB, q_neB, q_ixT, q_lenT, q_abs, q_intI, q_intB, q_min2, q_max2, at0, at1, at2, List.length_cons, List.length_nil, sizeLine_eq, Nat.reduceAdd, Nat.reduceLeDiff, true_and, Bool.not_true, Bool.not_false, Bool.false_eq_true, if_false, reduceIte, lk, List.set, whole_int, whole_bl, whole_tup, whole_non]
      refine take_row r (by omega) (by decide) fun k S1 k0 k1 r1 o1 => ?_
      try simp only [true_and, q_add, q_sub, q_mul, q_div, q_mod, q_pow, q_lt, q_le, q_gt, q_ge, q_eq, q_ne, q_is, q_isnt, q_isntB, q_isB, q_tb, q_ti, q_tn, q_tt, q_ixQ0, q_ixQ1, q_ixS0, q_ixS1, q_eqQ, q_neQ, q_eqSp, q_neSp, q_eqB, q_neB, q_ixT, q_lenT, q_abs, q_intI, q_intB, q_min2, q_max2, at0, at1, at2, List.length_cons, List.length_nil, sizeLine_eq, Nat.reduceAdd, Nat.reduceLeDiff, true_and, Bool.not_true, Bool.not_false, Bool.false_eq_true, if_false, reduceIte, lk, List.set, whole_int, whole_bl, whole_tup, whole_non]
      refine take_row r1 (by omega) (by decide) fun k' S2 k0' k1' r2 o2 => ?_
      try simp only [true_and, q_add, q_sub, q_mul, q_div, q_mod, q_pow, q_lt, q_le, q_gt, q_ge, q_eq, q_ne, q_is, q_isnt, q_isntB, q_isB, q_tb, q_ti, q_tn, q_tt, q_ixQ0, q_ixQ1, q_ixS0, q_ixS1, q_eqQ, q_neQ, q_eqSp, q_neSp, q_eqB, q_neB, q_ixT, q_lenT, q_abs, q_intI, q_intB, q_min2, q_max2, at0, at1, at2, List.length_cons, List.length_nil, sizeLine_eq, Nat.reduceAdd, Nat.reduceLeDiff, true_and, Bool.not_true, Bool.not_false, Bool.false_eq_true, if_false, reduceIte, lk, List.set, whole_int, whole_bl, whole_tup, whole_non]
      exact hG _ _ ⟨_, _, rfl, r2.mono (by omega), o1.trans o2, by omega, by omega, by omega, by omega⟩
    rintro ρ S1 ⟨lo, mo, rfl, r1, o1, y0, y1, z0, z1⟩
    dsimp only [z_law_painted, List.drop]
    refine cut 1 (fun ρ S' => ∃ q x y, ρ = [some (.ref a), some (.int p), some (.int k), some (.int lo), some (.int mo), some (.ref q)] ∧ S q = none ∧ S' q = some (.lst true [dQ x, dQ y]) ∧ Row S' a (n + 8) ∧ Rowed S S' a ∧ Sz 45 x ∧ Sz 45 y ∧ x ≠ 0 ∧ y ≠ 0 ∧ (k = 0 → 0 < vq p x ∧ 0 < vq p y) ∧ (k = 1 → vq p x ≤ 0 ∧ vq p x ≤ vq p y) ∧ (k = 2 → vq p y ≤ 0 ∧ vq p y < vq p x)) (fun G hG => ?_) ?_
    · have two : ∀ {t u : Int}, -4 ≤ t → t ≤ 5 → -4 ≤ u → u ≤ 5 → (∀ q x y S', x ≠ 0 → y ≠ 0 → vq p x = t → vq p y = u → Sz 45 x → Sz 45 y → S q = none → S' q = some (.lst true [dQ x, dQ y]) → Row S' a (n + 8) → Rowed S S' a → G [some (.ref a), some (.int p), some (.int k), some (.int lo), some (.int mo), some (.ref q)] S') → ∀ {W1 W2 : FW}, c_law_part_3 [.ref a, .int p, .int t] S1 (fun d S2 => c_law_part_3 [.ref a, .int p, .int u] S2 (fun d' S3 => ∀ q, S3 q = none → G [some (.ref a), some (.int p), some (.int k), some (.int lo), some (.int mo), some (.ref q)] (S3.up q (.lst true [d, d']))) W1) W2 := by
        intro t u t0 t1 u0 u1 hG W1 W2
        refine ⟨n + 2, r1, by omega, hpp, t0, t1, fun x S2 hx vx sx r2 o2 => ⟨n + 2 + 3, r2, by omega, hpp, u0, u1, fun y S3 hy vy sy r3 o3 q nq => ?_⟩⟩
        have o := o1.trans (o2.trans o3)
        exact hG q x y _ hx hy vx vy sx sy (rowed_none o r3 nq) up_same ((r3.mono (by omega)).ne' nq) (o.new nq)
      dsimp only [wZs, wZ, wE, wEs, wT, wTs, wI, lk, List.set, aTru, partS, List.take, List.drop]
      try simp only [h30, a30, q_add, q_sub, q_mul, q_div, q_mod, q_pow, q_lt, q_le, q_gt, q_ge, q_eq, q_ne, q_is, q_isnt, q_isntB, q_isB, q_tb, q_ti, q_tn, q_tt, q_ixQ0, q_ixQ1, q_ixS0, q_ixS1, q_eqQ, q_neQ, q_eqSp, q_neSp, q_eqB, q_neB, q_ixT, q_lenT, q_abs, q_intI, q_intB, q_min2, q_max2, at0, at1, at2, List.length_cons, List.length_nil, sizeLine_eq, Nat.reduceAdd, Nat.reduceLeDiff, true_and, Bool.not_true, Bool.not_false, Bool.false_eq_true, if_false, reduceIte, lk, List.set, whole_int, whole_bl, whole_tup, whole_non]
      refine if_b (fun hk => ?_) fun hk => ?_
      · refine two (by omega) (by omega) (by omega) (by omega) fun q x y S' hx hy vx vy sx sy nq eq r' o' => hG _ _ ⟨q, x, y, rfl, nq, eq, r', o', sx, sy, hx, hy, fun _ => ⟨by omega, by omega⟩, fun z => by omega, fun z => by omega⟩
      · refine if_b (fun hk1 => ?_) fun hk1 => ?_
        · refine two (by omega) (by omega) (by omega) (by omega) fun q x y S' hx hy vx vy sx sy nq eq r' o' => hG _ _ ⟨q, x, y, rfl, nq, eq, r', o', sx, sy, hx, hy, fun z => by omega, fun _ => ⟨by omega, by omega⟩, fun z => by omega⟩
        · refine two (by omega) (by omega) (by omega) (by omega) fun q x y S' hx hy vx vy sx sy nq eq r' o' => hG _ _ ⟨q, x, y, rfl, nq, eq, r', o', sx, sy, hx, hy, fun z => by omega, fun z => by omega, fun _ => ⟨by omega, by omega⟩⟩
    rintro ρ S2 ⟨q, x, y, rfl, nq, eq, r2, o2, sx, sy, hx, hy, c0, c1, c2⟩
    have dq := r.ne nq
    have s0 : Sz 45 (0 : Rat) := sz_zero (by decide)
    -- one set to nought
    have fin : ∀ {x' y' : Rat} {T : Sto}, T q = some (.lst true [dQ x, dQ y]) → Row T a (n + 10) → Rowed S T a → col p x' y' = k → Sz 45 x' → Sz 45 y' → P (.ref q) (T.up q (.lst true [dQ x', dQ y'])) := by
      intro x' y' T eT rT oT hc h1 h2
      refine h q x' y' _ hc h1 h2 nq up_same ?_ ?_
      · obtain ⟨c, m, e, m0, m1⟩ := rT
        exact ⟨c, m, by rw [up_oth dq]; exact e, m0, by omega⟩
      · intro b o hb e
        rw [up_oth (fun w => by rw [w, e] at nq; cases nq)]
        exact oT b o hb e
    dsimp only [wZs, wZ, wE, wEs, wT, wTs, wI, lk, List.set, aTru, partS, List.take, List.drop]
    try simp only [h0, a0, q_add, q_sub, q_mul, q_div, q_mod, q_pow, q_lt, q_le, q_gt, q_ge, q_eq, q_ne, q_is, q_isnt, q_isntB, q_isB, q_tb, q_ti, q_tn, q_tt, q_ixQ0, q_ixQ1, q_ixS0, q_ixS1, q_eqQ, q_neQ, q_eqSp, q_neSp, q_eqB, q_neB, q_ixT, q_lenT, q_abs, q_intI, q_intB, q_min2, q_max2, at0, at1, at2, List.length_cons, List.length_nil, sizeLine_eq, Nat.reduceAdd, Nat.reduceLeDiff, true_and, Bool.not_true, Bool.not_false, Bool.false_eq_true, if_false, reduceIte, lk, List.set, whole_int, whole_bl, whole_tup, whole_non]
    refine take_row r2 (by omega) (by decide) fun d S3 d0 d1 r3 o3 => ?_
    have e3 := o3 _ _ dq eq
    try simp only [true_and, q_add, q_sub, q_mul, q_div, q_mod, q_pow, q_lt, q_le, q_gt, q_ge, q_eq, q_ne, q_is, q_isnt, q_isntB, q_isB, q_tb, q_ti, q_tn, q_tt, q_ixQ0, q_ixQ1, q_ixS0, q_ixS1, q_eqQ, q_neQ, q_eqSp, q_neSp, q_eqB, q_neB, q_ixT, q_lenT, q_abs, q_intI, q_intB, q_min2, q_max2, at0, at1, at2, List.length_cons, List.length_nil, sizeLine_eq, Nat.reduceAdd, Nat.reduceLeDiff, true_and, Bool.not_true, Bool.not_false, Bool.false_eq_true, if_false, reduceIte, lk, List.set, whole_int, whole_bl, whole_tup, whole_non]
    refine if_b (fun hd => ?_) fun hd => ?_
    · try simp only [d_nought, q_add, q_sub, q_mul, q_div, q_mod, q_pow, q_lt, q_le, q_gt, q_ge, q_eq, q_ne, q_is, q_isnt, q_isntB, q_isB, q_tb, q_ti, q_tn, q_tt, q_ixQ0, q_ixQ1, q_ixS0, q_ixS1, q_eqQ, q_neQ, q_eqSp, q_neSp, q_eqB, q_neB, q_ixT, q_lenT, q_abs, q_intI, q_intB, q_min2, q_max2, at0, at1, at2, List.length_cons, List.length_nil, sizeLine_eq, Nat.reduceAdd, Nat.reduceLeDiff, true_and, Bool.not_true, Bool.not_false, Bool.false_eq_true, if_false, reduceIte, lk, List.set, whole_int, whole_bl, whole_tup, whole_non]
      refine take_row r3 (by omega) (by decide) fun j S4 j0 j1 r4 o4 => ?_
      have e4 := o4 _ _ dq e3
      intro q2 nq2
      have lq2 := up_ls (o := .lst true [.int j, .int 1, .int 0]) nq2
      have e5 : (S4.up q2 (.lst true [.int j, .int 1, .int 0])) q = some (.lst true [dQ x, dQ y]) := lq2 _ _ e4
      have o5 := o2.trans ((o3.trans o4).new (o := .lst true [.int j, .int 1, .int 0]) nq2)
      have r5 := (r4.ne' (o := .lst true [.int j, .int 1, .int 0]) nq2).mono (m := n + 10) (by omega)
      have e6 : (S4.up q2 (.lst true [.int j, .int 1, .int 0])) q2 = some (.lst true [.int j, .int 1, .int 0]) := up_same
      generalize S4.up q2 (.lst true [.int j, .int 1, .int 0]) = S5 at e5 o5 r5 e6
      have : k = 0 ∨ k = 1 ∨ k = 2 := by omega
      rcases this with rfl | rfl | rfl
      · try simp only [q_ixL, e6, q_add, q_sub, q_mul, q_div, q_mod, q_pow, q_lt, q_le, q_gt, q_ge, q_eq, q_ne, q_is, q_isnt, q_isntB, q_isB, q_tb, q_ti, q_tn, q_tt, q_ixQ0, q_ixQ1, q_ixS0, q_ixS1, q_eqQ, q_neQ, q_eqSp, q_neSp, q_eqB, q_neB, q_ixT, q_lenT, q_abs, q_intI, q_intB, q_min2, q_max2, at0, at1, at2, List.length_cons, List.length_nil, sizeLine_eq, Nat.reduceAdd, Nat.reduceLeDiff, true_and, Bool.not_true, Bool.not_false, Bool.false_eq_true, if_false, reduceIte, lk, List.set, whole_int, whole_bl, whole_tup, whole_non]
        have : j = 0 ∨ j = 1 := by omega
        rcases this with rfl | rfl
        · try simp only [e5, ixn20, q_ixL, e6, q_add, q_sub, q_mul, q_div, q_mod, q_pow, q_lt, q_le, q_gt, q_ge, q_eq, q_ne, q_is, q_isnt, q_isntB, q_isB, q_tb, q_ti, q_tn, q_tt, q_ixQ0, q_ixQ1, q_ixS0, q_ixS1, q_eqQ, q_neQ, q_eqSp, q_neSp, q_eqB, q_neB, q_ixT, q_lenT, q_abs, q_intI, q_intB, q_min2, q_max2, at0, at1, at2, List.length_cons, List.length_nil, sizeLine_eq, Nat.reduceAdd, Nat.reduceLeDiff, true_and, Bool.not_true, Bool.not_false, Bool.false_eq_true, if_false, reduceIte, lk, List.set, whole_int, whole_bl, whole_tup, whole_non]
          exact ret_now (fin e5 r5 o5 (mk_0 (.inl rfl) (.inr (c0 rfl).2)) s0 sy)
        · try simp only [e5, ixn21, q_ixL, e6, q_add, q_sub, q_mul, q_div, q_mod, q_pow, q_lt, q_le, q_gt, q_ge, q_eq, q_ne, q_is, q_isnt, q_isntB, q_isB, q_tb, q_ti, q_tn, q_tt, q_ixQ0, q_ixQ1, q_ixS0, q_ixS1, q_eqQ, q_neQ, q_eqSp, q_neSp, q_eqB, q_neB, q_ixT, q_lenT, q_abs, q_intI, q_intB, q_min2, q_max2, at0, at1, at2, List.length_cons, List.length_nil, sizeLine_eq, Nat.reduceAdd, Nat.reduceLeDiff, true_and, Bool.not_true, Bool.not_false, Bool.false_eq_true, if_false, reduceIte, lk, List.set, whole_int, whole_bl, whole_tup, whole_non]
          exact ret_now (fin e5 r5 o5 (mk_0 (.inr (c0 rfl).1) (.inl rfl)) sx s0)
      · try simp only [q_ixL, e6, e5, ixn21, q_add, q_sub, q_mul, q_div, q_mod, q_pow, q_lt, q_le, q_gt, q_ge, q_eq, q_ne, q_is, q_isnt, q_isntB, q_isB, q_tb, q_ti, q_tn, q_tt, q_ixQ0, q_ixQ1, q_ixS0, q_ixS1, q_eqQ, q_neQ, q_eqSp, q_neSp, q_eqB, q_neB, q_ixT, q_lenT, q_abs, q_intI, q_intB, q_min2, q_max2, at0, at1, at2, List.length_cons, List.length_nil, sizeLine_eq, Nat.reduceAdd, Nat.reduceLeDiff, true_and, Bool.not_true, Bool.not_false, Bool.false_eq_true, if_false, reduceIte, lk, List.set, whole_int, whole_bl, whole_tup, whole_non]
        exact ret_now (fin e5 r5 o5 (mk_1 hx (c1 rfl).1 (.inl rfl)) sx s0)
      · try simp only [q_ixL, e6, e5, ixn20, q_add, q_sub, q_mul, q_div, q_mod, q_pow, q_lt, q_le, q_gt, q_ge, q_eq, q_ne, q_is, q_isnt, q_isntB, q_isB, q_tb, q_ti, q_tn, q_tt, q_ixQ0, q_ixQ1, q_ixS0, q_ixS1, q_eqQ, q_neQ, q_eqSp, q_neSp, q_eqB, q_neB, q_ixT, q_lenT, q_abs, q_intI, q_intB, q_min2, q_max2, at0, at1, at2, List.length_cons, List.length_nil, sizeLine_eq, Nat.reduceAdd, Nat.reduceLeDiff, true_and, Bool.not_true, Bool.not_false, Bool.false_eq_true, if_false, reduceIte, lk, List.set, whole_int, whole_bl, whole_tup, whole_non]
        exact ret_now (fin e5 r5 o5 (mk_2 hy (c2 rfl).1 (.inl rfl)) s0 sy)
    · refine ret_now (h q x y S3 ?_ sx sy nq e3 (r3.mono (by omega)) (o2.trans o3))
      have : k = 0 ∨ k = 1 ∨ k = 2 := by omega
      rcases this with rfl | rfl | rfl
      · exact mk_0 (.inr (c0 rfl).1) (.inr (c0 rfl).2)
      · exact mk_1 hx (c1 rfl).1 (.inr (c1 rfl).2)
      · exact mk_2 hy (c2 rfl).1 (.inr (c2 rfl).2)
  · exact h.elim
end Sd
namespace Sd
open PySem
theorem sh_q (x : Rat) (w : Int) : D.tup [.int (x.num + w * x.den), .int x.den] = dQ (x + w) := by
  have hc : (x.num + w * x.den).natAbs.Coprime x.den := by
    have h := x.reduced
    have h2 : Int.gcd x.num x.den = 1 := by simpa [Int.gcd] using h
    have h3 : Int.gcd (x.num + w * x.den) x.den = 1 := by
      rw [← h2]; simp
    simpa [Int.gcd] using h3
  have e : (⟨x.num + w * x.den, x.den, x.den_nz, hc⟩ : Rat) = x + w := by
    rw [rat_eq (⟨x.num + w * x.den, x.den, x.den_nz, hc⟩ : Rat)]
    have h1 := rat_eq x; have h2 := den_ne x
    show ((x.num + w * x.den : Int) : Rat) / ((x.den : Int) : Rat) = x + w
    rw [Rat.intCast_add, Rat.intCast_mul]
    grind
  rw [← e]
  rfl
theorem sh_den (x : Rat) (w : Int) : (x + (w : Rat)).den = x.den := by
  have h := sh_q x w
  unfold dQ at h
  injection h with h
  injection h with h1 h2
  injection h2 with h3
  injection h3 with h3
  omega
theorem sh_sz {x : Rat} {w : Int} (h : Sz 6 x) (hw : Bd 44 w) : Sz 51 (x + w) := ((h.add (sz_int hw (by decide))).mono (by decide))
def c_law_frame_3 : Con := fun ds S P _ => match ds with
  | [.ref r] => ∃ n, Row S r n ∧ n < 2 ^ 44 ∧ ∀ a b c S', SzS 51 a → SzS 51 b → SzS 51 c → tw a b c ≠ 0 → (∀ s ∈ [a, b, c], s.1.den < 64 ∧ s.2.den < 64) → Row S' r (n + 20) → Rowed S S' r → P (d3 a b c) S'
  | _ => False
theorem d_int (k : Int) : D.tup [.int k, .int 1] = dQ (k : Rat) := rfl
theorem m_law_frame_3 {Γ : Gam} (h38 : Γ.fn 38 = c_law_near) (a38 : Γ.ar 38 = 1) (h0 : Γ.fn 0 = c_law_take_2) (a0 : Γ.ar 0 = 2) (h50 : Γ.fn 50 = c_law_turn) (a50 : Γ.ar 50 = 3) : Meets Γ 7 z_law_frame_3 c_law_frame_3 := by
  intro ds S P W h
  unfold c_law_frame_3 at h
  split at h
  · rename_i r
    obtain ⟨n, row, hn, h⟩ := h
    have p13 : L2.CPow 10 13 := ⟨by decide, by decide, by decide⟩
    have e13 : (10 : Int) ^ Int.toNat 13 = 10000000000000 := by decide
    change wZs Γ z_law_frame_3 (retE P) [some (.ref r), none, none, none, none, none, none] S (errW W)
    refine cut 2 (fun ρ S' => ∃ f u v, ρ = [some (.ref r), some (.int f), some (.tup [.int u, .int v]), none, none, none, none] ∧ Row S' r (n + 3) ∧ Rowed S S' r ∧ Bd 44 u ∧ Bd 44 v) (fun G hG => ?_) ?_
    · dsimp only [z_law_frame_3]
      dsimp only [wZs, wZ, wE, wEs, wT, wTs, wI, lk, List.set, aTru, partS, List.take, List.drop]
      try simp only [h0, a0, e13, q_add, q_sub, q_mul, q_div, q_mod, q_pow, q_lt, q_le, q_gt, q_ge, q_eq, q_ne, q_is, q_isnt, q_isntB, q_isB, q_tb, q_ti, q_tn, q_tt, q_ixQ0, q_ixQ1, q_ixS0, q_ixS1, q_eqQ, q_neQ, q_eqSp, q_neSp, q_eqB, q_neB, q_ixT, q_lenT, q_abs, q_intI, q_intB, q_min2, q_max2, at0, at1, at2, List.length_cons, List.length_nil, sizeLine_eq, Nat.reduceAdd, Nat.reduceLeDiff, true_and, Bool.not_true, Bool.not_false, Bool.false_eq_true, if_false, reduceIte, lk, List.set, whole_int, whole_bl, whole_tup, whole_non]
      refine ⟨p13, fun q nq => ?_⟩
      have lq := up_ls (o := .lst true [.int 0, .int 10000000000000]) nq
      have dq := row.ne nq
      refine take_row (row.le lq) (by omega) (by decide) fun k S1 k0 k1 r1 o1 => ?_
      have e1 : S1 q = some (.lst true [.int 0, .int 10000000000000]) := o1 _ _ dq up_same
      have hf : ∃ f : Int, L2.atI [D.int 0, D.int 10000000000000] k = some (.int f) ∧ 0 ≤ f ∧ f ≤ 10000000000000 := by
        have : k = 0 ∨ k = 1 := by omega
        rcases this with rfl | rfl
        · exact ⟨0, at0, by decide, by decide⟩
        · exact ⟨_, at1, by decide, by decide⟩
      obtain ⟨f, ef, f0, f1⟩ := hf
      try simp only [q_ixL, e1, ef, q_add, q_sub, q_mul, q_div, q_mod, q_pow, q_lt, q_le, q_gt, q_ge, q_eq, q_ne, q_is, q_isnt, q_isntB, q_isB, q_tb, q_ti, q_tn, q_tt, q_ixQ0, q_ixQ1, q_ixS0, q_ixS1, q_eqQ, q_neQ, q_eqSp, q_neSp, q_eqB, q_neB, q_ixT, q_lenT, q_abs, q_intI, q_intB, q_min2, q_max2, at0, at1, at2, List.length_cons, List.length_nil, sizeLine_eq, Nat.reduceAdd, Nat.reduceLeDiff, true_and, Bool.not_true, Bool.not_false, Bool.false_eq_true, if_false, reduceIte, lk, List.set, whole_int, whole_bl, whole_tup, whole_non]
      refine ⟨mul_okL (by decide), take_row r1 (by omega) ⟨by omega, by omega⟩ fun u S2 u0 u1 r2 o2 => ?_⟩
      try simp only [true_and, q_add, q_sub, q_mul, q_div, q_mod, q_pow, q_lt, q_le, q_gt, q_ge, q_eq, q_ne, q_is, q_isnt, q_isntB, q_isB, q_tb, q_ti, q_tn, q_tt, q_ixQ0, q_ixQ1, q_ixS0, q_ixS1, q_eqQ, q_neQ, q_eqSp, q_neSp, q_eqB, q_neB, q_ixT, q_lenT, q_abs, q_intI, q_intB, q_min2, q_max2, at0, at1, at2, List.length_cons, List.length_nil, sizeLine_eq, Nat.reduceAdd, Nat.reduceLeDiff, true_and, Bool.not_true, Bool.not_false, Bool.false_eq_true, if_false, reduceIte, lk, List.set, whole_int, whole_bl, whole_tup, whole_non]
      refine ⟨mul_okL (by decide), take_row r2 (by omega) ⟨by omega, by omega⟩ fun v S3 v0 v1 r3 o3 => ?_⟩
      try simp only [true_and, q_add, q_sub, q_mul, q_div, q_mod, q_pow, q_lt, q_le, q_gt, q_ge, q_eq, q_ne, q_is, q_isnt, q_isntB, q_isB, q_tb, q_ti, q_tn, q_tt, q_ixQ0, q_ixQ1, q_ixS0, q_ixS1, q_eqQ, q_neQ, q_eqSp, q_neSp, q_eqB, q_neB, q_ixT, q_lenT, q_abs, q_intI, q_intB, q_min2, q_max2, at0, at1, at2, List.length_cons, List.length_nil, sizeLine_eq, Nat.reduceAdd, Nat.reduceLeDiff, true_and, Bool.not_true, Bool.not_false, Bool.false_eq_true, if_false, reduceIte, lk, List.set, whole_int, whole_bl, whole_tup, whole_non]
      exact hG _ _ ⟨f, u - f, v - f, rfl, r3.mono (by omega), (le_rowed lq).trans (o1.trans (o2.trans o3)), by unfold Bd; omega, by unfold Bd; omega⟩
    rintro ρ S1 ⟨f, u, v, rfl, r1, o1, bu, bv⟩
    dsimp only [z_law_frame_3, List.drop]
    refine cut 2 (fun ρ S' => ∃ p a b c, ρ = [some (.ref r), some (.int f), some (.tup [.int u, .int v]), some (.ref p), none, none, none] ∧ S' p = some (.lst true [dS a, dS b, dS c]) ∧ Row S' r (n + 20) ∧ Rowed S S' r ∧ SzS 6 a ∧ SzS 6 b ∧ SzS 6 c ∧ tw a b c ≠ 0) (fun G hG => ?_) ?_
    · dsimp only [wZs, wZ, wE, wEs, wT, wTs, wI, lk, List.set, aTru, partS, List.take, List.drop]
      try simp only [h0, a0, h38, a38, h50, a50, q_add, q_sub, q_mul, q_div, q_mod, q_pow, q_lt, q_le, q_gt, q_ge, q_eq, q_ne, q_is, q_isnt, q_isntB, q_isB, q_tb, q_ti, q_tn, q_tt, q_ixQ0, q_ixQ1, q_ixS0, q_ixS1, q_eqQ, q_neQ, q_eqSp, q_neSp, q_eqB, q_neB, q_ixT, q_lenT, q_abs, q_intI, q_intB, q_min2, q_max2, at0, at1, at2, List.length_cons, List.length_nil, sizeLine_eq, Nat.reduceAdd, Nat.reduceLeDiff, true_and, Bool.not_true, Bool.not_false, Bool.false_eq_true, if_false, reduceIte, lk, List.set, whole_int, whole_bl, whole_tup, whole_non]
      refine ⟨n + 3, r1, by omega, fun a S2 ha r2 o2 => ⟨n + 3 + 4, r2, by omega, fun b S3 hb r3 o3 => ⟨n + 3 + 4 + 4, r3, by omega, fun c S4 hc r4 o4 p np => ?_⟩⟩⟩
      have o := (o1.trans (o2.trans (o3.trans o4))).new (o := .lst true [dS a, dS b, dS c]) np
      have r5 := (r4.ne' (o := .lst true [dS a, dS b, dS c]) np)
      have ep : (S4.up p (.lst true [dS a, dS b, dS c])) p = some (.lst true [dS a, dS b, dS c]) := up_same
      generalize S4.up p (.lst true [dS a, dS b, dS c]) = S5 at o r5 ep
      try simp only [q_ixL, ep, q_add, q_sub, q_mul, q_div, q_mod, q_pow, q_lt, q_le, q_gt, q_ge, q_eq, q_ne, q_is, q_isnt, q_isntB, q_isB, q_tb, q_ti, q_tn, q_tt, q_ixQ0, q_ixQ1, q_ixS0, q_ixS1, q_eqQ, q_neQ, q_eqSp, q_neSp, q_eqB, q_neB, q_ixT, q_lenT, q_abs, q_intI, q_intB, q_min2, q_max2, at0, at1, at2, List.length_cons, List.length_nil, sizeLine_eq, Nat.reduceAdd, Nat.reduceLeDiff, true_and, Bool.not_true, Bool.not_false, Bool.false_eq_true, if_false, reduceIte, lk, List.set, whole_int, whole_bl, whole_tup, whole_non]
      refine ⟨a, b, c, 6, rfl, rfl, rfl, by decide, ha, hb, hc, ?_⟩
      try simp only [true_and, q_add, q_sub, q_mul, q_div, q_mod, q_pow, q_lt, q_le, q_gt, q_ge, q_eq, q_ne, q_is, q_isnt, q_isntB, q_isB, q_tb, q_ti, q_tn, q_tt, q_ixQ0, q_ixQ1, q_ixS0, q_ixS1, q_eqQ, q_neQ, q_eqSp, q_neSp, q_eqB, q_neB, q_ixT, q_lenT, q_abs, q_intI, q_intB, q_min2, q_max2, at0, at1, at2, List.length_cons, List.length_nil, sizeLine_eq, Nat.reduceAdd, Nat.reduceLeDiff, true_and, Bool.not_true, Bool.not_false, Bool.false_eq_true, if_false, reduceIte, lk, List.set, whole_int, whole_bl, whole_tup, whole_non]
      refine if_b (fun hz => ?_) fun hz => ?_
      · refine take_row r5 (by omega) (by decide) fun k S6 k0 k1 r6 o6 => ?_
        try simp only [true_and, q_add, q_sub, q_mul, q_div, q_mod, q_pow, q_lt, q_le, q_gt, q_ge, q_eq, q_ne, q_is, q_isnt, q_isntB, q_isB, q_tb, q_ti, q_tn, q_tt, q_ixQ0, q_ixQ1, q_ixS0, q_ixS1, q_eqQ, q_neQ, q_eqSp, q_neSp, q_eqB, q_neB, q_ixT, q_lenT, q_abs, q_intI, q_intB, q_min2, q_max2, at0, at1, at2, List.length_cons, List.length_nil, sizeLine_eq, Nat.reduceAdd, Nat.reduceLeDiff, true_and, Bool.not_true, Bool.not_false, Bool.false_eq_true, if_false, reduceIte, lk, List.set, whole_int, whole_bl, whole_tup, whole_non]
        intro q nq
        refine hG _ _ ⟨q, (0, 0), (1, 0), ((k : Rat), 1), rfl, ?_, (r6.ne' nq).mono (by omega), o.trans (o6.new nq), ⟨sz_small (.inl rfl) (by decide), sz_small (.inl rfl) (by decide)⟩, ⟨sz_small (.inr rfl) (by decide), sz_small (.inl rfl) (by decide)⟩, ⟨sz_int (by omega) (by decide), sz_small (.inr rfl) (by decide)⟩, ?_⟩
        · rw [up_same]
          rfl
        · unfold tw
          grind
      · exact hG _ _ ⟨p, a, b, c, rfl, ep, r5.mono (by omega), o, ha, hb, hc, fun z => hz (sgn_zero.mpr z)⟩
    rintro ρ S2 ⟨p, a, b, c, rfl, ep, r2, o2, ha, hb, hc, hne⟩
    have bo : ∀ {x : Rat}, Sz 6 x → ∀ {w : Int}, Bd 44 w → IntMulOk w x.den := fun hx _ hw => hw.ok hx.bd.2 (by decide)
    dsimp only [List.drop]
    dsimp only [wZs, wZ, wE, wEs, wT, wTs, wI, lk, List.set, aTru, partS, List.take, List.drop]
    try simp only [true_and, q_add, q_sub, q_mul, q_div, q_mod, q_pow, q_lt, q_le, q_gt, q_ge, q_eq, q_ne, q_is, q_isnt, q_isntB, q_isB, q_tb, q_ti, q_tn, q_tt, q_ixQ0, q_ixQ1, q_ixS0, q_ixS1, q_eqQ, q_neQ, q_eqSp, q_neSp, q_eqB, q_neB, q_ixT, q_lenT, q_abs, q_intI, q_intB, q_min2, q_max2, at0, at1, at2, List.length_cons, List.length_nil, sizeLine_eq, Nat.reduceAdd, Nat.reduceLeDiff, true_and, Bool.not_true, Bool.not_false, Bool.false_eq_true, if_false, reduceIte, lk, List.set, whole_int, whole_bl, whole_tup, whole_non]
    intro q nq
    have dqp : q ≠ p := fun z => by rw [z, ep] at nq; cases nq
    have lq : ∀ {o : O}, (S2.up q o) p = some (.lst true [dS a, dS b, dS c]) := by
      intro o
      rw [up_oth dqp]
      exact ep
    simp only [lq, forS, Src.ok, true_and]
    try simp only [q_isL, q_append, up_same, upup, dS, lq, sh_q, List.nil_append, List.cons_append, q_seqL, biS, q_add, q_sub, q_mul, q_div, q_mod, q_pow, q_lt, q_le, q_gt, q_ge, q_eq, q_ne, q_is, q_isnt, q_isntB, q_isB, q_tb, q_ti, q_tn, q_tt, q_ixQ0, q_ixQ1, q_ixS0, q_ixS1, q_eqQ, q_neQ, q_eqSp, q_neSp, q_eqB, q_neB, q_ixT, q_lenT, q_abs, q_intI, q_intB, q_min2, q_max2, at0, at1, at2, List.length_cons, List.length_nil, sizeLine_eq, Nat.reduceAdd, Nat.reduceLeDiff, true_and, Bool.not_true, Bool.not_false, Bool.false_eq_true, if_false, reduceIte, lk, List.set, whole_int, whole_bl, whole_tup, whole_non]
    refine ⟨bo ha.1 bu, bo ha.2 bv, by (first | decide | (simp only [List.length_append, List.length_cons, List.length_nil]; decide)), bo hb.1 bu, bo hb.2 bv, by (first | decide | (simp only [List.length_append, List.length_cons, List.length_nil]; decide)), bo hc.1 bu, bo hc.2 bv, by (first | decide | (simp only [List.length_append, List.length_cons, List.length_nil]; decide)), ?_⟩
    refine ret_now (h (a.1 + u, a.2 + v) (b.1 + u, b.2 + v) (c.1 + u, c.2 + v) _ ⟨sh_sz ha.1 bu, sh_sz ha.2 bv⟩ ⟨sh_sz hb.1 bu, sh_sz hb.2 bv⟩ ⟨sh_sz hc.1 bu, sh_sz hc.2 bv⟩ ?_ ?_ (r2.ne' nq) (o2.new nq))
    rotate_left
    · simp only [List.forall_mem_cons, List.not_mem_nil, false_implies, implies_true, and_true, sh_den]
      exact ⟨⟨ha.1.2, ha.2.2⟩, ⟨hb.1.2, hb.2.2⟩, hc.1.2, hc.2.2⟩
    rwa [show tw (a.1 + u, a.2 + v) (b.1 + u, b.2 + v) (c.1 + u, c.2 + v) = tw a b c by unfold tw; grind]
  · exact h.elim
/-- three with all colours have an area -/
def c_law_full : Con := fun ds S P _ => match ds with
  | [f, .int p, .ref l] => ∃ a b c r s t w, f = d3 a b c ∧ S l = some (.lst w [dS r, dS s, dS t]) ∧ SzS 490 a ∧ SzS 490 b ∧ SzS 490 c ∧ SzS 490 r ∧ SzS 490 s ∧ SzS 490 t ∧ tw a b c ≠ 0 ∧ p ∈ primesL ∧ ∀ S', Sto.le S S' → P (.bl true) S'
  | _ => False
theorem m_law_full {Γ : Gam} (h59 : Γ.fn 59 = c_colour_by) (a59 : Γ.ar 59 = 3) (h45 : Γ.fn 45 = c_twice_of) (a45 : Γ.ar 45 = 3) (h11 : Γ.fn 11 = c_quotient) (a11 : Γ.ar 11 = 2) (h28 : Γ.fn 28 = c_power_in) (a28 : Γ.ar 28 = 2) : Meets Γ 5 z_law_full c_law_full := by
  intro ds S P W h
  unfold c_law_full at h
  split at h
  · rename_i f p l
    obtain ⟨a, b, c, r, s, t, w, rfl, el, ha, hb, hc, hr, hs, ht, hne, hpp, h⟩ := h
    change wZs Γ z_law_full (retE P) [some (d3 a b c), some (.int p), some (.ref l), none, none] S (errW W)
    dsimp only [z_law_full]
    dsimp only [wZs, wZ, wE, wEs, wT, wTs, wI, lk, List.set, aTru, partS, List.take, List.drop]
    try simp only [el, q_add, q_sub, q_mul, q_div, q_mod, q_pow, q_lt, q_le, q_gt, q_ge, q_eq, q_ne, q_is, q_isnt, q_isntB, q_isB, q_tb, q_ti, q_tn, q_tt, q_ixQ0, q_ixQ1, q_ixS0, q_ixS1, q_eqQ, q_neQ, q_eqSp, q_neSp, q_eqB, q_neB, q_ixT, q_lenT, q_abs, q_intI, q_intB, q_min2, q_max2, at0, at1, at2, List.length_cons, List.length_nil, sizeLine_eq, Nat.reduceAdd, Nat.reduceLeDiff, true_and, Bool.not_true, Bool.not_false, Bool.false_eq_true, if_false, reduceIte, lk, List.set, whole_int, whole_bl, whole_tup, whole_non]
    intro q nq
    have el' : S l = some (.lst w ([r, s, t].map dS)) := el
    refine lc_enc dS (fun x => D.int (colF p a b c x)) (l := [r, s, t]) nq el' (by rw [sizeLine_eq]; (first | decide | (simp only [List.length_append, List.length_cons, List.length_nil]; decide))) (fun x hx T K G hT hK => ?_) fun T hT eT => ?_
    · have hx' : SzS 490 x := by
        simp only [List.mem_cons, List.not_mem_nil, or_false] at hx
        rcases hx with rfl | rfl | rfl <;> assumption
      try simp only [h59, a59, wipeD, q_add, q_sub, q_mul, q_div, q_mod, q_pow, q_lt, q_le, q_gt, q_ge, q_eq, q_ne, q_is, q_isnt, q_isntB, q_isB, q_tb, q_ti, q_tn, q_tt, q_ixQ0, q_ixQ1, q_ixS0, q_ixS1, q_eqQ, q_neQ, q_eqSp, q_neSp, q_eqB, q_neB, q_ixT, q_lenT, q_abs, q_intI, q_intB, q_min2, q_max2, at0, at1, at2, List.length_cons, List.length_nil, sizeLine_eq, Nat.reduceAdd, Nat.reduceLeDiff, true_and, Bool.not_true, Bool.not_false, Bool.false_eq_true, if_false, reduceIte, lk, List.set, whole_int, whole_bl, whole_tup, whole_non]
      refine ⟨a, b, c, x, rfl, rfl, ha, hb, hc, hx', ⟨_, rfl⟩, fun z => (hne z).elim, fun _ z => ?_, fun p' _ ep _ => ?_⟩
      · rw [show primeD (.int p) = true from decide_eq_true hpp] at z
        cases z
      · cases ep
        exact hK _ (Sto.le.refl _)
    · have eT' : T q = some (.lst true ([colF p a b c r, colF p a b c s, colF p a b c t].map D.int)) := eT
      have hso : ∀ Q : PD, (∀ (ns : List Int) q2 T2, ns.Perm [colF p a b c r, colF p a b c s, colF p a b c t] → Sto.le T T2 → T2 q2 = some (.lst true (ns.map D.int)) → Q (.ref q2) T2) → biS .sorted [.ref q] T Q := fun Q hQ => by
        simp only [biS, lstD, eT', int_map]
        exact fun ns' p' hperm _ np' => hQ ns' p' _ hperm (up_ls np') up_same
      refine hso _ fun ns q2 T2 hperm l2 e2 => ?_
      intro q3 nq3
      have l3 := up_ls (o := .lst true [.int 0, .int 1, .int 2]) nq3
      have e3 : (T2.up q3 (.lst true [.int 0, .int 1, .int 2])) q2 = some (.lst true (ns.map D.int)) := l3 _ _ e2
      have e3' : (T2.up q3 (.lst true [.int 0, .int 1, .int 2])) q3 = some (.lst true (([0, 1, 2] : List Int).map D.int)) := up_same
      have L : Sto.le S (T2.up q3 (.lst true [.int 0, .int 1, .int 2])) := hT.trans (l2.trans l3)
      generalize T2.up q3 (.lst true [.int 0, .int 1, .int 2]) = T3 at e3 e3' L
      rw [encI.q_neL (by decide) e3 e3']
      try simp only [true_and, q_add, q_sub, q_mul, q_div, q_mod, q_pow, q_lt, q_le, q_gt, q_ge, q_eq, q_ne, q_is, q_isnt, q_isntB, q_isB, q_tb, q_ti, q_tn, q_tt, q_ixQ0, q_ixQ1, q_ixS0, q_ixS1, q_eqQ, q_neQ, q_eqSp, q_neSp, q_eqB, q_neB, q_ixT, q_lenT, q_abs, q_intI, q_intB, q_min2, q_max2, at0, at1, at2, List.length_cons, List.length_nil, sizeLine_eq, Nat.reduceAdd, Nat.reduceLeDiff, true_and, Bool.not_true, Bool.not_false, Bool.false_eq_true, if_false, reduceIte, lk, List.set, whole_int, whole_bl, whole_tup, whole_non]
      refine if_nb (fun hz => ?_) fun hz => ?_
      · exact ret_now (h T3 L)
      · obtain ⟨f1, f2⟩ := full_any hpp hne hperm hz
        have elT : T3 l = some (.lst w [dS r, dS s, dS t]) := L _ _ el
        have up' : ∀ {z : Spot}, SzS 490 z → SzS 1100 z := fun h => h.mono (by decide)
        try simp only [q_ixL, elT, h45, a45, h11, a11, h28, a28, d3, q_add, q_sub, q_mul, q_div, q_mod, q_pow, q_lt, q_le, q_gt, q_ge, q_eq, q_ne, q_is, q_isnt, q_isntB, q_isB, q_tb, q_ti, q_tn, q_tt, q_ixQ0, q_ixQ1, q_ixS0, q_ixS1, q_eqQ, q_neQ, q_eqSp, q_neSp, q_eqB, q_neB, q_ixT, q_lenT, q_abs, q_intI, q_intB, q_min2, q_max2, at0, at1, at2, List.length_cons, List.length_nil, sizeLine_eq, Nat.reduceAdd, Nat.reduceLeDiff, true_and, Bool.not_true, Bool.not_false, Bool.false_eq_true, if_false, reduceIte, lk, List.set, whole_int, whole_bl, whole_tup, whole_non]
        refine ⟨r, s, t, rfl, rfl, rfl, up' hr, up' hs, up' ht, ?_⟩
        try simp only [true_and, q_add, q_sub, q_mul, q_div, q_mod, q_pow, q_lt, q_le, q_gt, q_ge, q_eq, q_ne, q_is, q_isnt, q_isntB, q_isB, q_tb, q_ti, q_tn, q_tt, q_ixQ0, q_ixQ1, q_ixS0, q_ixS1, q_eqQ, q_neQ, q_eqSp, q_neSp, q_eqB, q_neB, q_ixT, q_lenT, q_abs, q_intI, q_intB, q_min2, q_max2, at0, at1, at2, List.length_cons, List.length_nil, sizeLine_eq, Nat.reduceAdd, Nat.reduceLeDiff, true_and, Bool.not_true, Bool.not_false, Bool.false_eq_true, if_false, reduceIte, lk, List.set, whole_int, whole_bl, whole_tup, whole_non]
        refine if_b (fun hz => (f1 (Rat.num_eq_zero.mp hz)).elim) fun hz => ?_
        refine ⟨a, b, c, rfl, rfl, rfl, up' ha, up' hb, up' hc, ?_⟩
        refine quotient_q ((hr.tw hs ht).mono (by decide)) ((ha.tw hb hc).mono (by decide)) (fun z => (hne z).elim) fun _ => ?_
        refine power_q hpp (fun z => ?_) fun z => ?_
        · exfalso
          apply f1
          generalize tw r s t = A at *
          generalize tw a b c = B at *
          grind
        · try simp only [true_and, q_add, q_sub, q_mul, q_div, q_mod, q_pow, q_lt, q_le, q_gt, q_ge, q_eq, q_ne, q_is, q_isnt, q_isntB, q_isB, q_tb, q_ti, q_tn, q_tt, q_ixQ0, q_ixQ1, q_ixS0, q_ixS1, q_eqQ, q_neQ, q_eqSp, q_neSp, q_eqB, q_neB, q_ixT, q_lenT, q_abs, q_intI, q_intB, q_min2, q_max2, at0, at1, at2, List.length_cons, List.length_nil, sizeLine_eq, Nat.reduceAdd, Nat.reduceLeDiff, true_and, Bool.not_true, Bool.not_false, Bool.false_eq_true, if_false, reduceIte, lk, List.set, whole_int, whole_bl, whole_tup, whole_non]
          rw [decide_eq_true f2]
          exact ret_now (h T3 L)
  · exact h.elim
end Sd
namespace Sd
open PySem
/-- the spot of two numbers in a frame -/
def frS (a b c : Spot) (x y : Rat) : Spot := (a.1 + x * (b.1 - a.1) + y * (c.1 - a.1), a.2 + x * (b.2 - a.2) + y * (c.2 - a.2))
theorem mid_fr1 {A B C x y : Rat} : (((x.den * y.den - x.num * y.den - y.num * x.den : Int) : Rat) * A + (((x.num * y.den : Int) : Rat) * B + (((y.num * x.den : Int) : Rat) * C + 0))) / ((x.den * y.den : Int) : Rat) = A + x * (B - A) + y * (C - A) := by
  have h1 := rat_eq x; have h2 := rat_eq y; have h3 := den_ne x; have h4 := den_ne y
  simp only [Rat.intCast_sub, Rat.intCast_mul]
  grind
theorem mid_fr {a b c : Spot} {x y : Rat} : mid [a, b, c] [x.den * y.den - x.num * y.den - y.num * x.den, x.num * y.den, y.num * x.den] = frS a b c x y := by
  have e : ([(x.den : Int) * y.den - x.num * y.den - y.num * x.den, x.num * y.den, y.num * x.den] : List Int).sum = x.den * y.den := by
    simp only [List.sum_cons, List.sum_nil]
    omega
  unfold mid wm wsm frS
  rw [e]
  simp only [List.zip_cons_cons, List.zip_nil_right, List.map_cons, List.map_nil, qsum, mid_fr1]
theorem fr_sz {a b c : Spot} {x y : Rat} (ha : SzS 51 a) (hb : SzS 51 b) (hc : SzS 51 c) (hx : Sz 45 x) (hy : Sz 45 y) : SzS 490 (frS a b c x y) :=
  ⟨((ha.1.add (hx.mul (hb.1.sub ha.1))).add (hy.mul (hc.1.sub ha.1))).mono (by decide), ((ha.2.add (hx.mul (hb.2.sub ha.2))).add (hy.mul (hc.2.sub ha.2))).mono (by decide)⟩
theorem fr_col {p : Int} {a b c : Spot} {x y : Rat} (h : tw a b c ≠ 0) : colF p a b c (frS a b c x y) = col p x y := by
  unfold colF
  have e1 : tw a (frS a b c x y) c = x * tw a b c := by unfold tw frS; grind
  have e2 : tw a b (frS a b c x y) = y * tw a b c := by unfold tw frS; grind
  rw [e1, e2]
  generalize tw a b c = T at *
  congr 1 <;> grind
theorem prime_atB {k : Int} (h0 : 0 ≤ k) (h1 : k < 25) : ∃ p, L2.atI (primesL.map D.int) k = some (.int p) ∧ p ∈ primesL := by
  have hl : k.toNat < (primesL.map D.int).length := by
    rw [List.length_map]
    show k.toNat < 25
    omega
  have := at_nat (l := primesL.map D.int) (n := k.toNat) hl
  rw [show ((k.toNat : Nat) : Int) = k by omega] at this
  rw [this]
  rw [List.getElem_map]
  exact ⟨_, rfl, List.getElem_mem _⟩
theorem m_law27 {Γ : Gam} (h24 : Γ.fn 24 = c_law_primes) (a24 : Γ.ar 24 = 0) (h56 : Γ.fn 56 = c_law_frame_3) (a56 : Γ.ar 56 = 1) (h0 : Γ.fn 0 = c_law_take_2) (a0 : Γ.ar 0 = 2) (h38 : Γ.fn 38 = c_law_near) (a38 : Γ.ar 38 = 1) (h32 : Γ.fn 32 = c_law_spot) (a32 : Γ.ar 32 = 1) (h108 : Γ.fn 108 = c_law_painted) (a108 : Γ.ar 108 = 3) (h69 : Γ.fn 69 = c_law_mid) (a69 : Γ.ar 69 = 2) (h59 : Γ.fn 59 = c_colour_by) (a59 : Γ.ar 59 = 3) (h109 : Γ.fn 109 = c_law_full) (a109 : Γ.ar 109 = 3) : Meets Γ 14 z_law_19 c_lawT := by
  intro ds S P W h
  unfold c_lawT at h
  split at h
  · rename_i a
    obtain ⟨w, ns, e, hl, hp⟩ := h
    refine cut 1 (fun ρ S1 => ∃ b, S b = none ∧ S1 = S.up b (.lst true (primesL.map D.int)) ∧ ρ = [some (.ref a), some (.ref b), none, none, none, none, none, none, none, none, none, none, none, none]) (fun F hF => ?_) ?_
    · change wZs Γ _ _ [some (.ref a), none, none, none, none, none, none, none, none, none, none, none, none, none] S _
      dsimp only [z_law_19]
      dsimp only [wZs, wZ, wE, wEs, wT, wTs, wI, lk, List.set, aTru, partS, List.take, List.drop]
      try simp only [h24, a24, q_add, q_sub, q_mul, q_div, q_mod, q_pow, q_lt, q_le, q_gt, q_ge, q_eq, q_ne, q_is, q_isnt, q_isntB, q_isB, q_tb, q_ti, q_tn, q_tt, q_ixQ0, q_ixQ1, q_ixS0, q_ixS1, q_eqQ, q_neQ, q_eqSp, q_neSp, q_eqB, q_neB, q_ixT, q_lenT, q_abs, q_intI, q_intB, q_min2, q_max2, at0, at1, at2, List.length_cons, List.length_nil, sizeLine_eq, Nat.reduceAdd, Nat.reduceLeDiff, true_and, Bool.not_true, Bool.not_false, Bool.false_eq_true, if_false, reduceIte, lk, List.set, whole_int, whole_bl, whole_tup, whole_non]
      exact fun b nb => hF _ _ ⟨b, nb, rfl, rfl⟩
    rintro ρ S0 ⟨b, nb, rfl, rfl⟩
    have lb := up_ls (o := .lst true (primesL.map D.int)) nb
    have eb : (S.up b (.lst true (primesL.map D.int))) b = some (.lst true (primesL.map D.int)) := up_same
    generalize S.up b (.lst true (primesL.map D.int)) = S0 at lb eb
    change wZ Γ _ _ [some (.ref a), some (.ref b), none, none, none, none, none, none, none, none, none, none, none, none] S0 (errW W)
    refine law_for (m := 20) (fun ρ => ∃ x2 x3 x4 x5 x6 x7 x8 x9 x10 x11 x12 x13, ρ = [some (.ref a), some (.ref b), x2, x3, x4, x5, x6, x7, x8, x9, x10, x11, x12, x13]) ⟨_, _, _, _, _, _, _, _, _, _, _, _, rfl⟩ hl rfl (lb _ _ e) (fun ρ S1 hr hs => ret_le (lb.trans hs) hp) fun Sb F c ρ S1 l1 l2 hr hF => ?_
    obtain ⟨x2, x3, x4, x5, x6, x7, x8, x9, x10, x11, x12, x13, rfl⟩ := hr
    have ebb : Sb b = some (.lst true (primesL.map D.int)) := l1 _ _ eb
    refine cut 4 (fun ρ S' => ∃ r f1 f2 f3 p q, ρ = [some (.ref a), some (.ref b), some (.int c), some (.ref r), some (d3 f1 f2 f3), some (.int p), some (.ref q), x7, x8, x9, x10, x11, x12, x13] ∧ Sto.le Sb S' ∧ Sb r = none ∧ Sb q = none ∧ S' q = some (.lst true []) ∧ Row S' r 30 ∧ SzS 51 f1 ∧ SzS 51 f2 ∧ SzS 51 f3 ∧ tw f1 f2 f3 ≠ 0 ∧ p ∈ primesL ∧ q ≠ r) (fun G hG => ?_) ?_
    · dsimp only [wZs, wZ, wE, wEs, wT, wTs, wI, lk, List.set, aTru, partS, List.take, List.drop]
      try simp only [h56, a56, h0, a0, q_add, q_sub, q_mul, q_div, q_mod, q_pow, q_lt, q_le, q_gt, q_ge, q_eq, q_ne, q_is, q_isnt, q_isntB, q_isB, q_tb, q_ti, q_tn, q_tt, q_ixQ0, q_ixQ1, q_ixS0, q_ixS1, q_eqQ, q_neQ, q_eqSp, q_neSp, q_eqB, q_neB, q_ixT, q_lenT, q_abs, q_intI, q_intB, q_min2, q_max2, at0, at1, at2, List.length_cons, List.length_nil, sizeLine_eq, Nat.reduceAdd, Nat.reduceLeDiff, true_and, Bool.not_true, Bool.not_false, Bool.false_eq_true, if_false, reduceIte, lk, List.set, whole_int, whole_bl, whole_tup, whole_non]
      intro r nr
      have lr := up_ls (o := .lst true [.int c, .int 0]) nr
      have nr' := le_none l2 nr
      refine ⟨0, row_new, by decide, fun f1 f2 f3 S2 g1 g2 g3 hne _ r2 o2 => ?_⟩
      have l3 := o2.ble (l2.trans lr) nr'
      refine take_row r2 (by decide) (by decide) fun k S3 k0 k1 r3 o3 => ?_
      have l4 := o3.ble l3 nr'
      try simp only [true_and, q_add, q_sub, q_mul, q_div, q_mod, q_pow, q_lt, q_le, q_gt, q_ge, q_eq, q_ne, q_is, q_isnt, q_isntB, q_isB, q_tb, q_ti, q_tn, q_tt, q_ixQ0, q_ixQ1, q_ixS0, q_ixS1, q_eqQ, q_neQ, q_eqSp, q_neSp, q_eqB, q_neB, q_ixT, q_lenT, q_abs, q_intI, q_intB, q_min2, q_max2, at0, at1, at2, List.length_cons, List.length_nil, sizeLine_eq, Nat.reduceAdd, Nat.reduceLeDiff, true_and, Bool.not_true, Bool.not_false, Bool.false_eq_true, if_false, reduceIte, lk, List.set, whole_int, whole_bl, whole_tup, whole_non]
      refine take_row r3 (by decide) (by decide) fun k' S4 k0' k1' r4 o4 => ?_
      have l5 := o4.ble l4 nr'
      try simp only [true_and, q_add, q_sub, q_mul, q_div, q_mod, q_pow, q_lt, q_le, q_gt, q_ge, q_eq, q_ne, q_is, q_isnt, q_isntB, q_isB, q_tb, q_ti, q_tn, q_tt, q_ixQ0, q_ixQ1, q_ixS0, q_ixS1, q_eqQ, q_neQ, q_eqSp, q_neSp, q_eqB, q_neB, q_ixT, q_lenT, q_abs, q_intI, q_intB, q_min2, q_max2, at0, at1, at2, List.length_cons, List.length_nil, sizeLine_eq, Nat.reduceAdd, Nat.reduceLeDiff, true_and, Bool.not_true, Bool.not_false, Bool.false_eq_true, if_false, reduceIte, lk, List.set, whole_int, whole_bl, whole_tup, whole_non]
      intro q1 nq1
      have lq1 := up_ls (o := .lst true [.int k, .int k']) nq1
      have dq1 := r4.ne nq1
      refine take_row (r4.le lq1) (by decide) (by decide) fun k2 S5 k20 k21 r5 o5 => ?_
      have l6 := o5.ble (l5.trans lq1) nr'
      have e5 : S5 q1 = some (.lst true [.int k, .int k']) := o5 _ _ dq1 up_same
      have hk : ∃ j : Int, L2.atI [D.int k, D.int k'] k2 = some (.int j) ∧ 0 ≤ j ∧ j < 25 := by
        have : k2 = 0 ∨ k2 = 1 := by omega
        rcases this with rfl | rfl
        · exact ⟨k, at0, k0, k1⟩
        · exact ⟨k', at1, k0', by omega⟩
      obtain ⟨j, ej, j0, j1⟩ := hk
      obtain ⟨p, ep, hpp⟩ := prime_atB j0 j1
      try simp only [q_ixL, e5, ej, l6 _ _ ebb, ep, q_add, q_sub, q_mul, q_div, q_mod, q_pow, q_lt, q_le, q_gt, q_ge, q_eq, q_ne, q_is, q_isnt, q_isntB, q_isB, q_tb, q_ti, q_tn, q_tt, q_ixQ0, q_ixQ1, q_ixS0, q_ixS1, q_eqQ, q_neQ, q_eqSp, q_neSp, q_eqB, q_neB, q_ixT, q_lenT, q_abs, q_intI, q_intB, q_min2, q_max2, at0, at1, at2, List.length_cons, List.length_nil, sizeLine_eq, Nat.reduceAdd, Nat.reduceLeDiff, true_and, Bool.not_true, Bool.not_false, Bool.false_eq_true, if_false, reduceIte, lk, List.set, whole_int, whole_bl, whole_tup, whole_non]
      intro q nq
      have dq := r5.ne nq
      exact hG _ _ ⟨r, f1, f2, f3, p, q, rfl, l6.trans (up_ls nq), nr', le_none l6 nq, up_same, (r5.mono (by decide)).ne' nq, g1, g2, g3, hne, hpp, dq⟩
    rintro ρ S2 ⟨r, f1, f2, f3, p, q, rfl, l3, nr, nq, eq, r2, g1, g2, g3, hne, hpp, dqr⟩
    obtain ⟨pp2, pp3, _⟩ := primes_ok p hpp
    have v1 : SzS 490 f1 := g1.mono (by decide)
    have v2 : SzS 490 f2 := g2.mono (by decide)
    have v3 : SzS 490 f3 := g3.mono (by decide)
    dsimp only [List.drop]
    refine cut 1 (fun ρ S' => ∃ x7 x8 x9 x10 x11 s t u, ρ = [some (.ref a), some (.ref b), some (.int c), some (.ref r), some (d3 f1 f2 f3), some (.int p), some (.ref q), x7, x8, x9, x10, x11, x12, x13] ∧ Sto.le Sb S' ∧ S' q = some (.lst true [dS s, dS t, dS u]) ∧ Row S' r 200 ∧ SzS 490 s ∧ SzS 490 t ∧ SzS 490 u ∧ colF p f1 f2 f3 s = 0 ∧ colF p f1 f2 f3 t = 1 ∧ colF p f1 f2 f3 u = 2) (fun G hG => ?_) ?_
    · dsimp only [List.take]
      rw [wZs_one, wZ_for, wI_r1]
      refine ⟨by decide, for_ind (src := .free) (fun rr ρ S' => ∃ (l : List Spot) (ms : List Int) (x7 x8 x9 x10 x11 : Option D), rr = ms.map D.int ∧ l.map (colF p f1 f2 f3) ++ ms = [0, 1, 2] ∧ ρ = [some (.ref a), some (.ref b), some (.int c), some (.ref r), some (d3 f1 f2 f3), some (.int p), some (.ref q), x7, x8, x9, x10, x11, x12, x13] ∧ Sto.le Sb S' ∧ S' q = some (.lst true (l.map dS)) ∧ Row S' r (30 + 10 * l.length) ∧ ∀ s ∈ l, SzS 490 s) (fun _ _ _ _ => trivial) ?_ ?_ ⟨[], [0, 1, 2], _, _, _, _, _, rfl, rfl, rfl, l3, eq, r2.mono (by simp), by simp⟩⟩
      · rintro ρ S' ⟨l, ms, x7, x8, x9, x10, x11, hr, hc, rfl, l4, e4, r4, hz⟩
        have : ms = [] := by
          cases ms with
          | nil => rfl
          | cons _ _ => cases hr
        subst this
        have hlen : l.length = 3 := by
          have := congrArg List.length hc
          simpa using this
        match l, hlen with
        | [s, t, u], _ =>
          simp only [List.map_cons, List.map_nil, List.append_nil, List.cons.injEq, and_true] at hc
          exact hG _ _ ⟨_, _, _, _, _, s, t, u, rfl, l4, e4, r4.mono (by simp only [List.length_cons, List.length_nil]; decide), hz s (by simp), hz t (by simp), hz u (by simp), hc.1, hc.2.1, hc.2.2⟩
      · rintro F' d rr ρ S' ⟨l, ms, x7, x8, x9, x10, x11, hr, hc, rfl, l4, e4, r4, hz⟩ hF'
        cases ms with
        | nil => cases hr
        | cons m ms =>
          simp only [List.map_cons, List.cons.injEq] at hr
          obtain ⟨rfl, rfl⟩ := hr
          have hm : m ∈ ([0, 1, 2] : List Int) := by rw [← hc]; simp
          have hlen : l.length ≤ 2 := by
            have := congrArg List.length hc
            simp only [List.length_append, List.length_map, List.length_cons, List.length_nil] at this
            omega
          simp only [List.mem_cons, List.not_mem_nil, or_false] at hm
          dsimp only [wZs, wZ, wE, wEs, wT, wTs, wI, lk, List.set, aTru, partS, List.take, List.drop]
          try simp only [h108, a108, h69, a69, q_add, q_sub, q_mul, q_div, q_mod, q_pow, q_lt, q_le, q_gt, q_ge, q_eq, q_ne, q_is, q_isnt, q_isntB, q_isB, q_tb, q_ti, q_tn, q_tt, q_ixQ0, q_ixQ1, q_ixS0, q_ixS1, q_eqQ, q_neQ, q_eqSp, q_neSp, q_eqB, q_neB, q_ixT, q_lenT, q_abs, q_intI, q_intB, q_min2, q_max2, at0, at1, at2, List.length_cons, List.length_nil, sizeLine_eq, Nat.reduceAdd, Nat.reduceLeDiff, true_and, Bool.not_true, Bool.not_false, Bool.false_eq_true, if_false, reduceIte, lk, List.set, whole_int, whole_bl, whole_tup, whole_non]
          refine ⟨30 + 10 * l.length, r4, by omega, hpp, by omega, by omega, fun q2 x y S3 hcol sx sy nq2 eq2 r5 o5 => ?_⟩
          have l5 := o5.ble l4 nr
          have e5 := o5 _ _ dqr e4
          have bx := sx.bd; have bY := sy.bd
          simp only [eq2, dQ]
          try simp only [q_isL, e5, biS, seqD, d3, q_add, q_sub, q_mul, q_div, q_mod, q_pow, q_lt, q_le, q_gt, q_ge, q_eq, q_ne, q_is, q_isnt, q_isntB, q_isB, q_tb, q_ti, q_tn, q_tt, q_ixQ0, q_ixQ1, q_ixS0, q_ixS1, q_eqQ, q_neQ, q_eqSp, q_neSp, q_eqB, q_neB, q_ixT, q_lenT, q_abs, q_intI, q_intB, q_min2, q_max2, at0, at1, at2, List.length_cons, List.length_nil, sizeLine_eq, Nat.reduceAdd, Nat.reduceLeDiff, true_and, Bool.not_true, Bool.not_false, Bool.false_eq_true, if_false, reduceIte, lk, List.set, whole_int, whole_bl, whole_tup, whole_non]
          intro q3 nq3
          have lq3 := up_ls (o := .lst true [dS f1, dS f2, dS f3]) nq3
          refine ⟨bx.2.ok bY.2 (by decide), bx.1.ok bY.2 (by decide), bY.1.ok bx.2 (by decide), bx.1.ok bY.2 (by decide), bY.1.ok bx.2 (by decide), fun q4 nq4 => ?_⟩
          have lq4 := up_ls (o := .lst true [.int ((x.den : Int) * y.den - x.num * y.den - y.num * x.den), .int (x.num * y.den), .int (y.num * x.den)]) nq4
          have hsum : ([(x.den : Int) * y.den - x.num * y.den - y.num * x.den, x.num * y.den, y.num * x.den] : List Int).sum ≠ 0 := by
            rw [show ([(x.den : Int) * y.den - x.num * y.den - y.num * x.den, x.num * y.den, y.num * x.den] : List Int).sum = x.den * y.den by
              simp only [List.sum_cons, List.sum_nil]
              omega]
            exact Int.mul_ne_zero (den_neI x) (den_neI y)
          refine ⟨true, true, [f1, f2, f3], [(x.den : Int) * y.den - x.num * y.den - y.num * x.den, x.num * y.den, y.num * x.den], 51, 93, lq4 _ _ up_same, up_same, by (first | decide | (simp only [List.length_append, List.length_cons, List.length_nil]; decide)), by (first | decide | (simp only [List.length_append, List.length_cons, List.length_nil]; decide)), by decide, by decide, ?_, ?_, hsum, ?_⟩
          · simp only [List.forall_mem_cons, List.not_mem_nil, false_implies, implies_true, and_true]
            exact ⟨g1, g2, g3⟩
          · simp only [List.forall_mem_cons, List.not_mem_nil, false_implies, implies_true, and_true]
            exact ⟨(((bx.2.mul bY.2).sub (bx.1.mul bY.2)).sub ((bY.1.mul bx.2).mono (by decide))).mono (by decide), (bx.1.mul bY.2).mono (by decide), (bY.1.mul bx.2).mono (by decide)⟩
          · rw [mid_fr]
            have L := lq3.trans lq4
            have e6 := L _ _ e5
            have r6 := r5.le L
            have l6 := l5.trans L
            generalize Sto.up _ q4 _ = S4 at L e6 r6 l6
            try simp only [q_append, e6, q_add, q_sub, q_mul, q_div, q_mod, q_pow, q_lt, q_le, q_gt, q_ge, q_eq, q_ne, q_is, q_isnt, q_isntB, q_isB, q_tb, q_ti, q_tn, q_tt, q_ixQ0, q_ixQ1, q_ixS0, q_ixS1, q_eqQ, q_neQ, q_eqSp, q_neSp, q_eqB, q_neB, q_ixT, q_lenT, q_abs, q_intI, q_intB, q_min2, q_max2, at0, at1, at2, List.length_cons, List.length_nil, sizeLine_eq, Nat.reduceAdd, Nat.reduceLeDiff, true_and, Bool.not_true, Bool.not_false, Bool.false_eq_true, if_false, reduceIte, lk, List.set, whole_int, whole_bl, whole_tup, whole_non]
            refine ⟨by rw [List.length_map]; omega, hF' _ _ ⟨l ++ [frS f1 f2 f3 x y], ms, _, _, _, _, _, rfl, ?_, rfl, ?_, by rw [up_same, List.map_append]; rfl, ?_, ?_⟩⟩
            · rw [List.map_append, List.append_assoc, List.map_cons, List.map_nil, fr_col hne, hcol]
              exact hc
            · intro z o ez
              rw [up_oth (fun w => by rw [← w, nq] at ez; cases ez)]
              exact l6 _ _ ez
            · obtain ⟨c', m', e', m0, m1⟩ := r6
              refine ⟨c', m', by rw [up_oth dqr]; exact e', m0, ?_⟩
              rw [List.length_append]
              simp only [List.length_cons, List.length_nil]
              omega
            · intro s hs
              rcases List.mem_append.mp hs with z | z
              · exact hz s z
              · rw [List.mem_singleton.mp z]
                exact fr_sz g1 g2 g3 sx sy
    rintro ρ S3 ⟨y7, y8, y9, y10, y11, s, t, u, rfl, l4, e4, r4, hs, ht, hu, cs, ct, cu⟩
    dsimp only [List.drop]
    refine cut 1 (fun ρ S' => ρ = [some (.ref a), some (.ref b), some (.int c), some (.ref r), some (d3 f1 f2 f3), some (.int p), some (.ref q), y7, y8, y9, y10, y11, x12, x13] ∧ Sto.le S3 S') (fun G hG => ?_) ?_
    · dsimp only [wZs, wZ, wE, wEs, wT, wTs, wI, lk, List.set, aTru, partS, List.take, List.drop]
      try simp only [e4, q_add, q_sub, q_mul, q_div, q_mod, q_pow, q_lt, q_le, q_gt, q_ge, q_eq, q_ne, q_is, q_isnt, q_isntB, q_isB, q_tb, q_ti, q_tn, q_tt, q_ixQ0, q_ixQ1, q_ixS0, q_ixS1, q_eqQ, q_neQ, q_eqSp, q_neSp, q_eqB, q_neB, q_ixT, q_lenT, q_abs, q_intI, q_intB, q_min2, q_max2, at0, at1, at2, List.length_cons, List.length_nil, sizeLine_eq, Nat.reduceAdd, Nat.reduceLeDiff, true_and, Bool.not_true, Bool.not_false, Bool.false_eq_true, if_false, reduceIte, lk, List.set, whole_int, whole_bl, whole_tup, whole_non]
      intro q2 nq2
      have e4' : S3 q = some (.lst true ([s, t, u].map dS)) := e4
      refine lc_enc dS (fun x => D.int (colF p f1 f2 f3 x)) (l := [s, t, u]) nq2 e4' (by rw [sizeLine_eq]; (first | decide | (simp only [List.length_append, List.length_cons, List.length_nil]; decide))) (fun x hx T K G hT hK => ?_) fun T hT eT => ?_
      · have hx' : SzS 490 x := by
          simp only [List.mem_cons, List.not_mem_nil, or_false] at hx
          rcases hx with rfl | rfl | rfl <;> assumption
        try simp only [h59, a59, wipeD, q_add, q_sub, q_mul, q_div, q_mod, q_pow, q_lt, q_le, q_gt, q_ge, q_eq, q_ne, q_is, q_isnt, q_isntB, q_isB, q_tb, q_ti, q_tn, q_tt, q_ixQ0, q_ixQ1, q_ixS0, q_ixS1, q_eqQ, q_neQ, q_eqSp, q_neSp, q_eqB, q_neB, q_ixT, q_lenT, q_abs, q_intI, q_intB, q_min2, q_max2, at0, at1, at2, List.length_cons, List.length_nil, sizeLine_eq, Nat.reduceAdd, Nat.reduceLeDiff, true_and, Bool.not_true, Bool.not_false, Bool.false_eq_true, if_false, reduceIte, lk, List.set, whole_int, whole_bl, whole_tup, whole_non]
        refine ⟨f1, f2, f3, x, rfl, rfl, v1, v2, v3, hx', ⟨_, rfl⟩, fun z => (hne z).elim, fun _ z => ?_, fun p' _ ep _ => ?_⟩
        · rw [show primeD (.int p) = true from decide_eq_true hpp] at z
          cases z
        · cases ep
          exact hK _ (Sto.le.refl _)
      · have eT' : T q2 = some (.lst true (([0, 1, 2] : List Int).map D.int)) := by
          rw [eT]
          simp only [List.map_cons, List.map_nil, cs, ct, cu]
        intro q3 nq3
        have l5 := up_ls (o := .lst true [.int 0, .int 1, .int 2]) nq3
        rw [encI.q_neL (by decide) (l5 _ _ eT') (m := [0, 1, 2]) up_same]
        try simp only [h109, a109, decide_true, q_add, q_sub, q_mul, q_div, q_mod, q_pow, q_lt, q_le, q_gt, q_ge, q_eq, q_ne, q_is, q_isnt, q_isntB, q_isB, q_tb, q_ti, q_tn, q_tt, q_ixQ0, q_ixQ1, q_ixS0, q_ixS1, q_eqQ, q_neQ, q_eqSp, q_neSp, q_eqB, q_neB, q_ixT, q_lenT, q_abs, q_intI, q_intB, q_min2, q_max2, at0, at1, at2, List.length_cons, List.length_nil, sizeLine_eq, Nat.reduceAdd, Nat.reduceLeDiff, true_and, Bool.not_true, Bool.not_false, Bool.false_eq_true, if_false, reduceIte, lk, List.set, whole_int, whole_bl, whole_tup, whole_non]
        refine ⟨f1, f2, f3, s, t, u, true, rfl, l5 _ _ (hT _ _ e4), v1, v2, v3, hs, ht, hu, hne, hpp, fun S' hS' => ?_⟩
        try simp only [true_and, q_add, q_sub, q_mul, q_div, q_mod, q_pow, q_lt, q_le, q_gt, q_ge, q_eq, q_ne, q_is, q_isnt, q_isntB, q_isB, q_tb, q_ti, q_tn, q_tt, q_ixQ0, q_ixQ1, q_ixS0, q_ixS1, q_eqQ, q_neQ, q_eqSp, q_neSp, q_eqB, q_neB, q_ixT, q_lenT, q_abs, q_intI, q_intB, q_min2, q_max2, at0, at1, at2, List.length_cons, List.length_nil, sizeLine_eq, Nat.reduceAdd, Nat.reduceLeDiff, true_and, Bool.not_true, Bool.not_false, Bool.false_eq_true, if_false, reduceIte, lk, List.set, whole_int, whole_bl, whole_tup, whole_non]
        exact hG _ _ ⟨rfl, hT.trans (l5.trans hS')⟩
    rintro ρ S4 ⟨rfl, l5⟩
    have e5 := l5 _ _ e4
    have r5 := r4.le l5
    dsimp only [List.drop]
    dsimp only [wZs, wZ, wE, wEs, wT, wTs, wI, lk, List.set, aTru, partS, List.take, List.drop]
    try simp only [h38, a38, h32, a32, h109, a109, q_add, q_sub, q_mul, q_div, q_mod, q_pow, q_lt, q_le, q_gt, q_ge, q_eq, q_ne, q_is, q_isnt, q_isntB, q_isB, q_tb, q_ti, q_tn, q_tt, q_ixQ0, q_ixQ1, q_ixS0, q_ixS1, q_eqQ, q_neQ, q_eqSp, q_neSp, q_eqB, q_neB, q_ixT, q_lenT, q_abs, q_intI, q_intB, q_min2, q_max2, at0, at1, at2, List.length_cons, List.length_nil, sizeLine_eq, Nat.reduceAdd, Nat.reduceLeDiff, true_and, Bool.not_true, Bool.not_false, Bool.false_eq_true, if_false, reduceIte, lk, List.set, whole_int, whole_bl, whole_tup, whole_non]
    refine ⟨200, r5, by decide, fun s1 S5 hs1 r6 o6 => ⟨200 + 4, r6, by decide, fun s2 S6 hs2 r7 o7 => ⟨200 + 4 + 4, r7, by decide, fun s3 S7 hs3 r8 o8 q2 nq2 => ?_⟩⟩⟩
    have o := o6.trans (o7.trans o8)
    have lq2 := up_ls (o := .lst true [dS s1, dS s2, dS s3]) nq2
    have e7 := lq2 _ _ (o _ _ dqr e5)
    have l7 := (o.ble (l4.trans l5) nr).trans lq2
    refine ⟨f1, f2, f3, s1, s2, s3, true, rfl, up_same, v1, v2, v3, hs1.mono (by decide), hs2.mono (by decide), hs3.mono (by decide), hne, hpp, fun S8 l8 => ?_⟩
    try simp only [q_ixL, l8 _ _ e7, l8 _ _ (up_same (S := S7) (a := q2) (o := .lst true [dS s1, dS s2, dS s3])), q_add, q_sub, q_mul, q_div, q_mod, q_pow, q_lt, q_le, q_gt, q_ge, q_eq, q_ne, q_is, q_isnt, q_isntB, q_isB, q_tb, q_ti, q_tn, q_tt, q_ixQ0, q_ixQ1, q_ixS0, q_ixS1, q_eqQ, q_neQ, q_eqSp, q_neSp, q_eqB, q_neB, q_ixT, q_lenT, q_abs, q_intI, q_intB, q_min2, q_max2, at0, at1, at2, List.length_cons, List.length_nil, sizeLine_eq, Nat.reduceAdd, Nat.reduceLeDiff, true_and, Bool.not_true, Bool.not_false, Bool.false_eq_true, if_false, reduceIte, lk, List.set, whole_int, whole_bl, whole_tup, whole_non]
    intro q3 nq3
    have lq3 := up_ls (o := .lst true [dS t, dS s1, dS u]) nq3
    refine ⟨f1, f2, f3, t, s1, u, true, rfl, up_same, v1, v2, v3, ht, hs1.mono (by decide), hu, hne, hpp, fun S9 l9 => ?_⟩
    try simp only [true_and, q_add, q_sub, q_mul, q_div, q_mod, q_pow, q_lt, q_le, q_gt, q_ge, q_eq, q_ne, q_is, q_isnt, q_isntB, q_isB, q_tb, q_ti, q_tn, q_tt, q_ixQ0, q_ixQ1, q_ixS0, q_ixS1, q_eqQ, q_neQ, q_eqSp, q_neSp, q_eqB, q_neB, q_ixT, q_lenT, q_abs, q_intI, q_intB, q_min2, q_max2, at0, at1, at2, List.length_cons, List.length_nil, sizeLine_eq, Nat.reduceAdd, Nat.reduceLeDiff, true_and, Bool.not_true, Bool.not_false, Bool.false_eq_true, if_false, reduceIte, lk, List.set, whole_int, whole_bl, whole_tup, whole_non]
    exact hF _ _ ⟨_, _, _, _, _, _, _, _, _, _, _, _, rfl⟩ (l7.trans (l8.trans (lq3.trans l9)))
  · exact h.elim
end Sd
namespace Sd
open PySem
/-- the spot of two numbers in a frame, small bottoms -/
def frS' (a b c : Spot) (x y : Rat) : Spot := mid [a, b, c] [x.den * y.den - x.num * y.den - y.num * x.den, x.num * y.den, y.num * x.den]
theorem three_over {w1 w2 w3 a1 a2 b1 b2 c1 c2 Z : Rat} (n1 : a2 ≠ 0) (n2 : b2 ≠ 0) (n3 : c2 ≠ 0) (n4 : Z ≠ 0) : (w1 * (a1 / a2) + (w2 * (b1 / b2) + (w3 * (c1 / c2) + 0))) / Z = (w1 * a1 * (b2 * c2) + w2 * b1 * (a2 * c2) + w3 * c1 * (a2 * b2)) / (a2 * b2 * c2 * Z) := by
  have m : ∀ {x y : Rat}, x ≠ 0 → y ≠ 0 → x * y ≠ 0 := fun hx hy e => (Rat.mul_eq_zero.mp e).elim hx hy
  have hD : a2 * b2 * c2 * Z ≠ 0 := m (m (m n1 n2) n3) n4
  have k1 : a1 / a2 * a2 = a1 := Rat.div_mul_cancel n1
  have k2 : b1 / b2 * b2 = b1 := Rat.div_mul_cancel n2
  have k3 : c1 / c2 * c2 = c1 := Rat.div_mul_cancel n3
  generalize a1 / a2 = A at *
  generalize b1 / b2 = B at *
  generalize c1 / c2 = C at *
  subst k1 k2 k3
  have e : w1 * (A * a2) * (b2 * c2) + w2 * (B * b2) * (a2 * c2) + w3 * (C * c2) * (a2 * b2) = (w1 * A + (w2 * B + (w3 * C + 0))) * (a2 * b2 * c2) := by grind
  rw [e]
  have m3 : a2 * b2 * c2 ≠ 0 := m (m n1 n2) n3
  generalize a2 * b2 * c2 = E at *
  generalize w1 * A + (w2 * B + (w3 * C + 0)) = G at *
  grind
theorem fr_one {A B C x y : Rat} (hA : Sz 51 A) (hB : Sz 51 B) (hC : Sz 51 C) (dA : A.den < 64) (dB : B.den < 64) (dC : C.den < 64) (hx : Sz 30 x) (hy : Sz 30 y) :
    Sz 130 ((((x.den * y.den - x.num * y.den - y.num * x.den : Int) : Rat) * A + (((x.num * y.den : Int) : Rat) * B + (((y.num * x.den : Int) : Rat) * C + 0))) / ((x.den * y.den : Int) : Rat)) := by
  have bx := hx.bd; have bY := hy.bd
  have bA := hA.bd; have bB := hB.bd; have bC := hC.bd
  have qA : Bd 6 (A.den : Int) := by unfold Bd; omega
  have qB : Bd 6 (B.den : Int) := by unfold Bd; omega
  have qC : Bd 6 (C.den : Int) := by unfold Bd; omega
  have w1 : Bd 62 ((x.den : Int) * y.den - x.num * y.den - y.num * x.den) := ((bx.2.mul bY.2).sub (bx.1.mul bY.2)).sub ((bY.1.mul bx.2).mono (by decide))
  have w2 : Bd 60 (x.num * (y.den : Int)) := bx.1.mul bY.2
  have w3 : Bd 60 (y.num * (x.den : Int)) := bY.1.mul bx.2
  generalize hW1 : (x.den : Int) * y.den - x.num * y.den - y.num * x.den = W1 at *
  generalize hW2 : x.num * (y.den : Int) = W2 at *
  generalize hW3 : y.num * (x.den : Int) = W3 at *
  have bt : Bd 127 (W1 * A.num * (B.den * C.den) + W2 * B.num * (A.den * C.den) + W3 * C.num * (A.den * B.den)) := by
    have t1 : Bd 125 (W1 * A.num * (B.den * C.den)) := (w1.mul bA.1).mul (qB.mul qC)
    have t2 : Bd 125 (W2 * B.num * (A.den * C.den)) := ((w2.mul bB.1).mul (qA.mul qC)).mono (by decide)
    have t3 : Bd 126 (W3 * C.num * (A.den * B.den)) := ((w3.mul bC.1).mul (qA.mul qB)).mono (by decide)
    exact (t1.add t2).add t3
  have bb : Bd 127 ((A.den : Int) * B.den * C.den * (x.den * y.den)) := (((qA.mul qB).mul qC).mul (bx.2.mul bY.2)).mono (by decide)
  have nb : ((A.den : Int) * B.den * C.den * (x.den * y.den)) ≠ 0 := Int.mul_ne_zero (Int.mul_ne_zero (Int.mul_ne_zero (den_neI _) (den_neI _)) (den_neI _)) (Int.mul_ne_zero (den_neI _) (den_neI _))
  have e : (((W1 : Int) : Rat) * A + ((W2 : Rat) * B + ((W3 : Rat) * C + 0))) / ((x.den * y.den : Int) : Rat) = ((W1 * A.num * (B.den * C.den) + W2 * B.num * (A.den * C.den) + W3 * C.num * (A.den * B.den) : Int) : Rat) / (((A.den : Int) * B.den * C.den * (x.den * y.den) : Int) : Rat) := by
    have h := three_over (w1 := (W1 : Rat)) (w2 := (W2 : Rat)) (w3 := (W3 : Rat)) (a1 := (A.num : Rat)) (b1 := (B.num : Rat)) (c1 := (C.num : Rat)) (den_ne A) (den_ne B) (den_ne C) (cast_ne (Int.mul_ne_zero (den_neI x) (den_neI y)))
    rw [← rat_eq A, ← rat_eq B, ← rat_eq C] at h
    rw [h]
    simp only [Rat.intCast_add, Rat.intCast_mul]
  rw [e]
  exact (sz_div nb bt bb).mono (by decide)
theorem fr_sz' {a b c : Spot} {x y : Rat} (ha : SzS 51 a) (hb : SzS 51 b) (hc : SzS 51 c) (hd : ∀ s ∈ [a, b, c], s.1.den < 64 ∧ s.2.den < 64) (hx : Sz 30 x) (hy : Sz 30 y) : SzS 130 (frS' a b c x y) := by
  have e : ([(x.den : Int) * y.den - x.num * y.den - y.num * x.den, x.num * y.den, y.num * x.den] : List Int).sum = x.den * y.den := by
    simp only [List.sum_cons, List.sum_nil]
    omega
  have da := hd a (by simp)
  have db := hd b (by simp)
  have dc := hd c (by simp)
  unfold frS' mid wm wsm
  rw [e]
  simp only [List.zip_cons_cons, List.zip_nil_right, List.map_cons, List.map_nil, qsum]
  exact ⟨fr_one ha.1 hb.1 hc.1 da.1 db.1 dc.1 hx hy, fr_one ha.2 hb.2 hc.2 da.2 db.2 dc.2 hx hy⟩
/-- on one line there are two colours at most -/
theorem onw_line {a b : Spot} {t u v : Rat} : tw (onw a b t) (onw a b u) (onw a b v) = 0 := by
  unfold tw onw
  grind
theorem onw_0 {a b : Spot} : onw a b 0 = a := by
  unfold onw
  have h1 : a.1 + 0 * (b.1 - a.1) = a.1 := by grind
  have h2 : a.2 + 0 * (b.2 - a.2) = a.2 := by grind
  rw [h1, h2]
theorem onw_1 {a b : Spot} : onw a b 1 = b := by
  unfold onw
  have h1 : a.1 + 1 * (b.1 - a.1) = b.1 := by grind
  have h2 : a.2 + 1 * (b.2 - a.2) = b.2 := by grind
  rw [h1, h2]
theorem two_len {i j : Int} {ks : List Int} (hn : ks.Nodup) (h : ∀ x ∈ ks, x = i ∨ x = j) : ks.length ≤ 2 := by
  match ks, hn, h with
  | [], _, _ => simp
  | [x], _, _ => simp
  | [x, y], _, _ => simp
  | x :: y :: z :: r, hn, h =>
    have h1 := h x (by simp)
    have h2 := h y (by simp)
    have h3 := h z (by simp)
    simp only [List.nodup_cons, List.mem_cons, not_or] at hn
    obtain ⟨⟨n1, n2, _⟩, ⟨n3, _⟩, _⟩ := hn
    omega
theorem col_any {p : Int} {x y : Rat} : col p x y = 0 ∨ col p x y = 1 ∨ col p x y = 2 := by
  unfold col
  split
  · exact .inl rfl
  · split
    · exact .inr (.inl rfl)
    · exact .inr (.inr rfl)
theorem line_two {p : Int} (hp : p ∈ primesL) {a b c s t : Spot} (h : tw a b c ≠ 0) {pts : List Rat} {ks : List Int} (hn : ks.Nodup) (hk : ∀ i, i ∈ ks ↔ i ∈ pts.map fun u => colF p a b c (onw s t u)) : ks.length ≤ 2 := by
  have hv : ∀ i ∈ ks, i = 0 ∨ i = 1 ∨ i = 2 := fun i hi => by
    obtain ⟨u, _, rfl⟩ := List.mem_map.mp ((hk i).mp hi)
    exact col_any
  have get : ∀ i, i ∈ ks → ∃ u, colF p a b c (onw s t u) = i := fun i hi => by
    obtain ⟨u, _, e⟩ := List.mem_map.mp ((hk i).mp hi)
    exact ⟨u, e⟩
  by_cases h0 : (0 : Int) ∈ ks
  · by_cases h1 : (1 : Int) ∈ ks
    · by_cases h2 : (2 : Int) ∈ ks
      · obtain ⟨u0, e0⟩ := get 0 h0
        obtain ⟨u1, e1⟩ := get 1 h1
        obtain ⟨u2, e2⟩ := get 2 h2
        exact ((full_1 hp h e0 e1 e2).1 onw_line).elim
      · refine two_len (i := 0) (j := 1) hn fun x hx => ?_
        rcases hv x hx with z | z | z
        · exact .inl z
        · exact .inr z
        · exact (h2 (z ▸ hx)).elim
    · refine two_len (i := 0) (j := 2) hn fun x hx => ?_
      rcases hv x hx with z | z | z
      · exact .inl z
      · exact (h1 (z ▸ hx)).elim
      · exact .inr z
  · refine two_len (i := 1) (j := 2) hn fun x hx => ?_
    rcases hv x hx with z | z | z
    · exact (h0 (z ▸ hx)).elim
    · exact .inl z
    · exact .inr z
/-- the frame's own colours -/
theorem own_cols {p : Int} (hp : p ∈ primesL) {a b c : Spot} (h : tw a b c ≠ 0) : colF p a b c a = 0 ∧ colF p a b c b = 1 ∧ colF p a b c c = 2 := by
  have e1 : tw a a c = 0 := by unfold tw; grind
  have e2 : tw a b a = 0 := by unfold tw; grind
  have e3 : tw a b b = 0 := by unfold tw; grind
  have e4 : tw a c c = 0 := by unfold tw; grind
  have z : (0 : Rat) / tw a b c = 0 := by grind
  have o : tw a b c / tw a b c = 1 := by grind
  have v := vq_one hp
  refine ⟨?_, ?_, ?_⟩
  · show col p (tw a a c / tw a b c) (tw a b a / tw a b c) = 0
    rw [e1, e2, z]
    exact mk_0 (.inl rfl) (.inl rfl)
  · show col p (tw a b c / tw a b c) (tw a b b / tw a b c) = 1
    rw [e3, z, o]
    exact mk_1 (by decide) (by omega) (.inl rfl)
  · show col p (tw a c c / tw a b c) (tw a b c / tw a b c) = 2
    rw [e4, z, o]
    exact mk_2 (by decide) (by omega) (.inl rfl)
def c_law_placed : Con := fun ds S P _ => match ds with
  | [.ref r, f, .int p] => ∃ n a b c, Row S r n ∧ n < 2 ^ 44 ∧ f = d3 a b c ∧ SzS 51 a ∧ SzS 51 b ∧ SzS 51 c ∧ (∀ s ∈ [a, b, c], s.1.den < 64 ∧ s.2.den < 64) ∧ (2 ≤ p ∧ p < 100) ∧ ∀ s S', SzS 130 s → Row S' r (n + 6) → Rowed S S' r → P (dS s) S'
  | _ => False
theorem m_law_placed {Γ : Gam} (h61 : Γ.fn 61 = c_law_by_prime) (a61 : Γ.ar 61 = 2) (h69 : Γ.fn 69 = c_law_mid) (a69 : Γ.ar 69 = 2) : Meets Γ 7 z_law_placed c_law_placed := by
  intro ds S P W h
  unfold c_law_placed at h
  split at h
  · rename_i r f p
    obtain ⟨n, a, b, c, row, hn, rfl, ha, hb, hc, hd, hp, h⟩ := h
    change wZs Γ z_law_placed (retE P) [some (.ref r), some (d3 a b c), some (.int p), none, none, none, none] S (errW W)
    dsimp only [z_law_placed]
    dsimp only [wZs, wZ, wE, wEs, wT, wTs, wI, lk, List.set, aTru, partS, List.take, List.drop]
    try simp only [h61, a61, h69, a69, q_add, q_sub, q_mul, q_div, q_mod, q_pow, q_lt, q_le, q_gt, q_ge, q_eq, q_ne, q_is, q_isnt, q_isntB, q_isB, q_tb, q_ti, q_tn, q_tt, q_ixQ0, q_ixQ1, q_ixS0, q_ixS1, q_eqQ, q_neQ, q_eqSp, q_neSp, q_eqB, q_neB, q_ixT, q_lenT, q_abs, q_intI, q_intB, q_min2, q_max2, at0, at1, at2, List.length_cons, List.length_nil, sizeLine_eq, Nat.reduceAdd, Nat.reduceLeDiff, true_and, Bool.not_true, Bool.not_false, Bool.false_eq_true, if_false, reduceIte, lk, List.set, whole_int, whole_bl, whole_tup, whole_non]
    refine ⟨n, row, by omega, hp, fun s S1 hs r1 o1 => ?_⟩
    obtain ⟨x, y⟩ := s
    have sx : Sz 30 x := hs.1
    have sy : Sz 30 y := hs.2
    have bx := sx.bd; have bY := sy.bd
    simp only [dS, dQ]
    try simp only [biS, seqD, d3, q_add, q_sub, q_mul, q_div, q_mod, q_pow, q_lt, q_le, q_gt, q_ge, q_eq, q_ne, q_is, q_isnt, q_isntB, q_isB, q_tb, q_ti, q_tn, q_tt, q_ixQ0, q_ixQ1, q_ixS0, q_ixS1, q_eqQ, q_neQ, q_eqSp, q_neSp, q_eqB, q_neB, q_ixT, q_lenT, q_abs, q_intI, q_intB, q_min2, q_max2, at0, at1, at2, List.length_cons, List.length_nil, sizeLine_eq, Nat.reduceAdd, Nat.reduceLeDiff, true_and, Bool.not_true, Bool.not_false, Bool.false_eq_true, if_false, reduceIte, lk, List.set, whole_int, whole_bl, whole_tup, whole_non]
    intro q nq
    have lq := up_ls (o := .lst true [dS a, dS b, dS c]) nq
    refine ⟨bx.2.ok bY.2 (by decide), bx.1.ok bY.2 (by decide), bY.1.ok bx.2 (by decide), bx.1.ok bY.2 (by decide), bY.1.ok bx.2 (by decide), fun q4 nq4 => ?_⟩
    have lq4 := up_ls (o := .lst true [.int ((x.den : Int) * y.den - x.num * y.den - y.num * x.den), .int (x.num * y.den), .int (y.num * x.den)]) nq4
    have hsum : ([(x.den : Int) * y.den - x.num * y.den - y.num * x.den, x.num * y.den, y.num * x.den] : List Int).sum ≠ 0 := by
      rw [show ([(x.den : Int) * y.den - x.num * y.den - y.num * x.den, x.num * y.den, y.num * x.den] : List Int).sum = x.den * y.den by
        simp only [List.sum_cons, List.sum_nil]
        omega]
      exact Int.mul_ne_zero (den_neI x) (den_neI y)
    refine ⟨true, true, [a, b, c], [(x.den : Int) * y.den - x.num * y.den - y.num * x.den, x.num * y.den, y.num * x.den], 51, 93, lq4 _ _ up_same, up_same, by (first | decide | (simp only [List.length_append, List.length_cons, List.length_nil]; decide)), by (first | decide | (simp only [List.length_append, List.length_cons, List.length_nil]; decide)), by decide, by decide, ?_, ?_, hsum, ?_⟩
    · simp only [List.forall_mem_cons, List.not_mem_nil, false_implies, implies_true, and_true]
      exact ⟨ha, hb, hc⟩
    · simp only [List.forall_mem_cons, List.not_mem_nil, false_implies, implies_true, and_true]
      exact ⟨(((bx.2.mul bY.2).sub (bx.1.mul bY.2)).sub ((bY.1.mul bx.2).mono (by decide))).mono (by decide), (bx.1.mul bY.2).mono (by decide), (bY.1.mul bx.2).mono (by decide)⟩
    · exact ret_now (h _ _ (fr_sz' ha hb hc hd sx sy) (r1.le (lq.trans lq4)) (o1.le (lq.trans lq4)))
  · exact h.elim
end Sd
namespace Sd
open PySem
theorem q_sz {S : Sto} {P : PD} {a : Addr} {w : Bool} {ns : List Int} (e : S a = some (.lst w (ns.map D.int))) (hl : ns.length ≤ 4000) (h : ∀ ks : List Int, ks.Nodup → (∀ i, i ∈ ks ↔ i ∈ ns) → P (.int ks.length) S) : lensS (.ref a) S P := by
  unfold lensS
  simp only [lstD, e, int_map]
  exact ⟨hl, h⟩
theorem m_law26 {Γ : Gam} (h24 : Γ.fn 24 = c_law_primes) (a24 : Γ.ar 24 = 0) (h56 : Γ.fn 56 = c_law_frame_3) (a56 : Γ.ar 56 = 1) (h0 : Γ.fn 0 = c_law_take_2) (a0 : Γ.ar 0 = 2) (h38 : Γ.fn 38 = c_law_near) (a38 : Γ.ar 38 = 1) (h32 : Γ.fn 32 = c_law_spot) (a32 : Γ.ar 32 = 1) (h107 : Γ.fn 107 = c_law_placed) (a107 : Γ.ar 107 = 3) (h61 : Γ.fn 61 = c_law_by_prime) (a61 : Γ.ar 61 = 2) (h4 : Γ.fn 4 = c_law_lowest) (a4 : Γ.ar 4 = 2) (h59 : Γ.fn 59 = c_colour_by) (a59 : Γ.ar 59 = 3) (h48 : Γ.fn 48 = c_on_way) (a48 : Γ.ar 48 = 3) : Meets Γ 12 z_law_18 c_lawT := by
  intro ds S P W h
  unfold c_lawT at h
  split at h
  · rename_i a
    obtain ⟨w, ns, e, hl, hp⟩ := h
    refine cut 1 (fun ρ S1 => ∃ b, S b = none ∧ S1 = S.up b (.lst true (primesL.map D.int)) ∧ ρ = [some (.ref a), some (.ref b), none, none, none, none, none, none, none, none, none, none]) (fun F hF => ?_) ?_
    · change wZs Γ _ _ [some (.ref a), none, none, none, none, none, none, none, none, none, none, none] S _
      dsimp only [z_law_18]
      dsimp only [wZs, wZ, wE, wEs, wT, wTs, wI, lk, List.set, aTru, partS, List.take, List.drop]
      try simp only [h24, a24, q_add, q_sub, q_mul, q_div, q_mod, q_pow, q_lt, q_le, q_gt, q_ge, q_eq, q_ne, q_is, q_isnt, q_isntB, q_isB, q_tb, q_ti, q_tn, q_tt, q_ixQ0, q_ixQ1, q_ixS0, q_ixS1, q_eqQ, q_neQ, q_eqSp, q_neSp, q_eqB, q_neB, q_ixT, q_lenT, q_abs, q_intI, q_intB, q_min2, q_max2, at0, at1, at2, List.length_cons, List.length_nil, sizeLine_eq, Nat.reduceAdd, Nat.reduceLeDiff, true_and, Bool.not_true, Bool.not_false, Bool.false_eq_true, if_false, reduceIte, lk, List.set, whole_int, whole_bl, whole_tup, whole_non]
      exact fun b nb => hF _ _ ⟨b, nb, rfl, rfl⟩
    rintro ρ S0 ⟨b, nb, rfl, rfl⟩
    have lb := up_ls (o := .lst true (primesL.map D.int)) nb
    have eb : (S.up b (.lst true (primesL.map D.int))) b = some (.lst true (primesL.map D.int)) := up_same
    generalize S.up b (.lst true (primesL.map D.int)) = S0 at lb eb
    change wZ Γ _ _ [some (.ref a), some (.ref b), none, none, none, none, none, none, none, none, none, none] S0 (errW W)
    refine law_for (m := 20) (fun ρ => ∃ x2 x3 x4 x5 x6 x7 x8 x9 x10 x11, ρ = [some (.ref a), some (.ref b), x2, x3, x4, x5, x6, x7, x8, x9, x10, x11]) ⟨_, _, _, _, _, _, _, _, _, _, rfl⟩ hl rfl (lb _ _ e) (fun ρ S1 hr hs => ret_le (lb.trans hs) hp) fun Sb F c ρ S1 l1 l2 hr hF => ?_
    obtain ⟨x2, x3, x4, x5, x6, x7, x8, x9, x10, x11, rfl⟩ := hr
    have ebb : Sb b = some (.lst true (primesL.map D.int)) := l1 _ _ eb
    refine cut 4 (fun ρ S' => ∃ r f1 f2 f3 p q, ρ = [some (.ref a), some (.ref b), some (.int c), some (.ref r), some (d3 f1 f2 f3), some (.int p), some (.ref q), x7, x8, x9, x10, x11] ∧ Sto.le Sb S' ∧ Sb r = none ∧ Sb q = none ∧ S' q = some (.lst true []) ∧ Row S' r 30 ∧ SzS 51 f1 ∧ SzS 51 f2 ∧ SzS 51 f3 ∧ tw f1 f2 f3 ≠ 0 ∧ (∀ s ∈ [f1, f2, f3], s.1.den < 64 ∧ s.2.den < 64) ∧ p ∈ primesL ∧ q ≠ r) (fun G hG => ?_) ?_
    · dsimp only [wZs, wZ, wE, wEs, wT, wTs, wI, lk, List.set, aTru, partS, List.take, List.drop]
      try simp only [h56, a56, h0, a0, q_add, q_sub, q_mul, q_div, q_mod, q_pow, q_lt, q_le, q_gt, q_ge, q_eq, q_ne, q_is, q_isnt, q_isntB, q_isB, q_tb, q_ti, q_tn, q_tt, q_ixQ0, q_ixQ1, q_ixS0, q_ixS1, q_eqQ, q_neQ, q_eqSp, q_neSp, q_eqB, q_neB, q_ixT, q_lenT, q_abs, q_intI, q_intB, q_min2, q_max2, at0, at1, at2, List.length_cons, List.length_nil, sizeLine_eq, Nat.reduceAdd, Nat.reduceLeDiff, true_and, Bool.not_true, Bool.not_false, Bool.false_eq_true, if_false, reduceIte, lk, List.set, whole_int, whole_bl, whole_tup, whole_non]
      intro r nr
      have lr := up_ls (o := .lst true [.int c, .int 0]) nr
      have nr' := le_none l2 nr
      refine ⟨0, row_new, by decide, fun f1 f2 f3 S2 g1 g2 g3 hne hden r2 o2 => ?_⟩
      have l3 := o2.ble (l2.trans lr) nr'
      refine take_row r2 (by decide) (by decide) fun k S3 k0 k1 r3 o3 => ?_
      have l4 := o3.ble l3 nr'
      try simp only [true_and, q_add, q_sub, q_mul, q_div, q_mod, q_pow, q_lt, q_le, q_gt, q_ge, q_eq, q_ne, q_is, q_isnt, q_isntB, q_isB, q_tb, q_ti, q_tn, q_tt, q_ixQ0, q_ixQ1, q_ixS0, q_ixS1, q_eqQ, q_neQ, q_eqSp, q_neSp, q_eqB, q_neB, q_ixT, q_lenT, q_abs, q_intI, q_intB, q_min2, q_max2, at0, at1, at2, List.length_cons, List.length_nil, sizeLine_eq, Nat.reduceAdd, Nat.reduceLeDiff, true_and, Bool.not_true, Bool.not_false, Bool.false_eq_true, if_false, reduceIte, lk, List.set, whole_int, whole_bl, whole_tup, whole_non]
      refine take_row r3 (by decide) (by decide) fun k' S4 k0' k1' r4 o4 => ?_
      have l5 := o4.ble l4 nr'
      try simp only [true_and, q_add, q_sub, q_mul, q_div, q_mod, q_pow, q_lt, q_le, q_gt, q_ge, q_eq, q_ne, q_is, q_isnt, q_isntB, q_isB, q_tb, q_ti, q_tn, q_tt, q_ixQ0, q_ixQ1, q_ixS0, q_ixS1, q_eqQ, q_neQ, q_eqSp, q_neSp, q_eqB, q_neB, q_ixT, q_lenT, q_abs, q_intI, q_intB, q_min2, q_max2, at0, at1, at2, List.length_cons, List.length_nil, sizeLine_eq, Nat.reduceAdd, Nat.reduceLeDiff, true_and, Bool.not_true, Bool.not_false, Bool.false_eq_true, if_false, reduceIte, lk, List.set, whole_int, whole_bl, whole_tup, whole_non]
      intro q1 nq1
      have lq1 := up_ls (o := .lst true [.int k, .int k']) nq1
      have dq1 := r4.ne nq1
      refine take_row (r4.le lq1) (by decide) (by decide) fun k2 S5 k20 k21 r5 o5 => ?_
      have l6 := o5.ble (l5.trans lq1) nr'
      have e5 : S5 q1 = some (.lst true [.int k, .int k']) := o5 _ _ dq1 up_same
      have hk : ∃ j : Int, L2.atI [D.int k, D.int k'] k2 = some (.int j) ∧ 0 ≤ j ∧ j < 25 := by
        have : k2 = 0 ∨ k2 = 1 := by omega
        rcases this with rfl | rfl
        · exact ⟨k, at0, k0, k1⟩
        · exact ⟨k', at1, k0', by omega⟩
      obtain ⟨j, ej, j0, j1⟩ := hk
      obtain ⟨p, ep, hpp⟩ := prime_atB j0 j1
      try simp only [q_ixL, e5, ej, l6 _ _ ebb, ep, q_add, q_sub, q_mul, q_div, q_mod, q_pow, q_lt, q_le, q_gt, q_ge, q_eq, q_ne, q_is, q_isnt, q_isntB, q_isB, q_tb, q_ti, q_tn, q_tt, q_ixQ0, q_ixQ1, q_ixS0, q_ixS1, q_eqQ, q_neQ, q_eqSp, q_neSp, q_eqB, q_neB, q_ixT, q_lenT, q_abs, q_intI, q_intB, q_min2, q_max2, at0, at1, at2, List.length_cons, List.length_nil, sizeLine_eq, Nat.reduceAdd, Nat.reduceLeDiff, true_and, Bool.not_true, Bool.not_false, Bool.false_eq_true, if_false, reduceIte, lk, List.set, whole_int, whole_bl, whole_tup, whole_non]
      intro q nq
      have dq := r5.ne nq
      exact hG _ _ ⟨r, f1, f2, f3, p, q, rfl, l6.trans (up_ls nq), nr', le_none l6 nq, up_same, (r5.mono (by decide)).ne' nq, g1, g2, g3, hne, hden, hpp, dq⟩
    rintro ρ S2 ⟨r, f1, f2, f3, p, q, rfl, l3, nr, nq, eq, r2, g1, g2, g3, hne, hden, hpp, dqr⟩
    obtain ⟨pp2, pp3, _⟩ := primes_ok p hpp
    have v1 : SzS 490 f1 := g1.mono (by decide)
    have v2 : SzS 490 f2 := g2.mono (by decide)
    have v3 : SzS 490 f3 := g3.mono (by decide)
    -- the colour of a spot, asked
    have ask : ∀ {T : Sto} {Q : PD} {W' : FW} {x : Spot}, SzS 490 x → Q (.int (colF p f1 f2 f3 x)) T → c_colour_by [d3 f1 f2 f3, .int p, dS x] T Q W' := by
      intro T Q W' x hx hQ
      refine ⟨f1, f2, f3, x, rfl, rfl, v1, v2, v3, hx, ⟨_, rfl⟩, fun z => (hne z).elim, fun _ z => ?_, fun p' _ ep _ => ?_⟩
      · rw [show primeD (.int p) = true from decide_eq_true hpp] at z
        cases z
      · cases ep
        exact hQ
    dsimp only [List.drop]
    refine cut 1 (fun ρ S' => ∃ x7 x8 s t, ρ = [some (.ref a), some (.ref b), some (.int c), some (.ref r), some (d3 f1 f2 f3), some (.int p), some (.ref q), x7, x8, x9, x10, x11] ∧ Sto.le Sb S' ∧ S' q = some (.lst true [dS s, dS t]) ∧ Row S' r 100 ∧ SzS 130 s ∧ SzS 130 t) (fun G hG => ?_) ?_
    · dsimp only [List.take]
      rw [wZs_one, wZ_for, wI_r1]
      refine ⟨by decide, for_ind (src := .free) (fun rr ρ S' => ∃ (l : List Spot) (x7 x8 : Option D), rr.length + l.length = 2 ∧ ρ = [some (.ref a), some (.ref b), some (.int c), some (.ref r), some (d3 f1 f2 f3), some (.int p), some (.ref q), x7, x8, x9, x10, x11] ∧ Sto.le Sb S' ∧ S' q = some (.lst true (l.map dS)) ∧ Row S' r (30 + 30 * l.length) ∧ ∀ s ∈ l, SzS 130 s) (fun _ _ _ _ => trivial) ?_ ?_ ⟨[], _, _, rfl, rfl, l3, eq, r2.mono (by simp), by simp⟩⟩
      · rintro ρ S' ⟨l, y7, y8, hlen, rfl, l4, e4, r4, hz⟩
        match l, hlen with
        | [s, t], _ => exact hG _ _ ⟨_, _, s, t, rfl, l4, e4, r4.mono (by simp only [List.length_cons, List.length_nil]; decide), hz s (by simp), hz t (by simp)⟩
      · rintro F' d rr ρ S' ⟨l, y7, y8, hlen, rfl, l4, e4, r4, hz⟩ hF'
        have hlen' : rr.length + 1 + l.length = 2 := hlen
        have L30 : (l.length : Int) ≤ 1 := by omega
        dsimp only [wZs, wZ, wE, wEs, wT, wTs, wI, lk, List.set, aTru, partS, List.take, List.drop]
        try simp only [h38, a38, h107, a107, h32, a32, h0, a0, q_add, q_sub, q_mul, q_div, q_mod, q_pow, q_lt, q_le, q_gt, q_ge, q_eq, q_ne, q_is, q_isnt, q_isntB, q_isB, q_tb, q_ti, q_tn, q_tt, q_ixQ0, q_ixQ1, q_ixS0, q_ixS1, q_eqQ, q_neQ, q_eqSp, q_neSp, q_eqB, q_neB, q_ixT, q_lenT, q_abs, q_intI, q_intB, q_min2, q_max2, at0, at1, at2, List.length_cons, List.length_nil, sizeLine_eq, Nat.reduceAdd, Nat.reduceLeDiff, true_and, Bool.not_true, Bool.not_false, Bool.false_eq_true, if_false, reduceIte, lk, List.set, whole_int, whole_bl, whole_tup, whole_non]
        refine ⟨30 + 30 * l.length, r4, by omega, fun s1 S5 hs1 r5 o5 => ⟨_, f1, f2, f3, r5, by omega, rfl, g1, g2, g3, hden, ⟨pp2, pp3⟩, fun s2 S6 hs2 r6 o6 => ?_⟩⟩
        refine take_row r6 (by omega) (by decide) fun k S7 k0 k1 r7 o7 => ?_
        have : ∃ s3, L2.atI [dS f1, dS f2, dS f3] k = some (dS s3) ∧ SzS 130 s3 := by
          have : k = 0 ∨ k = 1 ∨ k = 2 := by omega
          rcases this with rfl | rfl | rfl
          · exact ⟨f1, at0, g1.mono (by decide)⟩
          · exact ⟨f2, at1, g2.mono (by decide)⟩
          · exact ⟨f3, at2, g3.mono (by decide)⟩
        obtain ⟨s3, es3, hs3⟩ := this
        try simp only [d3, es3, q_add, q_sub, q_mul, q_div, q_mod, q_pow, q_lt, q_le, q_gt, q_ge, q_eq, q_ne, q_is, q_isnt, q_isntB, q_isB, q_tb, q_ti, q_tn, q_tt, q_ixQ0, q_ixQ1, q_ixS0, q_ixS1, q_eqQ, q_neQ, q_eqSp, q_neSp, q_eqB, q_neB, q_ixT, q_lenT, q_abs, q_intI, q_intB, q_min2, q_max2, at0, at1, at2, List.length_cons, List.length_nil, sizeLine_eq, Nat.reduceAdd, Nat.reduceLeDiff, true_and, Bool.not_true, Bool.not_false, Bool.false_eq_true, if_false, reduceIte, lk, List.set, whole_int, whole_bl, whole_tup, whole_non]
        refine ⟨_, r7, by omega, fun s4 S8 hs4 r8 o8 q2 nq2 => ?_⟩
        have o := o5.trans (o6.trans (o7.trans o8))
        have e8 := o _ _ dqr e4
        have lq2 := up_ls (o := .lst true [dS s1, dS s2, dS s3, dS s4]) nq2
        have dq2 := r8.ne nq2
        try simp only [q_isL, lq2 _ _ e8, q_add, q_sub, q_mul, q_div, q_mod, q_pow, q_lt, q_le, q_gt, q_ge, q_eq, q_ne, q_is, q_isnt, q_isntB, q_isB, q_tb, q_ti, q_tn, q_tt, q_ixQ0, q_ixQ1, q_ixS0, q_ixS1, q_eqQ, q_neQ, q_eqSp, q_neSp, q_eqB, q_neB, q_ixT, q_lenT, q_abs, q_intI, q_intB, q_min2, q_max2, at0, at1, at2, List.length_cons, List.length_nil, sizeLine_eq, Nat.reduceAdd, Nat.reduceLeDiff, true_and, Bool.not_true, Bool.not_false, Bool.false_eq_true, if_false, reduceIte, lk, List.set, whole_int, whole_bl, whole_tup, whole_non]
        refine take_row (r8.le lq2) (by omega) (by decide) fun k2 S9 k20 k21 r9 o9 => ?_
        have e9 : S9 q2 = some (.lst true [dS s1, dS s2, dS s3, dS s4]) := o9 _ _ dq2 up_same
        have e9q := o9 _ _ dqr (lq2 _ _ e8)
        obtain ⟨z, ez, hz2⟩ := at_drawD (l := [dS s1, dS s2, dS s3, dS s4]) k20 k21
        have : ∃ s, z = dS s ∧ SzS 130 s := by
          simp only [List.mem_cons, List.not_mem_nil, or_false] at hz2
          rcases hz2 with rfl | rfl | rfl | rfl
          · exact ⟨s1, rfl, hs1.mono (by decide)⟩
          · exact ⟨s2, rfl, hs2⟩
          · exact ⟨s3, rfl, hs3⟩
          · exact ⟨s4, rfl, hs4.mono (by decide)⟩
        obtain ⟨s, rfl, hs⟩ := this
        try simp only [q_ixL, e9, ez, q_append, e9q, q_add, q_sub, q_mul, q_div, q_mod, q_pow, q_lt, q_le, q_gt, q_ge, q_eq, q_ne, q_is, q_isnt, q_isntB, q_isB, q_tb, q_ti, q_tn, q_tt, q_ixQ0, q_ixQ1, q_ixS0, q_ixS1, q_eqQ, q_neQ, q_eqSp, q_neSp, q_eqB, q_neB, q_ixT, q_lenT, q_abs, q_intI, q_intB, q_min2, q_max2, at0, at1, at2, List.length_cons, List.length_nil, sizeLine_eq, Nat.reduceAdd, Nat.reduceLeDiff, true_and, Bool.not_true, Bool.not_false, Bool.false_eq_true, if_false, reduceIte, lk, List.set, whole_int, whole_bl, whole_tup, whole_non]
        have l9 := (o.trans ((le_rowed lq2).trans o9)).ble l4 nr
        refine ⟨by rw [List.length_map]; omega, hF' _ _ ⟨l ++ [s], _, _, by rw [List.length_append]; simp only [List.length_cons, List.length_nil]; omega, rfl, ?_, by rw [up_same, List.map_append]; rfl, ?_, ?_⟩⟩
        · intro z o ez
          rw [up_oth (fun w => by rw [← w, nq] at ez; cases ez)]
          exact l9 _ _ ez
        · obtain ⟨c', m', e', m0, m1⟩ := r9
          refine ⟨c', m', by rw [up_oth dqr]; exact e', m0, ?_⟩
          rw [List.length_append]
          simp only [List.length_cons, List.length_nil]
          omega
        · intro s' hs'
          rcases List.mem_append.mp hs' with z | z
          · exact hz s' z
          · rw [List.mem_singleton.mp z]
            exact hs
    rintro ρ S3 ⟨y7, y8, s, t, rfl, l4, e4, r4, hs, ht⟩
    dsimp only [List.drop]
    refine cut 1 (fun ρ S' => ∃ q9, ρ = [some (.ref a), some (.ref b), some (.int c), some (.ref r), some (d3 f1 f2 f3), some (.int p), some (.ref q), y7, y8, some (.ref q9), x10, x11] ∧ Sto.le S3 S' ∧ S3 q9 = none ∧ S' q9 = some (.lst true ((([0, 1] : List Rat).map fun u => colF p f1 f2 f3 (onw s t u)).map D.int))) (fun G hG => ?_) ?_
    · dsimp only [wZs, wZ, wE, wEs, wT, wTs, wI, lk, List.set, aTru, partS, List.take, List.drop]
      try simp only [e4, q_add, q_sub, q_mul, q_div, q_mod, q_pow, q_lt, q_le, q_gt, q_ge, q_eq, q_ne, q_is, q_isnt, q_isntB, q_isB, q_tb, q_ti, q_tn, q_tt, q_ixQ0, q_ixQ1, q_ixS0, q_ixS1, q_eqQ, q_neQ, q_eqSp, q_neSp, q_eqB, q_neB, q_ixT, q_lenT, q_abs, q_intI, q_intB, q_min2, q_max2, at0, at1, at2, List.length_cons, List.length_nil, sizeLine_eq, Nat.reduceAdd, Nat.reduceLeDiff, true_and, Bool.not_true, Bool.not_false, Bool.false_eq_true, if_false, reduceIte, lk, List.set, whole_int, whole_bl, whole_tup, whole_non]
      intro q2 nq2
      have e4' : S3 q = some (.lst true ([s, t].map dS)) := e4
      refine lc_enc dS (fun x => D.int (colF p f1 f2 f3 x)) (l := [s, t]) nq2 e4' (by rw [sizeLine_eq]; (first | decide | (simp only [List.length_append, List.length_cons, List.length_nil]; decide))) (fun x hx T K G hT hK => ?_) fun T hT eT => ?_
      · have hx' : SzS 490 x := by
          simp only [List.mem_cons, List.not_mem_nil, or_false] at hx
          rcases hx with rfl | rfl
          · exact hs.mono (by decide)
          · exact ht.mono (by decide)
        try simp only [h59, a59, wipeD, q_add, q_sub, q_mul, q_div, q_mod, q_pow, q_lt, q_le, q_gt, q_ge, q_eq, q_ne, q_is, q_isnt, q_isntB, q_isB, q_tb, q_ti, q_tn, q_tt, q_ixQ0, q_ixQ1, q_ixS0, q_ixS1, q_eqQ, q_neQ, q_eqSp, q_neSp, q_eqB, q_neB, q_ixT, q_lenT, q_abs, q_intI, q_intB, q_min2, q_max2, at0, at1, at2, List.length_cons, List.length_nil, sizeLine_eq, Nat.reduceAdd, Nat.reduceLeDiff, true_and, Bool.not_true, Bool.not_false, Bool.false_eq_true, if_false, reduceIte, lk, List.set, whole_int, whole_bl, whole_tup, whole_non]
        dsimp only [aTru]
        try simp only [true_and, q_add, q_sub, q_mul, q_div, q_mod, q_pow, q_lt, q_le, q_gt, q_ge, q_eq, q_ne, q_is, q_isnt, q_isntB, q_isB, q_tb, q_ti, q_tn, q_tt, q_ixQ0, q_ixQ1, q_ixS0, q_ixS1, q_eqQ, q_neQ, q_eqSp, q_neSp, q_eqB, q_neB, q_ixT, q_lenT, q_abs, q_intI, q_intB, q_min2, q_max2, at0, at1, at2, List.length_cons, List.length_nil, sizeLine_eq, Nat.reduceAdd, Nat.reduceLeDiff, true_and, Bool.not_true, Bool.not_false, Bool.false_eq_true, if_false, reduceIte, lk, List.set, whole_int, whole_bl, whole_tup, whole_non]
        exact ask hx' (hK _ (Sto.le.refl _))
      · refine hG _ _ ⟨q2, rfl, hT, nq2, ?_⟩
        rw [eT]
        simp only [List.map_cons, List.map_nil, onw_0, onw_1]
    rintro ρ S4 ⟨q9, rfl, l5, n9, e9⟩
    have d9q : q9 ≠ q := fun z => by rw [z, e4] at n9; cases n9
    have d9r := r4.ne n9
    have n9b := le_none l4 n9
    dsimp only [List.drop]
    refine cut 1 (fun ρ S' => ∃ (x7 x11 : Option D) (pts : List Rat), ρ = [some (.ref a), some (.ref b), some (.int c), some (.ref r), some (d3 f1 f2 f3), some (.int p), some (.ref q), x7, y8, some (.ref q9), x10, x11] ∧ Sto.le Sb S' ∧ pts.length ≤ 7 ∧ S' q9 = some (.lst true ((pts.map fun u => colF p f1 f2 f3 (onw s t u)).map D.int))) (fun G hG => ?_) ?_
    · dsimp only [List.take]
      rw [wZs_one, wZ_for, wI_r1]
      refine ⟨by decide, for_ind (src := .free) (fun rr ρ S' => ∃ (pts : List Rat) (x7 x11 : Option D), rr.length + pts.length = 7 ∧ ρ = [some (.ref a), some (.ref b), some (.int c), some (.ref r), some (d3 f1 f2 f3), some (.int p), some (.ref q), x7, y8, some (.ref q9), x10, x11] ∧ Sto.le Sb S' ∧ S' q = some (.lst true [dS s, dS t]) ∧ S' q9 = some (.lst true ((pts.map fun u => colF p f1 f2 f3 (onw s t u)).map D.int)) ∧ Row S' r (100 + 20 * pts.length)) (fun _ _ _ _ => trivial) ?_ ?_ ⟨[0, 1], _, _, rfl, rfl, l4.trans l5, l5 _ _ e4, e9, (r4.le l5).mono (by simp only [List.length_cons, List.length_nil]; decide)⟩⟩
      · rintro ρ S' ⟨pts, z7, z11, hlen, rfl, l6, e6, e6', r6⟩
        exact hG _ _ ⟨_, _, pts, rfl, l6, by simp only [List.length_nil] at hlen; omega, e6'⟩
      · rintro F' d rr ρ S' ⟨pts, z7, z11, hlen, rfl, l6, e6, e6', r6⟩ hF'
        have hlen' : rr.length + 1 + pts.length = 7 := hlen
        dsimp only [wZs, wZ, wE, wEs, wT, wTs, wI, lk, List.set, aTru, partS, List.take, List.drop]
        try simp only [h61, a61, h4, a4, h0, a0, q_add, q_sub, q_mul, q_div, q_mod, q_pow, q_lt, q_le, q_gt, q_ge, q_eq, q_ne, q_is, q_isnt, q_isntB, q_isB, q_tb, q_ti, q_tn, q_tt, q_ixQ0, q_ixQ1, q_ixS0, q_ixS1, q_eqQ, q_neQ, q_eqSp, q_neSp, q_eqB, q_neB, q_ixT, q_lenT, q_abs, q_intI, q_intB, q_min2, q_max2, at0, at1, at2, List.length_cons, List.length_nil, sizeLine_eq, Nat.reduceAdd, Nat.reduceLeDiff, true_and, Bool.not_true, Bool.not_false, Bool.false_eq_true, if_false, reduceIte, lk, List.set, whole_int, whole_bl, whole_tup, whole_non]
        refine ⟨100 + 20 * pts.length, r6, by omega, ⟨pp2, pp3⟩, fun u S7 hu r7 o7 => ?_⟩
        try simp only [true_and, q_add, q_sub, q_mul, q_div, q_mod, q_pow, q_lt, q_le, q_gt, q_ge, q_eq, q_ne, q_is, q_isnt, q_isntB, q_isB, q_tb, q_ti, q_tn, q_tt, q_ixQ0, q_ixQ1, q_ixS0, q_ixS1, q_eqQ, q_neQ, q_eqSp, q_neSp, q_eqB, q_neB, q_ixT, q_lenT, q_abs, q_intI, q_intB, q_min2, q_max2, at0, at1, at2, List.length_cons, List.length_nil, sizeLine_eq, Nat.reduceAdd, Nat.reduceLeDiff, true_and, Bool.not_true, Bool.not_false, Bool.false_eq_true, if_false, reduceIte, lk, List.set, whole_int, whole_bl, whole_tup, whole_non]
        refine take_row r7 (by omega) (by decide) fun k S8 k0 k1 r8 o8 => ?_
        try simp only [true_and, q_add, q_sub, q_mul, q_div, q_mod, q_pow, q_lt, q_le, q_gt, q_ge, q_eq, q_ne, q_is, q_isnt, q_isntB, q_isB, q_tb, q_ti, q_tn, q_tt, q_ixQ0, q_ixQ1, q_ixS0, q_ixS1, q_eqQ, q_neQ, q_eqSp, q_neSp, q_eqB, q_neB, q_ixT, q_lenT, q_abs, q_intI, q_intB, q_min2, q_max2, at0, at1, at2, List.length_cons, List.length_nil, sizeLine_eq, Nat.reduceAdd, Nat.reduceLeDiff, true_and, Bool.not_true, Bool.not_false, Bool.false_eq_true, if_false, reduceIte, lk, List.set, whole_int, whole_bl, whole_tup, whole_non]
        refine take_row r8 (by omega) (by decide) fun k' S9 k0' k1' r9 o9 => ?_
        try simp only [true_and, q_add, q_sub, q_mul, q_div, q_mod, q_pow, q_lt, q_le, q_gt, q_ge, q_eq, q_ne, q_is, q_isnt, q_isntB, q_isB, q_tb, q_ti, q_tn, q_tt, q_ixQ0, q_ixQ1, q_ixS0, q_ixS1, q_eqQ, q_neQ, q_eqSp, q_neSp, q_eqB, q_neB, q_ixT, q_lenT, q_abs, q_intI, q_intB, q_min2, q_max2, at0, at1, at2, List.length_cons, List.length_nil, sizeLine_eq, Nat.reduceAdd, Nat.reduceLeDiff, true_and, Bool.not_true, Bool.not_false, Bool.false_eq_true, if_false, reduceIte, lk, List.set, whole_int, whole_bl, whole_tup, whole_non]
        refine lowest_q (by omega) (Bd.lt9 (n := 24) (by unfold Bd; omega) (by decide)) ?_
        intro q2 nq2
        have o := o7.trans (o8.trans o9)
        have lq2 := up_ls (o := .lst true [dQ u.1, dQ (((k - 10 : Int) : Rat) / ((1 + k' : Int) : Rat))]) nq2
        have dq2 := r9.ne nq2
        have e10 := lq2 _ _ (o _ _ dqr e6)
        have e10' := lq2 _ _ (o _ _ d9r e6')
        try simp only [q_isL, e10', q_ixL, e10, h59, a59, h48, a48, q_add, q_sub, q_mul, q_div, q_mod, q_pow, q_lt, q_le, q_gt, q_ge, q_eq, q_ne, q_is, q_isnt, q_isntB, q_isB, q_tb, q_ti, q_tn, q_tt, q_ixQ0, q_ixQ1, q_ixS0, q_ixS1, q_eqQ, q_neQ, q_eqSp, q_neSp, q_eqB, q_neB, q_ixT, q_lenT, q_abs, q_intI, q_intB, q_min2, q_max2, at0, at1, at2, List.length_cons, List.length_nil, sizeLine_eq, Nat.reduceAdd, Nat.reduceLeDiff, true_and, Bool.not_true, Bool.not_false, Bool.false_eq_true, if_false, reduceIte, lk, List.set, whole_int, whole_bl, whole_tup, whole_non]
        refine take_row (r9.le lq2) (by omega) (by decide) fun k2 S10 k20 k21 r10 o10 => ?_
        have e11 := o10 _ _ dqr e10
        have e11' := o10 _ _ d9r e10'
        have e11q : S10 q2 = some (.lst true [dQ u.1, dQ (((k - 10 : Int) : Rat) / ((1 + k' : Int) : Rat))]) := o10 _ _ dq2 up_same
        have : ∃ v, L2.atI [dQ u.1, dQ (((k - 10 : Int) : Rat) / ((1 + k' : Int) : Rat))] k2 = some (dQ v) ∧ Sz 30 v := by
          have : k2 = 0 ∨ k2 = 1 := by omega
          rcases this with rfl | rfl
          · exact ⟨_, at0, hu.1⟩
          · exact ⟨_, at1, sz_div (by omega) (by omega) (by omega)⟩
        obtain ⟨v, ev, hv⟩ := this
        try simp only [q_ixL, e11q, ev, q_add, q_sub, q_mul, q_div, q_mod, q_pow, q_lt, q_le, q_gt, q_ge, q_eq, q_ne, q_is, q_isnt, q_isntB, q_isB, q_tb, q_ti, q_tn, q_tt, q_ixQ0, q_ixQ1, q_ixS0, q_ixS1, q_eqQ, q_neQ, q_eqSp, q_neSp, q_eqB, q_neB, q_ixT, q_lenT, q_abs, q_intI, q_intB, q_min2, q_max2, at0, at1, at2, List.length_cons, List.length_nil, sizeLine_eq, Nat.reduceAdd, Nat.reduceLeDiff, true_and, Bool.not_true, Bool.not_false, Bool.false_eq_true, if_false, reduceIte, lk, List.set, whole_int, whole_bl, whole_tup, whole_non]
        refine ⟨s, t, v, 130, rfl, rfl, rfl, by decide, hs, ht, hv.mono (by decide), ?_⟩
        refine ask ((hs.onw ht hv).mono (by decide)) ?_
        try simp only [q_append, e11', q_add, q_sub, q_mul, q_div, q_mod, q_pow, q_lt, q_le, q_gt, q_ge, q_eq, q_ne, q_is, q_isnt, q_isntB, q_isB, q_tb, q_ti, q_tn, q_tt, q_ixQ0, q_ixQ1, q_ixS0, q_ixS1, q_eqQ, q_neQ, q_eqSp, q_neSp, q_eqB, q_neB, q_ixT, q_lenT, q_abs, q_intI, q_intB, q_min2, q_max2, at0, at1, at2, List.length_cons, List.length_nil, sizeLine_eq, Nat.reduceAdd, Nat.reduceLeDiff, true_and, Bool.not_true, Bool.not_false, Bool.false_eq_true, if_false, reduceIte, lk, List.set, whole_int, whole_bl, whole_tup, whole_non]
        have l10 := (o.trans ((le_rowed lq2).trans o10)).ble l6 nr
        refine ⟨by rw [List.length_map, List.length_map]; omega, hF' _ _ ⟨pts ++ [v], _, _, by rw [List.length_append]; simp only [List.length_cons, List.length_nil]; omega, rfl, ?_, ?_, by rw [up_same, List.map_append, List.map_append]; rfl, ?_⟩⟩
        · intro z o ez
          rw [up_oth (fun w => by rw [← w, n9b] at ez; cases ez)]
          exact l10 _ _ ez
        · rw [up_oth d9q]
          exact e11
        · obtain ⟨c', m', e', m0, m1⟩ := r10
          refine ⟨c', m', by rw [up_oth d9r]; exact e', m0, ?_⟩
          rw [List.length_append]
          simp only [List.length_cons, List.length_nil]
          omega
    rintro ρ S5 ⟨z7, z11, pts, rfl, l6, hpl, e6⟩
    dsimp only [List.drop]
    dsimp only [wZs, wZ, wE, wEs, wT, wTs, wI, lk, List.set, aTru, partS, List.take, List.drop]
    refine q_sz e6 (by rw [List.length_map]; omega) fun ks hn hk => ?_
    have h2 : ¬ ((2 : Int) < ks.length) := by
      have := line_two hpp hne hn hk
      omega
    try simp only [decide_eq_false h2, d3, q_add, q_sub, q_mul, q_div, q_mod, q_pow, q_lt, q_le, q_gt, q_ge, q_eq, q_ne, q_is, q_isnt, q_isntB, q_isB, q_tb, q_ti, q_tn, q_tt, q_ixQ0, q_ixQ1, q_ixS0, q_ixS1, q_eqQ, q_neQ, q_eqSp, q_neSp, q_eqB, q_neB, q_ixT, q_lenT, q_abs, q_intI, q_intB, q_min2, q_max2, at0, at1, at2, List.length_cons, List.length_nil, sizeLine_eq, Nat.reduceAdd, Nat.reduceLeDiff, true_and, Bool.not_true, Bool.not_false, Bool.false_eq_true, if_false, reduceIte, lk, List.set, whole_int, whole_bl, whole_tup, whole_non]
    intro q2 nq2
    refine lc_enc dS (fun x => D.int (colF p f1 f2 f3 x)) (l := [f1, f2, f3]) nq2 trivial (by rw [sizeLine_eq]; (first | decide | (simp only [List.length_append, List.length_cons, List.length_nil]; decide))) (fun x hx T K G hT hK => ?_) fun T hT eT => ?_
    · have hx' : SzS 490 x := by
        simp only [List.mem_cons, List.not_mem_nil, or_false] at hx
        rcases hx with rfl | rfl | rfl <;> assumption
      try simp only [h59, a59, wipeD, q_add, q_sub, q_mul, q_div, q_mod, q_pow, q_lt, q_le, q_gt, q_ge, q_eq, q_ne, q_is, q_isnt, q_isntB, q_isB, q_tb, q_ti, q_tn, q_tt, q_ixQ0, q_ixQ1, q_ixS0, q_ixS1, q_eqQ, q_neQ, q_eqSp, q_neSp, q_eqB, q_neB, q_ixT, q_lenT, q_abs, q_intI, q_intB, q_min2, q_max2, at0, at1, at2, List.length_cons, List.length_nil, sizeLine_eq, Nat.reduceAdd, Nat.reduceLeDiff, true_and, Bool.not_true, Bool.not_false, Bool.false_eq_true, if_false, reduceIte, lk, List.set, whole_int, whole_bl, whole_tup, whole_non]
      dsimp only [aTru]
      try simp only [true_and, q_add, q_sub, q_mul, q_div, q_mod, q_pow, q_lt, q_le, q_gt, q_ge, q_eq, q_ne, q_is, q_isnt, q_isntB, q_isB, q_tb, q_ti, q_tn, q_tt, q_ixQ0, q_ixQ1, q_ixS0, q_ixS1, q_eqQ, q_neQ, q_eqSp, q_neSp, q_eqB, q_neB, q_ixT, q_lenT, q_abs, q_intI, q_intB, q_min2, q_max2, at0, at1, at2, List.length_cons, List.length_nil, sizeLine_eq, Nat.reduceAdd, Nat.reduceLeDiff, true_and, Bool.not_true, Bool.not_false, Bool.false_eq_true, if_false, reduceIte, lk, List.set, whole_int, whole_bl, whole_tup, whole_non]
      exact ask hx' (hK _ (Sto.le.refl _))
    · obtain ⟨c0, c1, c2⟩ := own_cols hpp hne
      have eT' : T q2 = some (.lst true (([0, 1, 2] : List Int).map D.int)) := by
        rw [eT]
        simp only [List.map_cons, List.map_nil, c0, c1, c2]
      intro q3 nq3
      have l7 := up_ls (o := .lst true [.int 0, .int 1, .int 2]) nq3
      rw [encI.q_neL (by decide) (l7 _ _ eT') (m := [0, 1, 2]) up_same]
      try simp only [decide_true, q_add, q_sub, q_mul, q_div, q_mod, q_pow, q_lt, q_le, q_gt, q_ge, q_eq, q_ne, q_is, q_isnt, q_isntB, q_isB, q_tb, q_ti, q_tn, q_tt, q_ixQ0, q_ixQ1, q_ixS0, q_ixS1, q_eqQ, q_neQ, q_eqSp, q_neSp, q_eqB, q_neB, q_ixT, q_lenT, q_abs, q_intI, q_intB, q_min2, q_max2, at0, at1, at2, List.length_cons, List.length_nil, sizeLine_eq, Nat.reduceAdd, Nat.reduceLeDiff, true_and, Bool.not_true, Bool.not_false, Bool.false_eq_true, if_false, reduceIte, lk, List.set, whole_int, whole_bl, whole_tup, whole_non]
      exact hF _ _ ⟨_, _, _, _, _, _, _, _, _, _, rfl⟩ (l6.trans (hT.trans l7))
  · exact h.elim
end Sd
namespace K26
open PySem PySem.Spec PyProof.Rows L2 Sd
def top (i : Nat) : Stmt := PySem.Challenge.pw_likeshards_k26_whole_two_colours_on_a_li.main.body.getD i (.Pass ⟨0, 0, 0, 0⟩)
def s_law_primes : SC := { N := ["_law_n", "_law_k"], sc := defScope (top 42), st := fun _ => true, fns := [], css := [], cls := [] }
theorem k_law_primes : DefOk s_law_primes [] z_law_primes (defBody (top 42)) := ⟨⟨rfl, rfl, rfl, by decide +kernel, rfl, by decide +kernel, by decide +kernel⟩, rfl, by kernel_rfl⟩
def s_law_take_2 : SC := { N := ["_law_row", "_law_base", "_law_rest", "_law_number_here"], sc := defScope (top 30), st := fun _ => true, fns := [], css := [], cls := [] }
theorem k_law_take_2 : DefOk s_law_take_2 ["_law_row", "_law_base"] z_law_take_2 (defBody (top 30)) := ⟨⟨rfl, rfl, rfl, by decide +kernel, rfl, by decide +kernel, by decide +kernel⟩, rfl, by kernel_rfl⟩
def s_law_lowest : SC := { N := ["_law_top", "_law_bottom", "_law_one", "_law_other"], sc := defScope (top 31), st := fun _ => true, fns := [], css := [], cls := [] }
theorem k_law_lowest : DefOk s_law_lowest ["_law_top", "_law_bottom"] z_law_lowest (defBody (top 31)) := ⟨⟨rfl, rfl, rfl, by decide +kernel, rfl, by decide +kernel, by decide +kernel⟩, rfl, by kernel_rfl⟩
def s_law_near : SC := { N := ["_law_row"], sc := defScope (top 36), st := fun _ => true, fns := [("_law_lowest", 4), ("_law_take", 0)], css := [], cls := [] }
theorem k_law_near : DefOk s_law_near ["_law_row"] z_law_near (defBody (top 36)) := ⟨⟨rfl, rfl, rfl, by decide +kernel, rfl, by decide +kernel, by decide +kernel⟩, rfl, by kernel_rfl⟩
def s_law_less : SC := { N := ["_law_one", "_law_other"], sc := defScope (top 37), st := fun _ => true, fns := [], css := [], cls := [] }
theorem k_law_less : DefOk s_law_less ["_law_one", "_law_other"] z_law_less (defBody (top 37)) := ⟨⟨rfl, rfl, rfl, by decide +kernel, rfl, by decide +kernel, by decide +kernel⟩, rfl, by kernel_rfl⟩
def s_law_twice : SC := { N := ["_law_one", "_law_other", "_law_third", "_law_right", "_law_by", "_law_up", "_law_over", "_law_across", "_law_under", "_law_high", "_law_beside", "_law_top"], sc := defScope (top 38), st := fun _ => true, fns := [("_law_less", 41)], css := [], cls := [] }
theorem k_law_twice : DefOk s_law_twice ["_law_one", "_law_other", "_law_third"] z_law_twice (defBody (top 38)) := ⟨⟨rfl, rfl, rfl, by decide +kernel, rfl, by decide +kernel, by decide +kernel⟩, rfl, by kernel_rfl⟩
def s_law_turn : SC := { N := ["_law_one", "_law_other", "_law_third", "_law_top"], sc := defScope (top 39), st := fun _ => true, fns := [("_law_twice", 42)], css := [], cls := [] }
theorem k_law_turn : DefOk s_law_turn ["_law_one", "_law_other", "_law_third"] z_law_turn (defBody (top 39)) := ⟨⟨rfl, rfl, rfl, by decide +kernel, rfl, by decide +kernel, by decide +kernel⟩, rfl, by kernel_rfl⟩
def s_law_frame_3 : SC := { N := ["_law_row", "_law_far", "_law_way", "_law_spots", "_law_found", "_law_x", "_law_y"], sc := defScope (top 40), st := fun _ => true, fns := [("_law_take", 0), ("_law_near", 38), ("_law_turn", 50)], css := [], cls := [] }
theorem k_law_frame_3 : DefOk s_law_frame_3 ["_law_row"] z_law_frame_3 (defBody (top 40)) := ⟨⟨rfl, rfl, rfl, by decide +kernel, rfl, by decide +kernel, by decide +kernel⟩, rfl, by kernel_rfl⟩
def s_how_far : SC := { N := ["one", "other", "right", "up"], sc := defScope (top 18), st := fun _ => true, fns := [], css := [], cls := [] }
theorem k_how_far : DefOk s_how_far ["one", "other"] z_how_far (defBody (top 18)) := ⟨⟨rfl, rfl, rfl, by decide +kernel, rfl, by decide +kernel, by decide +kernel⟩, rfl, by kernel_rfl⟩
def s_twice_parts : SC := { N := ["one", "other", "third", "right", "by", "up", "over", "across", "under", "high", "beside"], sc := defScope (top 19), st := fun _ => true, fns := [("how_far", 43)], css := [], cls := [] }
theorem k_twice_parts : DefOk s_twice_parts ["one", "other", "third"] z_twice_parts (defBody (top 19)) := ⟨⟨rfl, rfl, rfl, by decide +kernel, rfl, by decide +kernel, by decide +kernel⟩, rfl, by kernel_rfl⟩
def s_turn_of : SC := { N := ["one", "other", "third", "top"], sc := defScope (top 21), st := fun _ => true, fns := [("twice_parts", 44)], css := [], cls := [] }
theorem k_turn_of : DefOk s_turn_of ["one", "other", "third"] z_turn_of (defBody (top 21)) := ⟨⟨rfl, rfl, rfl, by decide +kernel, rfl, by decide +kernel, by decide +kernel⟩, rfl, by kernel_rfl⟩
def s_look_frame : SC := { N := ["frame"], sc := defScope (top 24), st := fun _ => true, fns := [("turn_of", 46)], css := [], cls := [("NoFrame", 6)] }
theorem k_look_frame : DefOk s_look_frame ["frame"] z_look_frame (defBody (top 24)) := ⟨⟨rfl, rfl, rfl, by decide +kernel, rfl, by decide +kernel, by decide +kernel⟩, rfl, by kernel_rfl⟩
def s_divisor : SC := { N := ["one", "other"], sc := defScope (top 7), st := fun _ => true, fns := [], css := [], cls := [] }
theorem k_divisor : DefOk s_divisor ["one", "other"] z_divisor (defBody (top 7)) := ⟨⟨rfl, rfl, rfl, by decide +kernel, rfl, by decide +kernel, by decide +kernel⟩, rfl, by kernel_rfl⟩
def s_frac_of : SC := { N := ["top", "bottom", "by"], sc := defScope (top 8), st := fun _ => true, fns := [("divisor", 2)], css := [], cls := [("NoNumber", 1)] }
theorem k_frac_of : DefOk s_frac_of ["top", "bottom"] z_frac_of (defBody (top 8)) := ⟨⟨rfl, rfl, rfl, by decide +kernel, rfl, by decide +kernel, by decide +kernel⟩, rfl, by kernel_rfl⟩
def s_twice_of : SC := { N := ["one", "other", "third", "top", "bottom"], sc := defScope (top 20), st := fun _ => true, fns := [("twice_parts", 44), ("frac_of", 3)], css := [], cls := [] }
theorem k_twice_of : DefOk s_twice_of ["one", "other", "third"] z_twice_of (defBody (top 20)) := ⟨⟨rfl, rfl, rfl, by decide +kernel, rfl, by decide +kernel, by decide +kernel⟩, rfl, by kernel_rfl⟩
def s_quotient : SC := { N := ["one", "other"], sc := defScope (top 12), st := fun _ => true, fns := [("frac_of", 3)], css := [], cls := [("NoNumber", 1)] }
theorem k_quotient : DefOk s_quotient ["one", "other"] z_quotient (defBody (top 12)) := ⟨⟨rfl, rfl, rfl, by decide +kernel, rfl, by decide +kernel, by decide +kernel⟩, rfl, by kernel_rfl⟩
def s_in_frame : SC := { N := ["frame", "spot", "whole"], sc := defScope (top 25), st := fun _ => true, fns := [("look_frame", 57), ("twice_of", 45), ("quotient", 11)], css := [], cls := [] }
theorem k_in_frame : DefOk s_in_frame ["frame", "spot"] z_in_frame (defBody (top 25)) := ⟨⟨rfl, rfl, rfl, by decide +kernel, rfl, by decide +kernel, by decide +kernel⟩, rfl, by kernel_rfl⟩
def s_is_whole : SC := { N := ["thing"], sc := defScope (top 13), st := fun _ => true, fns := [], css := [], cls := [] }
theorem k_is_whole : DefOk s_is_whole ["thing"] z_is_whole (defBody (top 13)) := ⟨⟨rfl, rfl, rfl, by decide +kernel, rfl, by decide +kernel, by decide +kernel⟩, rfl, by kernel_rfl⟩
def s_look_prime : SC := { N := ["thing"], sc := defScope (top 14), st := fun _ => true, fns := [("is_whole", 21)], css := [("PRIMES", 0)], cls := [("NoPrime", 2)] }
theorem k_look_prime : DefOk s_look_prime ["thing"] z_look_prime (defBody (top 14)) := ⟨⟨rfl, rfl, rfl, by decide +kernel, rfl, by decide +kernel, by decide +kernel⟩, rfl, by kernel_rfl⟩
def s_times_in : SC := { N := ["number", "prime", "found"], sc := defScope (top 15), st := fun _ => true, fns := [], css := [], cls := [] }
theorem k_times_in : DefOk s_times_in ["number", "prime"] z_times_in (defBody (top 15)) := ⟨⟨rfl, rfl, rfl, by decide +kernel, rfl, by decide +kernel, by decide +kernel⟩, rfl, by kernel_rfl⟩
def s_power_in : SC := { N := ["part", "prime"], sc := defScope (top 16), st := fun _ => true, fns := [("look_prime", 26), ("times_in", 27)], css := [], cls := [] }
theorem k_power_in : DefOk s_power_in ["part", "prime"] z_power_in (defBody (top 16)) := ⟨⟨rfl, rfl, rfl, by decide +kernel, rfl, by decide +kernel, by decide +kernel⟩, rfl, by kernel_rfl⟩
def s_colour_of : SC := { N := ["u", "v", "prime", "one", "other"], sc := defScope (top 26), st := fun _ => true, fns := [("look_prime", 26), ("power_in", 28)], css := [], cls := [] }
theorem k_colour_of : DefOk s_colour_of ["u", "v", "prime"] z_colour_of (defBody (top 26)) := ⟨⟨rfl, rfl, rfl, by decide +kernel, rfl, by decide +kernel, by decide +kernel⟩, rfl, by kernel_rfl⟩
def s_colour_by : SC := { N := ["frame", "prime", "spot", "u", "v"], sc := defScope (top 27), st := fun _ => true, fns := [("in_frame", 58), ("colour_of", 54)], css := [], cls := [] }
theorem k_colour_by : DefOk s_colour_by ["frame", "prime", "spot"] z_colour_by (defBody (top 27)) := ⟨⟨rfl, rfl, rfl, by decide +kernel, rfl, by decide +kernel, by decide +kernel⟩, rfl, by kernel_rfl⟩
def s_law_by_prime : SC := { N := ["_law_row", "_law_prime", "_law_found", "_law_j", "_law_top", "_law_bottom", "_law_times", "_law_k"], sc := defScope (top 41), st := fun _ => true, fns := [("_law_take", 0), ("_law_lowest", 4)], css := [], cls := [] }
theorem k_law_by_prime : DefOk s_law_by_prime ["_law_row", "_law_prime"] z_law_by_prime (defBody (top 41)) := ⟨⟨rfl, rfl, rfl, by decide +kernel, rfl, by decide +kernel, by decide +kernel⟩, rfl, by kernel_rfl⟩
def s_law_mid : SC := { N := ["_law_spots", "_law_weights", "_law_found", "_law_j", "_law_top", "_law_bottom", "_law_spot_here", "_law_weight", "_law_a", "_law_b"], sc := defScope (top 34), st := fun _ => true, fns := [("_law_lowest", 4)], css := [], cls := [] }
theorem k_law_mid : DefOk s_law_mid ["_law_spots", "_law_weights"] z_law_mid (defBody (top 34)) := ⟨⟨rfl, rfl, rfl, by decide +kernel, rfl, by decide +kernel, by decide +kernel⟩, rfl, by kernel_rfl⟩
def s_law_placed : SC := { N := ["_law_row", "_law_frame_here", "_law_prime", "_law_a", "_law_b", "_law_c", "_law_d"], sc := defScope (top 43), st := fun _ => true, fns := [("_law_by_prime", 61), ("_law_mid", 69)], css := [], cls := [] }
theorem k_law_placed : DefOk s_law_placed ["_law_row", "_law_frame_here", "_law_prime"] z_law_placed (defBody (top 43)) := ⟨⟨rfl, rfl, rfl, by decide +kernel, rfl, by decide +kernel, by decide +kernel⟩, rfl, by kernel_rfl⟩
def s_law_number : SC := { N := ["_law_row", "_law_way"], sc := defScope (top 32), st := fun _ => true, fns := [("_law_take", 0)], css := [], cls := [] }
theorem k_law_number : DefOk s_law_number ["_law_row"] z_law_number (defBody (top 32)) := ⟨⟨rfl, rfl, rfl, by decide +kernel, rfl, by decide +kernel, by decide +kernel⟩, rfl, by kernel_rfl⟩
def s_law_frac : SC := { N := ["_law_row", "_law_bottom"], sc := defScope (top 33), st := fun _ => true, fns := [("_law_number", 1), ("_law_lowest", 4)], css := [], cls := [] }
theorem k_law_frac : DefOk s_law_frac ["_law_row"] z_law_frac (defBody (top 33)) := ⟨⟨rfl, rfl, rfl, by decide +kernel, rfl, by decide +kernel, by decide +kernel⟩, rfl, by kernel_rfl⟩
def s_law_spot : SC := { N := ["_law_row"], sc := defScope (top 35), st := fun _ => true, fns := [("_law_frac", 10)], css := [], cls := [] }
theorem k_law_spot : DefOk s_law_spot ["_law_row"] z_law_spot (defBody (top 35)) := ⟨⟨rfl, rfl, rfl, by decide +kernel, rfl, by decide +kernel, by decide +kernel⟩, rfl, by kernel_rfl⟩
def s_added : SC := { N := ["one", "other"], sc := defScope (top 9), st := fun _ => true, fns := [("frac_of", 3)], css := [], cls := [] }
theorem k_added : DefOk s_added ["one", "other"] z_added (defBody (top 9)) := ⟨⟨rfl, rfl, rfl, by decide +kernel, rfl, by decide +kernel, by decide +kernel⟩, rfl, by kernel_rfl⟩
def s_multiplied : SC := { N := ["one", "other"], sc := defScope (top 11), st := fun _ => true, fns := [("frac_of", 3)], css := [], cls := [] }
theorem k_multiplied : DefOk s_multiplied ["one", "other"] z_multiplied (defBody (top 11)) := ⟨⟨rfl, rfl, rfl, by decide +kernel, rfl, by decide +kernel, by decide +kernel⟩, rfl, by kernel_rfl⟩
def s_lessened : SC := { N := ["one", "other"], sc := defScope (top 10), st := fun _ => true, fns := [("frac_of", 3)], css := [], cls := [] }
theorem k_lessened : DefOk s_lessened ["one", "other"] z_lessened (defBody (top 10)) := ⟨⟨rfl, rfl, rfl, by decide +kernel, rfl, by decide +kernel, by decide +kernel⟩, rfl, by kernel_rfl⟩
def s_on_way : SC := { N := ["one", "other", "part"], sc := defScope (top 22), st := fun _ => true, fns := [("added", 14), ("multiplied", 16), ("lessened", 15)], css := [], cls := [] }
theorem k_on_way : DefOk s_on_way ["one", "other", "part"] z_on_way (defBody (top 22)) := ⟨⟨rfl, rfl, rfl, by decide +kernel, rfl, by decide +kernel, by decide +kernel⟩, rfl, by kernel_rfl⟩
def s_law_18 : SC := { N := ["_law_script", "_law_primes_here", "_law_cell", "_law_row", "_law_frame_here", "_law_prime", "_law_spots", "_law_again", "_law_some", "_law_colours", "_law_spot_here", "_law_part"], sc := defScope (top 44), st := fun _ => true, fns := [("_law_primes", 24), ("_law_frame", 56), ("colour_by", 59), ("_law_take", 0), ("_law_near", 38), ("_law_placed", 107), ("_law_spot", 32), ("_law_lowest", 4), ("_law_by_prime", 61), ("on_way", 48)], css := [], cls := [] }
theorem k_law_18 : DefOk s_law_18 ["_law_script"] z_law_18 (defBody (top 44)) := ⟨⟨rfl, rfl, rfl, by decide +kernel, rfl, by decide +kernel, by decide +kernel⟩, rfl, by kernel_rfl⟩
def names : List Str := (["_law_primes", "_law_take", "_law_lowest", "_law_near", "_law_less", "_law_twice", "_law_turn", "_law_frame", "how_far", "twice_parts", "turn_of", "look_frame", "divisor", "frac_of", "twice_of", "quotient", "in_frame", "is_whole", "look_prime", "times_in", "power_in", "colour_of", "colour_by", "_law_by_prime", "_law_mid", "_law_placed", "_law_number", "_law_frac", "_law_spot", "added"] : List Str) ++ (["multiplied", "lessened", "on_way", "law", "ShardError", "NoNumber", "NoPrime", "NoFrame"] : List Str)
def classes : List Nat := [0, 1, 2, 6]
def fn : List He.DefD := [⟨("_law_primes", none), "_law_primes", "_law_primes", defArgs (top 42), defBody (top 42), defScope (top 42), [], []⟩,
  ⟨("_law_take", none), "_law_take", "_law_take", defArgs (top 30), defBody (top 30), defScope (top 30), [], []⟩,
  ⟨("_law_lowest", none), "_law_lowest", "_law_lowest", defArgs (top 31), defBody (top 31), defScope (top 31), [], []⟩,
  ⟨("_law_near", none), "_law_near", "_law_near", defArgs (top 36), defBody (top 36), defScope (top 36), [], []⟩,
  ⟨("_law_less", none), "_law_less", "_law_less", defArgs (top 37), defBody (top 37), defScope (top 37), [], []⟩,
  ⟨("_law_twice", none), "_law_twice", "_law_twice", defArgs (top 38), defBody (top 38), defScope (top 38), [], []⟩,
  ⟨("_law_turn", none), "_law_turn", "_law_turn", defArgs (top 39), defBody (top 39), defScope (top 39), [], []⟩,
  ⟨("_law_frame", none), "_law_frame", "_law_frame", defArgs (top 40), defBody (top 40), defScope (top 40), [], []⟩,
  ⟨("how_far", none), "how_far", "how_far", defArgs (top 18), defBody (top 18), defScope (top 18), [], []⟩,
  ⟨("twice_parts", none), "twice_parts", "twice_parts", defArgs (top 19), defBody (top 19), defScope (top 19), [], []⟩,
  ⟨("turn_of", none), "turn_of", "turn_of", defArgs (top 21), defBody (top 21), defScope (top 21), [], []⟩,
  ⟨("look_frame", none), "look_frame", "look_frame", defArgs (top 24), defBody (top 24), defScope (top 24), [], []⟩,
  ⟨("divisor", none), "divisor", "divisor", defArgs (top 7), defBody (top 7), defScope (top 7), [], []⟩,
  ⟨("frac_of", none), "frac_of", "frac_of", defArgs (top 8), defBody (top 8), defScope (top 8), [], []⟩,
  ⟨("twice_of", none), "twice_of", "twice_of", defArgs (top 20), defBody (top 20), defScope (top 20), [], []⟩,
  ⟨("quotient", none), "quotient", "quotient", defArgs (top 12), defBody (top 12), defScope (top 12), [], []⟩,
  ⟨("in_frame", none), "in_frame", "in_frame", defArgs (top 25), defBody (top 25), defScope (top 25), [], []⟩,
  ⟨("is_whole", none), "is_whole", "is_whole", defArgs (top 13), defBody (top 13), defScope (top 13), [], []⟩,
  ⟨("look_prime", none), "look_prime", "look_prime", defArgs (top 14), defBody (top 14), defScope (top 14), [], []⟩,
  ⟨("times_in", none), "times_in", "times_in", defArgs (top 15), defBody (top 15), defScope (top 15), [], []⟩,
  ⟨("power_in", none), "power_in", "power_in", defArgs (top 16), defBody (top 16), defScope (top 16), [], []⟩,
  ⟨("colour_of", none), "colour_of", "colour_of", defArgs (top 26), defBody (top 26), defScope (top 26), [], []⟩,
  ⟨("colour_by", none), "colour_by", "colour_by", defArgs (top 27), defBody (top 27), defScope (top 27), [], []⟩,
  ⟨("_law_by_prime", none), "_law_by_prime", "_law_by_prime", defArgs (top 41), defBody (top 41), defScope (top 41), [], []⟩,
  ⟨("_law_mid", none), "_law_mid", "_law_mid", defArgs (top 34), defBody (top 34), defScope (top 34), [], []⟩,
  ⟨("_law_placed", none), "_law_placed", "_law_placed", defArgs (top 43), defBody (top 43), defScope (top 43), [], []⟩,
  ⟨("_law_number", none), "_law_number", "_law_number", defArgs (top 32), defBody (top 32), defScope (top 32), [], []⟩,
  ⟨("_law_frac", none), "_law_frac", "_law_frac", defArgs (top 33), defBody (top 33), defScope (top 33), [], []⟩,
  ⟨("_law_spot", none), "_law_spot", "_law_spot", defArgs (top 35), defBody (top 35), defScope (top 35), [], []⟩,
  ⟨("added", none), "added", "added", defArgs (top 9), defBody (top 9), defScope (top 9), [], []⟩,
  ⟨("multiplied", none), "multiplied", "multiplied", defArgs (top 11), defBody (top 11), defScope (top 11), [], []⟩,
  ⟨("lessened", none), "lessened", "lessened", defArgs (top 10), defBody (top 10), defScope (top 10), [], []⟩,
  ⟨("on_way", none), "on_way", "on_way", defArgs (top 22), defBody (top 22), defScope (top 22), [], []⟩,
  ⟨("law", none), "law", "law", defArgs (top 44), defBody (top 44), defScope (top 44), [], []⟩]
def more (K : PySem.W.Frag) : Bool := ([(eqF (PySem.W.nsIn K mainGlobals "PRIMES") (some (some (.ref (gaK K "PRIMES")))) && He.tupB K "PRIMES" [.int 2, .int 3, .int 5, .int 7, .int 11, .int 13, .int 17, .int 19, .int 23, .int 29, .int 31, .int 37, .int 41, .int 43, .int 47, .int 53, .int 59, .int 61, .int 67, .int 71, .int 73, .int 79, .int 83, .int 89, .int 97])].all id)
theorem more_PRIMES {K : PySem.W.Frag} (h : more K = true) : ((eqF (PySem.W.nsIn K mainGlobals "PRIMES") (some (some (.ref (gaK K "PRIMES")))) && He.tupB K "PRIMES" [.int 2, .int 3, .int 5, .int 7, .int 11, .int 13, .int 17, .int 19, .int 23, .int 29, .int 31, .int 37, .int 41, .int 43, .int 47, .int 53, .int 59, .int 61, .int 67, .int 71, .int 73, .int 79, .int 83, .int 89, .int 97])) = true := List.all_eq_true.mp h _ (List.Mem.head _)
def look : PySem.W.Frag → Bool := lookB classes names more
abbrev R : PySem.W.OpenRow := PySem.W.OpenLaw.row PySem.Challenge.rw_likeshards_k26_whole_two_colours_on_a_li
abbrev hk : PySem.W.Hook := hookX 5 look fn
def ob (s : PySem.W.SharedT) : He.AlD := obsXG 5 look fn (HandSHeadRun.getT s)
theorem ob_eq (s : PySem.W.SharedT) : ob s = hk.obs s.abs := obsXG_eq (HandSHeadRun.getT_eq s)
def loose0 : List Str := ["ShardError", "NoNumber", "NoPrime", "NoFrame", "divisor", "frac_of", "added", "lessened", "multiplied", "quotient", "is_whole", "look_prime", "times_in", "power_in", "how_far", "twice_parts", "twice_of", "turn_of", "on_way", "look_frame", "in_frame", "colour_of", "colour_by", "_law_cell_at", "_law_take", "_law_lowest", "_law_number", "_law_frac", "_law_mid", "_law_spot"]
def loose1 : List Str := ["_law_near", "_law_less", "_law_twice", "_law_turn", "_law_frame", "_law_by_prime", "_law_primes", "_law_placed", "PRIMES"]
abbrev loose : List Str := loose0 ++ loose1
theorem run (w : World) : HandSHeadRun.RunEq R (PySem.W.view R.prog [44]) hk ob 40000 loose w := by
  intro os
  kernel_rfl
end K26
namespace K26
open PySem PySem.Spec PyProof.Rows L2 Sd
def Γ : Gam where
  ar := fun k => match k with
    | 24 => 0
    | 0 => 2
    | 4 => 2
    | 38 => 1
    | 41 => 2
    | 42 => 3
    | 50 => 3
    | 56 => 1
    | 43 => 2
    | 44 => 3
    | 46 => 3
    | 57 => 1
    | 2 => 2
    | 3 => 2
    | 45 => 3
    | 11 => 2
    | 58 => 2
    | 21 => 1
    | 26 => 1
    | 27 => 2
    | 28 => 2
    | 54 => 3
    | 59 => 3
    | 61 => 2
    | 69 => 2
    | 107 => 3
    | 1 => 1
    | 10 => 1
    | 32 => 1
    | 14 => 2
    | 16 => 2
    | 15 => 2
    | 48 => 3
    | 9 => 1
    | _ => 0
  fn := fun k => match k with
    | 24 => c_law_primes
    | 0 => c_law_take_2
    | 4 => c_law_lowest
    | 38 => c_law_near
    | 41 => c_law_less
    | 42 => c_law_twice
    | 50 => c_law_turn
    | 56 => c_law_frame_3
    | 43 => c_how_far
    | 44 => c_twice_parts
    | 46 => c_turn_of
    | 57 => c_look_frame
    | 2 => c_divisor
    | 3 => c_frac_of
    | 45 => c_twice_of
    | 11 => c_quotient
    | 58 => c_in_frame
    | 21 => c_is_whole
    | 26 => c_look_prime
    | 27 => c_times_in
    | 28 => c_power_in
    | 54 => c_colour_of
    | 59 => c_colour_by
    | 61 => c_law_by_prime
    | 69 => c_law_mid
    | 107 => c_law_placed
    | 1 => c_law_number
    | 10 => c_law_frac
    | 32 => c_law_spot
    | 14 => c_added
    | 16 => c_multiplied
    | 15 => c_lessened
    | 48 => c_on_way
    | 9 => c_lawT
    | _ => fun _ _ _ _ => False
  cst := fun k => match k with
    | 0 => some (.tup [(.int 2), (.int 3), (.int 5), (.int 7), (.int 11), (.int 13), (.int 17), (.int 19), (.int 23), (.int 29), (.int 31), (.int 37), (.int 41), (.int 43), (.int 47), (.int 53), (.int 59), (.int 61), (.int 67), (.int 71), (.int 73), (.int 79), (.int 83), (.int 89), (.int 97)])
    | _ => none
def c_law : Con := c_lawT
theorem m_law_primes : Meets Γ 2 z_law_primes (Γ.fn 24) := by
  apply Sd.m_law_primes <;> rfl
theorem m_law_take_2 : Meets Γ 4 z_law_take_2 (Γ.fn 0) := by
  apply Sd.m_law_take_2 <;> rfl
theorem m_law_lowest : Meets Γ 4 z_law_lowest (Γ.fn 4) := by
  apply Sd.m_law_lowest <;> rfl
theorem m_law_near : Meets Γ 1 z_law_near (Γ.fn 38) := by
  apply Sd.m_law_near <;> rfl
theorem m_law_less : Meets Γ 2 z_law_less (Γ.fn 41) := by
  apply Sd.m_law_less <;> rfl
theorem m_law_twice : Meets Γ 12 z_law_twice (Γ.fn 42) := by
  apply Sd.m_law_twice <;> rfl
theorem m_law_turn : Meets Γ 4 z_law_turn (Γ.fn 50) := by
  apply Sd.m_law_turn <;> rfl
theorem m_law_frame_3 : Meets Γ 7 z_law_frame_3 (Γ.fn 56) := by
  apply Sd.m_law_frame_3 <;> rfl
theorem m_how_far : Meets Γ 4 z_how_far (Γ.fn 43) := by
  apply Sd.m_how_far <;> rfl
theorem m_twice_parts : Meets Γ 11 z_twice_parts (Γ.fn 44) := by
  apply Sd.m_twice_parts <;> rfl
theorem m_turn_of : Meets Γ 4 z_turn_of (Γ.fn 46) := by
  apply Sd.m_turn_of <;> rfl
theorem m_look_frame : Meets Γ 1 z_look_frame (Γ.fn 57) := by
  apply Sd.m_look_frame <;> rfl
theorem m_divisor : Meets Γ 2 z_divisor (Γ.fn 2) := by
  apply Sd.m_divisor <;> rfl
theorem m_frac_of : Meets Γ 3 z_frac_of (Γ.fn 3) := by
  apply Sd.m_frac_of <;> rfl
theorem m_twice_of : Meets Γ 5 z_twice_of (Γ.fn 45) := by
  apply Sd.m_twice_of <;> rfl
theorem m_quotient : Meets Γ 2 z_quotient (Γ.fn 11) := by
  apply Sd.m_quotient <;> rfl
theorem m_in_frame : Meets Γ 3 z_in_frame (Γ.fn 58) := by
  apply Sd.m_in_frame <;> rfl
theorem m_is_whole : Meets Γ 1 z_is_whole (Γ.fn 21) := by
  apply Sd.m_is_whole <;> rfl
theorem m_look_prime : Meets Γ 1 z_look_prime (Γ.fn 26) := by
  apply Sd.m_look_prime <;> rfl
theorem m_times_in : Meets Γ 3 z_times_in (Γ.fn 27) := by
  apply Sd.m_times_in <;> rfl
theorem m_power_in : Meets Γ 2 z_power_in (Γ.fn 28) := by
  apply Sd.m_power_in <;> rfl
theorem m_colour_of : Meets Γ 5 z_colour_of (Γ.fn 54) := by
  apply Sd.m_colour_of <;> rfl
theorem m_colour_by : Meets Γ 5 z_colour_by (Γ.fn 59) := by
  apply Sd.m_colour_by <;> rfl
theorem m_law_by_prime : Meets Γ 8 z_law_by_prime (Γ.fn 61) := by
  apply Sd.m_law_by_prime <;> rfl
theorem m_law_mid : Meets Γ 10 z_law_mid (Γ.fn 69) := by
  apply Sd.m_law_mid <;> rfl
theorem m_law_placed : Meets Γ 7 z_law_placed (Γ.fn 107) := by
  apply Sd.m_law_placed <;> rfl
theorem m_law_number : Meets Γ 2 z_law_number (Γ.fn 1) := by
  apply Sd.m_law_number <;> rfl
theorem m_law_frac : Meets Γ 2 z_law_frac (Γ.fn 10) := by
  apply Sd.m_law_frac <;> rfl
theorem m_law_spot : Meets Γ 1 z_law_spot (Γ.fn 32) := by
  apply Sd.m_law_spot <;> rfl
theorem m_added : Meets Γ 2 z_added (Γ.fn 14) := by
  apply Sd.m_added <;> rfl
theorem m_multiplied : Meets Γ 2 z_multiplied (Γ.fn 16) := by
  apply Sd.m_multiplied <;> rfl
theorem m_lessened : Meets Γ 2 z_lessened (Γ.fn 15) := by
  apply Sd.m_lessened <;> rfl
theorem m_on_way : Meets Γ 3 z_on_way (Γ.fn 48) := by
  apply Sd.m_on_way <;> rfl
theorem m_law_18 : Meets Γ 12 z_law_18 c_law := by
  apply Sd.m_law26 <;> rfl
theorem law_con : LawCon c_law := lawT_con
end K26
namespace K26
open PySem PySem.Spec PyProof.Rows L2 Sd
section
variable {P : Program} {w : World} {K : PySem.W.Frag} {mg : Str → Option Value} {base : Heap}
theorem k_PRIMES (W : World' classes names more K mg) {h : Heap} (X : K.In h) (G : h.Ns mainGlobals mg) : CstAt Γ K mg ("PRIMES", 0) := cst_tup (ns := [2, 3, 5, 7, 11, 13, 17, 19, 23, 29, 31, 37, 41, 43, 47, 53, 59, 61, 67, 71, 73, 79, 83, 89, 97]) X G rfl (more_PRIMES W.more)
theorem f_law_primes (W : World' classes names more K mg) (says : obsX look fn K = valX fn)   : FnAt Γ 3 P w K mg base ("_law_primes", 24) :=
  mk_fn (c := s_law_primes) (con := Γ.fn 24) (by decide) W says 0 rfl k_law_primes ((fun p hp => absurd hp List.not_mem_nil)) ((fun p hp => absurd hp List.not_mem_nil)) (by decide +kernel) (by decide +kernel) (fun _ _ _ _ _ _ us hl => match us, hl with | [], _ => rfl) (fun p hp => absurd hp List.not_mem_nil) rfl rfl m_law_primes
theorem f_law_take_2 (W : World' classes names more K mg) (says : obsX look fn K = valX fn)   : FnAt Γ 3 P w K mg base ("_law_take", 0) :=
  mk_fn (c := s_law_take_2) (con := Γ.fn 0) (by decide) W says 1 rfl k_law_take_2 ((fun p hp => absurd hp List.not_mem_nil)) ((fun p hp => absurd hp List.not_mem_nil)) (by decide +kernel) (by decide +kernel) (fun _ _ _ _ _ _ us hl => match us, hl with | [_, _], _ => rfl) (fun p hp => absurd hp List.not_mem_nil) rfl rfl m_law_take_2
theorem f_law_lowest (W : World' classes names more K mg) (says : obsX look fn K = valX fn)   : FnAt Γ 3 P w K mg base ("_law_lowest", 4) :=
  mk_fn (c := s_law_lowest) (con := Γ.fn 4) (by decide) W says 2 rfl k_law_lowest ((fun p hp => absurd hp List.not_mem_nil)) ((fun p hp => absurd hp List.not_mem_nil)) (by decide +kernel) (by decide +kernel) (fun _ _ _ _ _ _ us hl => match us, hl with | [_, _], _ => rfl) (fun p hp => absurd hp List.not_mem_nil) rfl rfl m_law_lowest
theorem f_law_near (W : World' classes names more K mg) (says : obsX look fn K = valX fn) (h_law_lowest : FnAt Γ 3 P w K mg base ("_law_lowest", 4)) (h_law_take_2 : FnAt Γ 3 P w K mg base ("_law_take", 0))  : FnAt Γ 4 P w K mg base ("_law_near", 38) :=
  mk_fn (c := s_law_near) (con := Γ.fn 38) (by decide) W says 3 rfl k_law_near ((List.forall_mem_cons.mpr ⟨h_law_lowest.up (by decide), (List.forall_mem_cons.mpr ⟨h_law_take_2.up (by decide), (fun p hp => absurd hp List.not_mem_nil)⟩)⟩)) ((fun p hp => absurd hp List.not_mem_nil)) (by decide +kernel) (by decide +kernel) (fun _ _ _ _ _ _ us hl => match us, hl with | [_], _ => rfl) (fun p hp => absurd hp List.not_mem_nil) rfl rfl m_law_near
theorem f_law_less (W : World' classes names more K mg) (says : obsX look fn K = valX fn)   : FnAt Γ 3 P w K mg base ("_law_less", 41) :=
  mk_fn (c := s_law_less) (con := Γ.fn 41) (by decide) W says 4 rfl k_law_less ((fun p hp => absurd hp List.not_mem_nil)) ((fun p hp => absurd hp List.not_mem_nil)) (by decide +kernel) (by decide +kernel) (fun _ _ _ _ _ _ us hl => match us, hl with | [_, _], _ => rfl) (fun p hp => absurd hp List.not_mem_nil) rfl rfl m_law_less
theorem f_law_twice (W : World' classes names more K mg) (says : obsX look fn K = valX fn) (h_law_less : FnAt Γ 3 P w K mg base ("_law_less", 41))  : FnAt Γ 4 P w K mg base ("_law_twice", 42) :=
  mk_fn (c := s_law_twice) (con := Γ.fn 42) (by decide) W says 5 rfl k_law_twice ((List.forall_mem_cons.mpr ⟨h_law_less.up (by decide), (fun p hp => absurd hp List.not_mem_nil)⟩)) ((fun p hp => absurd hp List.not_mem_nil)) (by decide +kernel) (by decide +kernel) (fun _ _ _ _ _ _ us hl => match us, hl with | [_, _, _], _ => rfl) (fun p hp => absurd hp List.not_mem_nil) rfl rfl m_law_twice
theorem f_law_turn (W : World' classes names more K mg) (says : obsX look fn K = valX fn) (h_law_twice : FnAt Γ 4 P w K mg base ("_law_twice", 42))  : FnAt Γ 5 P w K mg base ("_law_turn", 50) :=
  mk_fn (c := s_law_turn) (con := Γ.fn 50) (by decide) W says 6 rfl k_law_turn ((List.forall_mem_cons.mpr ⟨h_law_twice.up (by decide), (fun p hp => absurd hp List.not_mem_nil)⟩)) ((fun p hp => absurd hp List.not_mem_nil)) (by decide +kernel) (by decide +kernel) (fun _ _ _ _ _ _ us hl => match us, hl with | [_, _, _], _ => rfl) (fun p hp => absurd hp List.not_mem_nil) rfl rfl m_law_turn
theorem f_law_frame_3 (W : World' classes names more K mg) (says : obsX look fn K = valX fn) (h_law_take_2 : FnAt Γ 3 P w K mg base ("_law_take", 0)) (h_law_near : FnAt Γ 4 P w K mg base ("_law_near", 38)) (h_law_turn : FnAt Γ 5 P w K mg base ("_law_turn", 50))  : FnAt Γ 6 P w K mg base ("_law_frame", 56) :=
  mk_fn (c := s_law_frame_3) (con := Γ.fn 56) (by decide) W says 7 rfl k_law_frame_3 ((List.forall_mem_cons.mpr ⟨h_law_take_2.up (by decide), (List.forall_mem_cons.mpr ⟨h_law_near.up (by decide), (List.forall_mem_cons.mpr ⟨h_law_turn.up (by decide), (fun p hp => absurd hp List.not_mem_nil)⟩)⟩)⟩)) ((fun p hp => absurd hp List.not_mem_nil)) (by decide +kernel) (by decide +kernel) (fun _ _ _ _ _ _ us hl => match us, hl with | [_], _ => rfl) (fun p hp => absurd hp List.not_mem_nil) rfl rfl m_law_frame_3
theorem f_how_far (W : World' classes names more K mg) (says : obsX look fn K = valX fn)   : FnAt Γ 3 P w K mg base ("how_far", 43) :=
  mk_fn (c := s_how_far) (con := Γ.fn 43) (by decide) W says 8 rfl k_how_far ((fun p hp => absurd hp List.not_mem_nil)) ((fun p hp => absurd hp List.not_mem_nil)) (by decide +kernel) (by decide +kernel) (fun _ _ _ _ _ _ us hl => match us, hl with | [_, _], _ => rfl) (fun p hp => absurd hp List.not_mem_nil) rfl rfl m_how_far
theorem f_twice_parts (W : World' classes names more K mg) (says : obsX look fn K = valX fn) (h_how_far : FnAt Γ 3 P w K mg base ("how_far", 43))  : FnAt Γ 4 P w K mg base ("twice_parts", 44) :=
  mk_fn (c := s_twice_parts) (con := Γ.fn 44) (by decide) W says 9 rfl k_twice_parts ((List.forall_mem_cons.mpr ⟨h_how_far.up (by decide), (fun p hp => absurd hp List.not_mem_nil)⟩)) ((fun p hp => absurd hp List.not_mem_nil)) (by decide +kernel) (by decide +kernel) (fun _ _ _ _ _ _ us hl => match us, hl with | [_, _, _], _ => rfl) (fun p hp => absurd hp List.not_mem_nil) rfl rfl m_twice_parts
theorem f_turn_of (W : World' classes names more K mg) (says : obsX look fn K = valX fn) (h_twice_parts : FnAt Γ 4 P w K mg base ("twice_parts", 44))  : FnAt Γ 5 P w K mg base ("turn_of", 46) :=
  mk_fn (c := s_turn_of) (con := Γ.fn 46) (by decide) W says 10 rfl k_turn_of ((List.forall_mem_cons.mpr ⟨h_twice_parts.up (by decide), (fun p hp => absurd hp List.not_mem_nil)⟩)) ((fun p hp => absurd hp List.not_mem_nil)) (by decide +kernel) (by decide +kernel) (fun _ _ _ _ _ _ us hl => match us, hl with | [_, _, _], _ => rfl) (fun p hp => absurd hp List.not_mem_nil) rfl rfl m_turn_of
theorem f_look_frame (W : World' classes names more K mg) (says : obsX look fn K = valX fn) (h_turn_of : FnAt Γ 5 P w K mg base ("turn_of", 46))  : FnAt Γ 6 P w K mg base ("look_frame", 57) :=
  mk_fn (c := s_look_frame) (con := Γ.fn 57) (by decide) W says 11 rfl k_look_frame ((List.forall_mem_cons.mpr ⟨h_turn_of.up (by decide), (fun p hp => absurd hp List.not_mem_nil)⟩)) ((fun p hp => absurd hp List.not_mem_nil)) (by decide +kernel) (by decide +kernel) (fun _ _ _ _ _ _ us hl => match us, hl with | [_], _ => rfl) (fun p hp => absurd hp List.not_mem_nil) rfl rfl m_look_frame
theorem f_divisor (W : World' classes names more K mg) (says : obsX look fn K = valX fn)   : FnAt Γ 3 P w K mg base ("divisor", 2) :=
  mk_fn (c := s_divisor) (con := Γ.fn 2) (by decide) W says 12 rfl k_divisor ((fun p hp => absurd hp List.not_mem_nil)) ((fun p hp => absurd hp List.not_mem_nil)) (by decide +kernel) (by decide +kernel) (fun _ _ _ _ _ _ us hl => match us, hl with | [_, _], _ => rfl) (fun p hp => absurd hp List.not_mem_nil) rfl rfl m_divisor
theorem f_frac_of (W : World' classes names more K mg) (says : obsX look fn K = valX fn) (h_divisor : FnAt Γ 3 P w K mg base ("divisor", 2))  : FnAt Γ 4 P w K mg base ("frac_of", 3) :=
  mk_fn (c := s_frac_of) (con := Γ.fn 3) (by decide) W says 13 rfl k_frac_of ((List.forall_mem_cons.mpr ⟨h_divisor.up (by decide), (fun p hp => absurd hp List.not_mem_nil)⟩)) ((fun p hp => absurd hp List.not_mem_nil)) (by decide +kernel) (by decide +kernel) (fun _ _ _ _ _ _ us hl => match us, hl with | [_, _], _ => rfl) (fun p hp => absurd hp List.not_mem_nil) rfl rfl m_frac_of
theorem f_twice_of (W : World' classes names more K mg) (says : obsX look fn K = valX fn) (h_twice_parts : FnAt Γ 4 P w K mg base ("twice_parts", 44)) (h_frac_of : FnAt Γ 4 P w K mg base ("frac_of", 3))  : FnAt Γ 5 P w K mg base ("twice_of", 45) :=
  mk_fn (c := s_twice_of) (con := Γ.fn 45) (by decide) W says 14 rfl k_twice_of ((List.forall_mem_cons.mpr ⟨h_twice_parts.up (by decide), (List.forall_mem_cons.mpr ⟨h_frac_of.up (by decide), (fun p hp => absurd hp List.not_mem_nil)⟩)⟩)) ((fun p hp => absurd hp List.not_mem_nil)) (by decide +kernel) (by decide +kernel) (fun _ _ _ _ _ _ us hl => match us, hl with | [_, _, _], _ => rfl) (fun p hp => absurd hp List.not_mem_nil) rfl rfl m_twice_of
theorem f_quotient (W : World' classes names more K mg) (says : obsX look fn K = valX fn) (h_frac_of : FnAt Γ 4 P w K mg base ("frac_of", 3))  : FnAt Γ 5 P w K mg base ("quotient", 11) :=
  mk_fn (c := s_quotient) (con := Γ.fn 11) (by decide) W says 15 rfl k_quotient ((List.forall_mem_cons.mpr ⟨h_frac_of.up (by decide), (fun p hp => absurd hp List.not_mem_nil)⟩)) ((fun p hp => absurd hp List.not_mem_nil)) (by decide +kernel) (by decide +kernel) (fun _ _ _ _ _ _ us hl => match us, hl with | [_, _], _ => rfl) (fun p hp => absurd hp List.not_mem_nil) rfl rfl m_quotient
theorem f_in_frame (W : World' classes names more K mg) (says : obsX look fn K = valX fn) (h_look_frame : FnAt Γ 6 P w K mg base ("look_frame", 57)) (h_twice_of : FnAt Γ 5 P w K mg base ("twice_of", 45)) (h_quotient : FnAt Γ 5 P w K mg base ("quotient", 11))  : FnAt Γ 7 P w K mg base ("in_frame", 58) :=
  mk_fn (c := s_in_frame) (con := Γ.fn 58) (by decide) W says 16 rfl k_in_frame ((List.forall_mem_cons.mpr ⟨h_look_frame.up (by decide), (List.forall_mem_cons.mpr ⟨h_twice_of.up (by decide), (List.forall_mem_cons.mpr ⟨h_quotient.up (by decide), (fun p hp => absurd hp List.not_mem_nil)⟩)⟩)⟩)) ((fun p hp => absurd hp List.not_mem_nil)) (by decide +kernel) (by decide +kernel) (fun _ _ _ _ _ _ us hl => match us, hl with | [_, _], _ => rfl) (fun p hp => absurd hp List.not_mem_nil) rfl rfl m_in_frame
theorem f_is_whole (W : World' classes names more K mg) (says : obsX look fn K = valX fn)   : FnAt Γ 3 P w K mg base ("is_whole", 21) :=
  mk_fn (c := s_is_whole) (con := Γ.fn 21) (by decide) W says 17 rfl k_is_whole ((fun p hp => absurd hp List.not_mem_nil)) ((fun p hp => absurd hp List.not_mem_nil)) (by decide +kernel) (by decide +kernel) (fun _ _ _ _ _ _ us hl => match us, hl with | [_], _ => rfl) (fun p hp => absurd hp List.not_mem_nil) rfl rfl m_is_whole
theorem f_look_prime (W : World' classes names more K mg) (says : obsX look fn K = valX fn) (h_is_whole : FnAt Γ 3 P w K mg base ("is_whole", 21)) (q_PRIMES : CstAt Γ K mg ("PRIMES", 0)) : FnAt Γ 4 P w K mg base ("look_prime", 26) :=
  mk_fn (c := s_look_prime) (con := Γ.fn 26) (by decide) W says 18 rfl k_look_prime ((List.forall_mem_cons.mpr ⟨h_is_whole.up (by decide), (fun p hp => absurd hp List.not_mem_nil)⟩)) ((List.forall_mem_cons.mpr ⟨q_PRIMES, (fun p hp => absurd hp List.not_mem_nil)⟩)) (by decide +kernel) (by decide +kernel) (fun _ _ _ _ _ _ us hl => match us, hl with | [_], _ => rfl) (fun p hp => absurd hp List.not_mem_nil) rfl rfl m_look_prime
theorem f_times_in (W : World' classes names more K mg) (says : obsX look fn K = valX fn)   : FnAt Γ 3 P w K mg base ("times_in", 27) :=
  mk_fn (c := s_times_in) (con := Γ.fn 27) (by decide) W says 19 rfl k_times_in ((fun p hp => absurd hp List.not_mem_nil)) ((fun p hp => absurd hp List.not_mem_nil)) (by decide +kernel) (by decide +kernel) (fun _ _ _ _ _ _ us hl => match us, hl with | [_, _], _ => rfl) (fun p hp => absurd hp List.not_mem_nil) rfl rfl m_times_in
theorem f_power_in (W : World' classes names more K mg) (says : obsX look fn K = valX fn) (h_look_prime : FnAt Γ 4 P w K mg base ("look_prime", 26)) (h_times_in : FnAt Γ 3 P w K mg base ("times_in", 27))  : FnAt Γ 5 P w K mg base ("power_in", 28) :=
  mk_fn (c := s_power_in) (con := Γ.fn 28) (by decide) W says 20 rfl k_power_in ((List.forall_mem_cons.mpr ⟨h_look_prime.up (by decide), (List.forall_mem_cons.mpr ⟨h_times_in.up (by decide), (fun p hp => absurd hp List.not_mem_nil)⟩)⟩)) ((fun p hp => absurd hp List.not_mem_nil)) (by decide +kernel) (by decide +kernel) (fun _ _ _ _ _ _ us hl => match us, hl with | [_, _], _ => rfl) (fun p hp => absurd hp List.not_mem_nil) rfl rfl m_power_in
theorem f_colour_of (W : World' classes names more K mg) (says : obsX look fn K = valX fn) (h_look_prime : FnAt Γ 4 P w K mg base ("look_prime", 26)) (h_power_in : FnAt Γ 5 P w K mg base ("power_in", 28))  : FnAt Γ 6 P w K mg base ("colour_of", 54) :=
  mk_fn (c := s_colour_of) (con := Γ.fn 54) (by decide) W says 21 rfl k_colour_of ((List.forall_mem_cons.mpr ⟨h_look_prime.up (by decide), (List.forall_mem_cons.mpr ⟨h_power_in.up (by decide), (fun p hp => absurd hp List.not_mem_nil)⟩)⟩)) ((fun p hp => absurd hp List.not_mem_nil)) (by decide +kernel) (by decide +kernel) (fun _ _ _ _ _ _ us hl => match us, hl with | [_, _, _], _ => rfl) (fun p hp => absurd hp List.not_mem_nil) rfl rfl m_colour_of
theorem f_colour_by (W : World' classes names more K mg) (says : obsX look fn K = valX fn) (h_in_frame : FnAt Γ 7 P w K mg base ("in_frame", 58)) (h_colour_of : FnAt Γ 6 P w K mg base ("colour_of", 54))  : FnAt Γ 8 P w K mg base ("colour_by", 59) :=
  mk_fn (c := s_colour_by) (con := Γ.fn 59) (by decide) W says 22 rfl k_colour_by ((List.forall_mem_cons.mpr ⟨h_in_frame.up (by decide), (List.forall_mem_cons.mpr ⟨h_colour_of.up (by decide), (fun p hp => absurd hp List.not_mem_nil)⟩)⟩)) ((fun p hp => absurd hp List.not_mem_nil)) (by decide +kernel) (by decide +kernel) (fun _ _ _ _ _ _ us hl => match us, hl with | [_, _, _], _ => rfl) (fun p hp => absurd hp List.not_mem_nil) rfl rfl m_colour_by
theorem f_law_by_prime (W : World' classes names more K mg) (says : obsX look fn K = valX fn) (h_law_take_2 : FnAt Γ 3 P w K mg base ("_law_take", 0)) (h_law_lowest : FnAt Γ 3 P w K mg base ("_law_lowest", 4))  : FnAt Γ 4 P w K mg base ("_law_by_prime", 61) :=
  mk_fn (c := s_law_by_prime) (con := Γ.fn 61) (by decide) W says 23 rfl k_law_by_prime ((List.forall_mem_cons.mpr ⟨h_law_take_2.up (by decide), (List.forall_mem_cons.mpr ⟨h_law_lowest.up (by decide), (fun p hp => absurd hp List.not_mem_nil)⟩)⟩)) ((fun p hp => absurd hp List.not_mem_nil)) (by decide +kernel) (by decide +kernel) (fun _ _ _ _ _ _ us hl => match us, hl with | [_, _], _ => rfl) (fun p hp => absurd hp List.not_mem_nil) rfl rfl m_law_by_prime
theorem f_law_mid (W : World' classes names more K mg) (says : obsX look fn K = valX fn) (h_law_lowest : FnAt Γ 3 P w K mg base ("_law_lowest", 4))  : FnAt Γ 4 P w K mg base ("_law_mid", 69) :=
  mk_fn (c := s_law_mid) (con := Γ.fn 69) (by decide) W says 24 rfl k_law_mid ((List.forall_mem_cons.mpr ⟨h_law_lowest.up (by decide), (fun p hp => absurd hp List.not_mem_nil)⟩)) ((fun p hp => absurd hp List.not_mem_nil)) (by decide +kernel) (by decide +kernel) (fun _ _ _ _ _ _ us hl => match us, hl with | [_, _], _ => rfl) (fun p hp => absurd hp List.not_mem_nil) rfl rfl m_law_mid
theorem f_law_placed (W : World' classes names more K mg) (says : obsX look fn K = valX fn) (h_law_by_prime : FnAt Γ 4 P w K mg base ("_law_by_prime", 61)) (h_law_mid : FnAt Γ 4 P w K mg base ("_law_mid", 69))  : FnAt Γ 5 P w K mg base ("_law_placed", 107) :=
  mk_fn (c := s_law_placed) (con := Γ.fn 107) (by decide) W says 25 rfl k_law_placed ((List.forall_mem_cons.mpr ⟨h_law_by_prime.up (by decide), (List.forall_mem_cons.mpr ⟨h_law_mid.up (by decide), (fun p hp => absurd hp List.not_mem_nil)⟩)⟩)) ((fun p hp => absurd hp List.not_mem_nil)) (by decide +kernel) (by decide +kernel) (fun _ _ _ _ _ _ us hl => match us, hl with | [_, _, _], _ => rfl) (fun p hp => absurd hp List.not_mem_nil) rfl rfl m_law_placed
theorem f_law_number (W : World' classes names more K mg) (says : obsX look fn K = valX fn) (h_law_take_2 : FnAt Γ 3 P w K mg base ("_law_take", 0))  : FnAt Γ 4 P w K mg base ("_law_number", 1) :=
  mk_fn (c := s_law_number) (con := Γ.fn 1) (by decide) W says 26 rfl k_law_number ((List.forall_mem_cons.mpr ⟨h_law_take_2.up (by decide), (fun p hp => absurd hp List.not_mem_nil)⟩)) ((fun p hp => absurd hp List.not_mem_nil)) (by decide +kernel) (by decide +kernel) (fun _ _ _ _ _ _ us hl => match us, hl with | [_], _ => rfl) (fun p hp => absurd hp List.not_mem_nil) rfl rfl m_law_number
theorem f_law_frac (W : World' classes names more K mg) (says : obsX look fn K = valX fn) (h_law_number : FnAt Γ 4 P w K mg base ("_law_number", 1)) (h_law_lowest : FnAt Γ 3 P w K mg base ("_law_lowest", 4))  : FnAt Γ 5 P w K mg base ("_law_frac", 10) :=
  mk_fn (c := s_law_frac) (con := Γ.fn 10) (by decide) W says 27 rfl k_law_frac ((List.forall_mem_cons.mpr ⟨h_law_number.up (by decide), (List.forall_mem_cons.mpr ⟨h_law_lowest.up (by decide), (fun p hp => absurd hp List.not_mem_nil)⟩)⟩)) ((fun p hp => absurd hp List.not_mem_nil)) (by decide +kernel) (by decide +kernel) (fun _ _ _ _ _ _ us hl => match us, hl with | [_], _ => rfl) (fun p hp => absurd hp List.not_mem_nil) rfl rfl m_law_frac
theorem f_law_spot (W : World' classes names more K mg) (says : obsX look fn K = valX fn) (h_law_frac : FnAt Γ 5 P w K mg base ("_law_frac", 10))  : FnAt Γ 6 P w K mg base ("_law_spot", 32) :=
  mk_fn (c := s_law_spot) (con := Γ.fn 32) (by decide) W says 28 rfl k_law_spot ((List.forall_mem_cons.mpr ⟨h_law_frac.up (by decide), (fun p hp => absurd hp List.not_mem_nil)⟩)) ((fun p hp => absurd hp List.not_mem_nil)) (by decide +kernel) (by decide +kernel) (fun _ _ _ _ _ _ us hl => match us, hl with | [_], _ => rfl) (fun p hp => absurd hp List.not_mem_nil) rfl rfl m_law_spot
theorem f_added (W : World' classes names more K mg) (says : obsX look fn K = valX fn) (h_frac_of : FnAt Γ 4 P w K mg base ("frac_of", 3))  : FnAt Γ 5 P w K mg base ("added", 14) :=
  mk_fn (c := s_added) (con := Γ.fn 14) (by decide) W says 29 rfl k_added ((List.forall_mem_cons.mpr ⟨h_frac_of.up (by decide), (fun p hp => absurd hp List.not_mem_nil)⟩)) ((fun p hp => absurd hp List.not_mem_nil)) (by decide +kernel) (by decide +kernel) (fun _ _ _ _ _ _ us hl => match us, hl with | [_, _], _ => rfl) (fun p hp => absurd hp List.not_mem_nil) rfl rfl m_added
theorem f_multiplied (W : World' classes names more K mg) (says : obsX look fn K = valX fn) (h_frac_of : FnAt Γ 4 P w K mg base ("frac_of", 3))  : FnAt Γ 5 P w K mg base ("multiplied", 16) :=
  mk_fn (c := s_multiplied) (con := Γ.fn 16) (by decide) W says 30 rfl k_multiplied ((List.forall_mem_cons.mpr ⟨h_frac_of.up (by decide), (fun p hp => absurd hp List.not_mem_nil)⟩)) ((fun p hp => absurd hp List.not_mem_nil)) (by decide +kernel) (by decide +kernel) (fun _ _ _ _ _ _ us hl => match us, hl with | [_, _], _ => rfl) (fun p hp => absurd hp List.not_mem_nil) rfl rfl m_multiplied
theorem f_lessened (W : World' classes names more K mg) (says : obsX look fn K = valX fn) (h_frac_of : FnAt Γ 4 P w K mg base ("frac_of", 3))  : FnAt Γ 5 P w K mg base ("lessened", 15) :=
  mk_fn (c := s_lessened) (con := Γ.fn 15) (by decide) W says 31 rfl k_lessened ((List.forall_mem_cons.mpr ⟨h_frac_of.up (by decide), (fun p hp => absurd hp List.not_mem_nil)⟩)) ((fun p hp => absurd hp List.not_mem_nil)) (by decide +kernel) (by decide +kernel) (fun _ _ _ _ _ _ us hl => match us, hl with | [_, _], _ => rfl) (fun p hp => absurd hp List.not_mem_nil) rfl rfl m_lessened
theorem f_on_way (W : World' classes names more K mg) (says : obsX look fn K = valX fn) (h_added : FnAt Γ 5 P w K mg base ("added", 14)) (h_multiplied : FnAt Γ 5 P w K mg base ("multiplied", 16)) (h_lessened : FnAt Γ 5 P w K mg base ("lessened", 15))  : FnAt Γ 6 P w K mg base ("on_way", 48) :=
  mk_fn (c := s_on_way) (con := Γ.fn 48) (by decide) W says 32 rfl k_on_way ((List.forall_mem_cons.mpr ⟨h_added.up (by decide), (List.forall_mem_cons.mpr ⟨h_multiplied.up (by decide), (List.forall_mem_cons.mpr ⟨h_lessened.up (by decide), (fun p hp => absurd hp List.not_mem_nil)⟩)⟩)⟩)) ((fun p hp => absurd hp List.not_mem_nil)) (by decide +kernel) (by decide +kernel) (fun _ _ _ _ _ _ us hl => match us, hl with | [_, _, _], _ => rfl) (fun p hp => absurd hp List.not_mem_nil) rfl rfl m_on_way
end
theorem facts {w : World} {K : PySem.W.Frag} {mg : Str → Option Value} {h : Heap} {fa : Addr} (X : K.In h) (G : h.Ns mainGlobals mg) (says : obsX look fn K = valX fn) (hfa : mg ("law" : Str) = some (.ref fa)) :
    ∃ fd : FuncData, (∀ (s : Shared) (u : Value), BindsTo s fd ⟨[u], []⟩ [("_law_script", u)]) ∧ ∀ base : Heap, K.In base → base.Ns mainGlobals mg → FnOk R.prog w K mg base (L2.CX R.prog w) 9 fa fd ["_law_script"] (spOf K 1 c_law) := by
  have W : World' classes names more K mg := look_ok X G (says_ex says)
  have q_PRIMES := k_PRIMES (K := K) (mg := mg) W X G
  refine mk_law (c := s_law_18) (con := c_law) (by decide) W says 33 rfl k_law_18 (fun base b1 b2 => ?_) ((fun p hp => absurd hp List.not_mem_nil)) (by decide +kernel) (by decide +kernel) (fun _ _ _ _ _ _ us hl => match us, hl with | [_], _ => rfl) rfl m_law_18 hfa
  have h_law_primes := f_law_primes (P := R.prog) (w := w) (base := base) W says  
  have h_law_take_2 := f_law_take_2 (P := R.prog) (w := w) (base := base) W says  
  have h_law_lowest := f_law_lowest (P := R.prog) (w := w) (base := base) W says  
  have h_law_near := f_law_near (P := R.prog) (w := w) (base := base) W says h_law_lowest h_law_take_2 
  have h_law_less := f_law_less (P := R.prog) (w := w) (base := base) W says  
  have h_law_twice := f_law_twice (P := R.prog) (w := w) (base := base) W says h_law_less 
  have h_law_turn := f_law_turn (P := R.prog) (w := w) (base := base) W says h_law_twice 
  have h_law_frame_3 := f_law_frame_3 (P := R.prog) (w := w) (base := base) W says h_law_take_2 h_law_near h_law_turn 
  have h_how_far := f_how_far (P := R.prog) (w := w) (base := base) W says  
  have h_twice_parts := f_twice_parts (P := R.prog) (w := w) (base := base) W says h_how_far 
  have h_turn_of := f_turn_of (P := R.prog) (w := w) (base := base) W says h_twice_parts 
  have h_look_frame := f_look_frame (P := R.prog) (w := w) (base := base) W says h_turn_of 
  have h_divisor := f_divisor (P := R.prog) (w := w) (base := base) W says  
  have h_frac_of := f_frac_of (P := R.prog) (w := w) (base := base) W says h_divisor 
  have h_twice_of := f_twice_of (P := R.prog) (w := w) (base := base) W says h_twice_parts h_frac_of 
  have h_quotient := f_quotient (P := R.prog) (w := w) (base := base) W says h_frac_of 
  have h_in_frame := f_in_frame (P := R.prog) (w := w) (base := base) W says h_look_frame h_twice_of h_quotient 
  have h_is_whole := f_is_whole (P := R.prog) (w := w) (base := base) W says  
  have h_look_prime := f_look_prime (P := R.prog) (w := w) (base := base) W says h_is_whole q_PRIMES
  have h_times_in := f_times_in (P := R.prog) (w := w) (base := base) W says  
  have h_power_in := f_power_in (P := R.prog) (w := w) (base := base) W says h_look_prime h_times_in 
  have h_colour_of := f_colour_of (P := R.prog) (w := w) (base := base) W says h_look_prime h_power_in 
  have h_colour_by := f_colour_by (P := R.prog) (w := w) (base := base) W says h_in_frame h_colour_of 
  have h_law_by_prime := f_law_by_prime (P := R.prog) (w := w) (base := base) W says h_law_take_2 h_law_lowest 
  have h_law_mid := f_law_mid (P := R.prog) (w := w) (base := base) W says h_law_lowest 
  have h_law_placed := f_law_placed (P := R.prog) (w := w) (base := base) W says h_law_by_prime h_law_mid 
  have h_law_number := f_law_number (P := R.prog) (w := w) (base := base) W says h_law_take_2 
  have h_law_frac := f_law_frac (P := R.prog) (w := w) (base := base) W says h_law_number h_law_lowest 
  have h_law_spot := f_law_spot (P := R.prog) (w := w) (base := base) W says h_law_frac 
  have h_added := f_added (P := R.prog) (w := w) (base := base) W says h_frac_of 
  have h_multiplied := f_multiplied (P := R.prog) (w := w) (base := base) W says h_frac_of 
  have h_lessened := f_lessened (P := R.prog) (w := w) (base := base) W says h_frac_of 
  have h_on_way := f_on_way (P := R.prog) (w := w) (base := base) W says h_added h_multiplied h_lessened 
  exact (List.forall_mem_cons.mpr ⟨h_law_primes.up (by decide), (List.forall_mem_cons.mpr ⟨h_law_frame_3.up (by decide), (List.forall_mem_cons.mpr ⟨h_colour_by.up (by decide), (List.forall_mem_cons.mpr ⟨h_law_take_2.up (by decide), (List.forall_mem_cons.mpr ⟨h_law_near.up (by decide), (List.forall_mem_cons.mpr ⟨h_law_placed.up (by decide), (List.forall_mem_cons.mpr ⟨h_law_spot.up (by decide), (List.forall_mem_cons.mpr ⟨h_law_lowest.up (by decide), (List.forall_mem_cons.mpr ⟨h_law_by_prime.up (by decide), (List.forall_mem_cons.mpr ⟨h_on_way.up (by decide), (fun p hp => absurd hp List.not_mem_nil)⟩)⟩)⟩)⟩)⟩)⟩)⟩)⟩)⟩)⟩)
end K26
open PySem PySem.W PySem.Calls PyProof.Rows in
set_option maxRecDepth 100000 in
set_option maxHeartbeats 8000000 in
theorem PySem.Challenge.cw_likeshards_k26_whole_two_colours_on_a_li_holds : PySem.Challenge.rw_likeshards_k26_whole_two_colours_on_a_li.Holds := by
  w_on; o_law
  refine HandSHeadRun.head_any (r := K26.R) (q := view K26.R.prog [44]) (H := K26.hk) (ob := K26.ob) (M := 40000) (loose := K26.loose) (d := HandSHeadRun.topDef K26.R.prog 44) (kwd := []) K26.ob_eq
    (by kernel_rfl) (fun s => by kernel_rfl) K26.run (by kernel_rfl) (by kernel_rfl) (by kernel_rfl) (by rfl)
    (by first | assumption | decide +kernel) (by decide +kernel) ⟨rfl, rfl, rfl, rfl, rfl, by decide +kernel⟩ ?hw ?hc
  case hw => w_witness2
  case hc =>
    refine Sd.walk_X (l := PySem.Challenge.rw_likeshards_k26_whole_two_colours_on_a_li) (k := 9) (x := "_law_script") rfl (by kernel_rfl) ⟨rfl, by decide, by decide⟩ ?F
    intro w mg fa h Y G hmg0
    obtain ⟨K, KX, says⟩ := Y
    have hmg : mg ("law" : PySem.Str) = some (.ref fa) := by
      have e : (HandSHeadRun.topDef K26.R.prog 44).name = ("law" : PySem.Str) := by kernel_rfl
      rw [← e]
      exact hmg0
    obtain ⟨fd, hb, hF⟩ := K26.facts (w := w) KX G says hmg
    exact ⟨K, fd, K26.c_law, KX, (Sd.look_ok (mg := mg) KX G (Sd.says_ex says)).nol, K26.law_con, hb, hF⟩
