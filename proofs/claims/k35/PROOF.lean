import PyProof.Rows.All
import Wide.All
import OpenK.AllK
import Wide.FinOn
import PyProof.EqAt
import PyProof.EqKinds
import PyProof.TupleCall
import PyProof.NoPylong
import PyProof.Fits
import HandS.Base
import HandS.Call
import HandS.List
import HandS.Comp
import HandS.Ends
import HandS.Iter
import HandS.Exc
import HandS.ExcOwn
import HandS.Dict
import KE.KeyNested
import HandS.TupMul
import HandS.Flow
import HandS.Wide
import HandS.TupAny
import HandS.DictTup
import HandS.Text
import PyProof.Rows.TupTab
import HandS.Deep
import PyProof.NeKinds
import HandS.Style
import HandS.ExcIs
import HandS.ExcField
import KE.KDictCopyH
import HandS.SortInts
import HandS.WideBits
import KE.KExcIs
import HandS.IsInst
import KE.DataFind
import HandS.More
import HandS.Zip
import HandS.SetFor
import HandS.TupSets
import HandS.StrMore
import HandS.SetKeys
import HandS.SortKw
import KE.DataMinMax
import HandS.Small
import HandS.TryOnly
import KE.GoesEnum
import KE.KRevSl
import HandS.Conv
import HandS.ExcInit
import HandS.ExcValue
import HandS.Defaults
import HandS.EndBits
import HandS.Head0
import HandS.Head1
import HandS.Head2
import HandS.HeadHook1
import HandS.HeadHook2
import HandS.Words
import PySem.Challenge.RW_likeshards_k35_refusals_apart
set_option Elab.async false
set_option linter.all false
set_option maxRecDepth 100000
set_option maxHeartbeats 4000000
namespace Sd
open PySem PySem.Spec PyProof.Rows L2
inductive D where
  | non | bl (b : Bool) | int (i : Int) | str (x : Str) | ty (n : Str) | ref (a : Addr) | tup (l : List D)
inductive O where
  | lst (w : Bool) (l : List D)
  | exc (k : Nat) (f : Option D)
  | dct (l : List (NestedKey × D × D))
  | dci (l : List (Int × D))
abbrev DSt := List (Option D)
abbrev Sto := Addr → Option O
abbrev PD := D → Sto → Prop
abbrev AW := Nat → Option D → DSt → Sto → Prop
abbrev FW := Nat → Option D → Sto → Prop
abbrev Con := List D → Sto → PD → FW → Prop
def Sto.up (S : Sto) (a : Addr) (o : O) : Sto := fun b => if b = a then some o else S b
theorem up_same {S : Sto} {a : Addr} {o : O} : S.up a o a = some o := by unfold Sto.up; rw [if_pos rfl]
theorem up_ne {S : Sto} {a b : Addr} {o : O} (h : b ≠ a) : S.up a o b = S b := by unfold Sto.up; rw [if_neg h]
theorem sne {S : Sto} {a b : Addr} {o : O} (h : S a = some o) (h' : S b = none) : a ≠ b := by
  intro e; subst e; rw [h] at h'; cases h'
def Sto.le (S S' : Sto) : Prop := ∀ a o, S a = some o → S' a = some o
theorem Sto.le.refl (S : Sto) : Sto.le S S := fun _ _ h => h
theorem Sto.le.trans {S S1 S2 : Sto} (a : Sto.le S S1) (b : Sto.le S1 S2) : Sto.le S S2 := fun x o h => b x o (a x o h)
theorem Sto.le.up {S S' : Sto} {p : Addr} {o : O} (h : Sto.le S S') (n : S p = none) : Sto.le S (S'.up p o) := fun a u e => by
  rw [up_ne (sne e n)]; exact h a u e
def clsN : Nat → Str
  | 0 => "ShardError" | 1 => "NoNumber" | 2 => "NoPrime" | 3 => "NoField" | 4 => "NoCutting" | 5 => "NoLine" | 6 => "NoFrame" | 7 => "NoDoor" | 8 => "NoPaper"
  | 9 => "NoAreas" | 10 => "NoWay" | 11 => "NoSpot" | 12 => "NoMove" | 13 => "NoBend" | 14 => "TooMany" | 15 => "NoText" | 16 => "NoRow" | _ => "NoName"
def fldN : Nat → Str
  | 4 => "fault" | 15 => "at" | _ => "name"
def subK (i j : Nat) : Bool := i == j || j == 0
def gaK (K : PySem.W.Frag) (x : Str) : Addr := match PySem.W.nsIn K mainGlobals x with
  | some (some (.ref a)) => a
  | _ => 0
def Kn (K : PySem.W.Frag) (k : Nat) : Prop := k < 18 ∧ PySem.W.nsIn K mainGlobals (clsN k) = some (some (.ref (gaK K (clsN k))))
section
variable (K : PySem.W.Frag)
mutual
def Rp (H : Hp) : D → V → Prop
  | .non, v => v = .non
  | .bl b, v => v = .bl b
  | .int i, v => v = .int i
  | .str x, v => v = .str x
  | .ty n, v => v = .ref (gaK K n)
  | .ref a, v => v = .ref a
  | .tup l, v => ∃ a vs, v = .ref a ∧ SqT K H a vs ∧ Rps H l vs
def Rps (H : Hp) : List D → List V → Prop
  | [], vs => vs = []
  | d :: ds, vs => ∃ v r, vs = v :: r ∧ Rp H d v ∧ Rps H ds r
end
structure Kp (H H' : Hp) : Prop where
  tups : ∀ b xs, H b = some (.tup xs) → H' b = some (.tup xs)
  frzs : ∀ b o u, H b = some (.frz o u) → H' b = some (.frz o u)
end
theorem Kp.refl (H : Hp) : Kp H H := ⟨fun _ _ h => h, fun _ _ _ h => h⟩
theorem Kp.trans {H H1 H2 : Hp} (a : Kp H H1) (b : Kp H1 H2) : Kp H H2 := ⟨fun x xs h => b.tups x xs (a.tups x xs h), fun x o u h => b.frzs x o u (a.frzs x o u h)⟩
theorem Kp.new {H : Hp} {p : Addr} {o : HO} (h : H p = none) : Kp H (upd H p o) := ⟨fun b xs e => by rw [upd_ne (ne_of_none e h)]; exact e, fun b o' u e => by rw [upd_ne (ne_of_none e h)]; exact e⟩
theorem Kp.lst {H : Hp} {p : Addr} {o : HO} {xs : List V} (h : H p = some (.lst xs)) : Kp H (upd H p o) :=
  ⟨fun b ys e => by rw [upd_ne (ne_of e h (by intro z; cases z))]; exact e, fun b o' u e => by rw [upd_ne (ne_of e h (by intro z; cases z))]; exact e⟩
theorem SqT.kp {K : PySem.W.Frag} {H H' : Hp} {a : Addr} {xs : List V} (k : Kp H H') (h : SqT K H a xs) : SqT K H' a xs := by
  rcases h with (h | ⟨o, h⟩) | h
  · exact .inl (.inl (k.tups _ _ h))
  · exact .inl (.inr ⟨o, k.frzs _ _ _ h⟩)
  · exact .inr h
mutual
theorem Rp.kp {K : PySem.W.Frag} {H H' : Hp} (k : Kp H H') : ∀ (d : D) {v : V}, Rp K H d v → Rp K H' d v
  | .non, _, h => h
  | .bl _, _, h => h
  | .int _, _, h => h
  | .str _, _, h => h
  | .ty _, _, h => h
  | .ref _, _, h => h
  | .tup l, _, h => by
    obtain ⟨a, vs, e, q, r⟩ := h
    exact ⟨a, vs, e, SqT.kp k q, Rps.kp k l r⟩
theorem Rps.kp {K : PySem.W.Frag} {H H' : Hp} (k : Kp H H') : ∀ (ds : List D) {vs : List V}, Rps K H ds vs → Rps K H' ds vs
  | [], _, h => h
  | d :: ds, _, h => by
    obtain ⟨v, r, e, q, t⟩ := h
    exact ⟨v, r, e, Rp.kp k d q, Rps.kp k ds t⟩
end
section
variable {K : PySem.W.Frag} {H H' : Hp}
theorem Rps.length : ∀ {ds : List D} {vs : List V}, Rps K H ds vs → vs.length = ds.length
  | [], _, h => by rw [show _ = _ from h]; rfl
  | d :: ds, _, h => by
    obtain ⟨v, r, rfl, _, t⟩ := h
    simp [Rps.length t]
theorem Rps.get : ∀ {ds : List D} {vs : List V} {i : Nat} {d : D}, Rps K H ds vs → ds[i]? = some d → ∃ v, vs[i]? = some v ∧ Rp K H d v
  | [], _, _, _, _, e => by simp at e
  | d :: ds, _, 0, _, h, e => by
    obtain ⟨v, r, rfl, q, t⟩ := h
    simp at e; subst e
    exact ⟨v, rfl, q⟩
  | d :: ds, _, i + 1, x, h, e => by
    obtain ⟨v, r, rfl, q, t⟩ := h
    obtain ⟨u, h1, h2⟩ := Rps.get (i := i) (d := x) t (by simpa using e)
    exact ⟨u, by simpa using h1, h2⟩
theorem Rps.getV : ∀ {ds : List D} {vs : List V} {i : Nat} {v : V}, Rps K H ds vs → vs[i]? = some v → ∃ d, ds[i]? = some d ∧ Rp K H d v
  | [], _, _, _, h, e => by rw [show _ = _ from h] at e; simp at e
  | d :: ds, _, 0, _, h, e => by
    obtain ⟨v, r, rfl, q, t⟩ := h
    simp at e; subst e
    exact ⟨d, rfl, q⟩
  | d :: ds, _, i + 1, x, h, e => by
    obtain ⟨v, r, rfl, q, t⟩ := h
    obtain ⟨u, h1, h2⟩ := Rps.getV (i := i) (v := x) t (by simpa using e)
    exact ⟨u, by simpa using h1, h2⟩
theorem Rps.append : ∀ {ds es : List D} {vs us : List V}, Rps K H ds vs → Rps K H es us → Rps K H (ds ++ es) (vs ++ us)
  | [], _, _, _, h, q => by rw [show _ = _ from h]; exact q
  | d :: ds, _, _, _, h, q => by
    obtain ⟨v, r, rfl, a, t⟩ := h
    exact ⟨v, r ++ _, rfl, a, Rps.append t q⟩
theorem Rps.one {d : D} {v : V} (h : Rp K H d v) : Rps K H [d] [v] := ⟨v, [], rfl, h, rfl⟩
theorem Rps.cons {d : D} {v : V} {ds : List D} {vs : List V} (h : Rp K H d v) (t : Rps K H ds vs) : Rps K H (d :: ds) (v :: vs) := ⟨v, vs, rfl, h, t⟩
theorem Rps.set {d : D} {v : V} (h : Rp K H d v) : ∀ {ds : List D} {vs : List V} (i : Nat), Rps K H ds vs → Rps K H (ds.set i d) (vs.set i v)
  | [], _, _, q => by rw [show _ = _ from q]; exact rfl
  | e :: ds, _, 0, q => by
    obtain ⟨u, r, rfl, a, t⟩ := q
    exact ⟨v, r, rfl, h, t⟩
  | e :: ds, _, i + 1, q => by
    obtain ⟨u, r, rfl, a, t⟩ := q
    exact ⟨u, r.set i v, rfl, a, Rps.set h i t⟩
theorem Rps.take : ∀ {ds : List D} {vs : List V} (n : Nat), Rps K H ds vs → Rps K H (ds.take n) (vs.take n)
  | _, _, 0, _ => rfl
  | [], _, _ + 1, h => by rw [show _ = _ from h]; rfl
  | d :: ds, _, n + 1, h => by
    obtain ⟨v, r, rfl, a, t⟩ := h
    exact ⟨v, r.take n, rfl, a, Rps.take n t⟩
theorem Rps.drop : ∀ {ds : List D} {vs : List V} (n : Nat), Rps K H ds vs → Rps K H (ds.drop n) (vs.drop n)
  | _, _, 0, h => h
  | [], _, _ + 1, h => by rw [show _ = _ from h]; rfl
  | d :: ds, _, n + 1, h => by
    obtain ⟨v, r, rfl, a, t⟩ := h
    exact Rps.drop n t
end
mutual
def keyD : Nat → D → Option NestedKey
  | _, .non => some .none
  | _, .int i => some (.num i)
  | 0, .tup _ => none
  | n + 1, .tup l => (keyDs n l).map NestedKey.tup
  | _, _ => none
def keyDs : Nat → List D → Option (List NestedKey)
  | _, [] => some []
  | n, d :: ds => match keyD n d, keyDs n ds with
    | some k, some ks => some (k :: ks)
    | _, _ => none
end
mutual
/-- hash(k) of a key without texts: the same in each world -/
def nh : NestedKey → Int
  | .none => reduceHash 0xFCA86420
  | .num i => hashInt i
  | .text _ => 0
  | .tup ks => reduceHash (Builtin.Tuple.tupleHashOf (nhs ks))
def nhs : List NestedKey → List Int
  | [] => []
  | k :: ks => nh k :: nhs ks
end
mutual
theorem nh_eq (w : World) : ∀ (n : Nat) (d : D) (k : NestedKey), keyD n d = some k → k.hash w = nh k ∧ k.depth ≤ n
  | n, .non, k, e => by
    cases n <;> (cases e; exact ⟨rfl, Nat.zero_le _⟩)
  | n, .int i, k, e => by
    cases n <;> (cases e; exact ⟨rfl, Nat.zero_le _⟩)
  | 0, .tup l, k, e => by cases e
  | n + 1, .tup l, k, e => by
    cases q : keyDs n l with
    | none =>
      have e' : (keyDs n l).map NestedKey.tup = some k := e
      rw [q] at e'
      cases e'
    | some ks =>
      have e' : (keyDs n l).map NestedKey.tup = some k := e
      rw [q] at e'
      cases e'
      obtain ⟨h1, h2⟩ := nhs_eq w n l ks q
      exact ⟨by rw [NestedKey.hash, nh, h1], Nat.succ_le_succ h2⟩
  | n, .bl _, k, e => by cases n <;> cases e
  | n, .str _, k, e => by cases n <;> cases e
  | n, .ty _, k, e => by cases n <;> cases e
  | n, .ref _, k, e => by cases n <;> cases e
theorem nhs_eq (w : World) : ∀ (n : Nat) (l : List D) (ks : List NestedKey), keyDs n l = some ks → NestedKey.hashes w ks = nhs ks ∧ NestedKey.depthAll ks ≤ n
  | n, [], ks, e => by
    cases n <;> (cases e; exact ⟨rfl, Nat.zero_le _⟩)
  | n, d :: l, ks, e => by
    have e' : (match keyD n d, keyDs n l with
      | some k, some ks => some (k :: ks)
      | _, _ => none) = some ks := by cases n <;> exact e
    cases q1 : keyD n d with
    | none => rw [q1] at e'; cases e'
    | some k =>
      cases q2 : keyDs n l with
      | none => rw [q1, q2] at e'; cases e'
      | some ks' =>
        rw [q1, q2] at e'
        cases e'
        obtain ⟨h1, h2⟩ := nh_eq w n d k q1
        obtain ⟨h3, h4⟩ := nhs_eq w n l ks' q2
        exact ⟨by rw [NestedKey.hashes, nhs, h1, h3], Nat.max_le.mpr ⟨h2, h4⟩⟩
end
def ky (d : D) : Option NestedKey := keyD 6 d
def dfind (l : List (NestedKey × D × D)) (k : NestedKey) : Option D := (l.find? fun p => decide (p.1 = k)).map (·.2.2)
def dput (l : List (NestedKey × D × D)) (k : NestedKey) (kd d : D) : List (NestedKey × D × D) :=
  if (dfind l k).isSome then l.map fun p => if p.1 = k then (p.1, p.2.1, d) else p else l ++ [(k, kd, d)]
def entN (x : NestedKey × Addr × Value) : DictEntry := ⟨nh x.1, .ref x.2.1, x.2.2⟩
def DctV (a : Addr) (xs : List (NestedKey × Addr × Value)) : HO := .ext fun h => ∃ o es ep, h.get? a = some o ∧ o.ExactDict ∧ o.data = .dict es ep ∧ es.toList = xs.map entN
def DRel (K : PySem.W.Frag) (H : Hp) : List (NestedKey × D × D) → List (NestedKey × Addr × Value) → Prop
  | [], xs => xs = []
  | p :: l, xs => ∃ q r, xs = q :: r ∧ p.1 = q.1 ∧ ky p.2.1 = some p.1 ∧ Rp K H p.2.1 (.ref q.2.1) ∧ (∃ v, Rp K H p.2.2 v ∧ RelV v q.2.2) ∧ DRel K H l r
theorem DRel.kp {K : PySem.W.Frag} {H H' : Hp} (k : Kp H H') : ∀ {l : List (NestedKey × D × D)} {xs : List (NestedKey × Addr × Value)}, DRel K H l xs → DRel K H' l xs
  | [], _, h => h
  | p :: l, _, h => by
    obtain ⟨q, r, e, h1, h2, h3, ⟨v, h4, h5⟩, h6⟩ := h
    exact ⟨q, r, e, h1, h2, Rp.kp k _ h3, ⟨v, Rp.kp k _ h4, h5⟩, DRel.kp k h6⟩
def ifind (l : List (Int × D)) (k : Int) : Option D := (l.find? fun p => decide (p.1 = k)).map (·.2)
def iput (l : List (Int × D)) (k : Int) (d : D) : List (Int × D) :=
  if (ifind l k).isSome then l.map fun p => if p.1 = k then (p.1, d) else p else l ++ [(k, d)]
def KRel (K : PySem.W.Frag) (H : Hp) : List (Int × D) → List (L2.Key × V) → Prop
  | [], xs => xs = []
  | p :: l, xs => ∃ v r, xs = (.inl p.1, v) :: r ∧ Rp K H p.2 v ∧ KRel K H l r
theorem KRel.kp {K : PySem.W.Frag} {H H' : Hp} (k : Kp H H') : ∀ {l : List (Int × D)} {xs : List (L2.Key × V)}, KRel K H l xs → KRel K H' l xs
  | [], _, h => h
  | p :: l, _, h => by
    obtain ⟨v, r, e, h1, h2⟩ := h
    exact ⟨v, r, e, Rp.kp k _ h1, KRel.kp k h2⟩
def ExV (cls : Value) (d : Option Addr) (a : Addr) : HO := .ext fun h => ∃ (oe : Obj) (vs : Array Value), h.get? a = some oe ∧ Zc cls d oe ∧ oe.data = .fields vs
def FldOk (K : PySem.W.Frag) (H : Hp) (k : Nat) (d : Option Addr) : Option D → Prop
  | none => Kn K k ∧ d = none
  | some x => Kn K k ∧ ∃ da v, d = some da ∧ H da = some (.xd [(fldN k, v)]) ∧ Rp K H x v
def OkO (K : PySem.W.Frag) (H : Hp) (a : Addr) : O → Prop
  | .lst true l => ∃ vs, H a = some (.lst vs) ∧ Rps K H l vs
  | .lst false l => ∃ o vs, H a = some (.frz o (.lst vs)) ∧ Rps K H l vs
  | .exc k f => ∃ d, H a = some (ExV (.ref (gaK K (clsN k))) d a) ∧ FldOk K H k d f
  | .dct l => l.length ≤ sizeLine ∧ (a == sysModules) = false ∧ (l.map (·.1)).Nodup ∧ ∃ xs, H a = some (DctV a xs) ∧ DRel K H l xs
  | .dci l => ∃ xs, H a = some (.dK xs) ∧ KRel K H l xs
def StoOk (K : PySem.W.Frag) (H : Hp) (S : Sto) : Prop := ∀ a o, S a = some o → OkO K H a o
structure Sees (K : PySem.W.Frag) (H : Hp) (σ : L2.St) (ρ : DSt) (S : Sto) : Prop where
  len : ρ.length = σ.length
  loc : ∀ (i : Nat) (d : D), ρ[i]? = some (some d) → ∃ v, σ[i]? = some (some v) ∧ Rp K H d v
  sto : StoOk K H S
section
variable {K : PySem.W.Frag} {H H' : Hp} {σ : L2.St} {ρ : DSt} {S S' : Sto}
theorem StoOk.le (h : StoOk K H S') (l : Sto.le S S') : StoOk K H S := fun a o e => h a o (l a o e)
theorem OkO.there {a : Addr} {o : O} (h : OkO K H a o) : H a ≠ none := by
  cases o with
  | lst w l =>
    cases w with
    | true => obtain ⟨vs, e, _⟩ := h; rw [e]; simp
    | false => obtain ⟨ob, vs, e, _⟩ := h; rw [e]; simp
  | exc k f => obtain ⟨d, e, _⟩ := h; rw [e]; simp
  | dct l => obtain ⟨_, _, _, xs, e, _⟩ := h; rw [e]; simp
  | dci l => obtain ⟨xs, e, _⟩ := h; rw [e]; simp
theorem StoOk.free (h : StoOk K H S) {a : Addr} (e : H a = none) : S a = none := by
  cases q : S a with
  | none => rfl
  | some o => exact absurd e (h a o q).there
def Sm (H H' : Hp) : Prop := ∀ b o, H b = some o → H' b = some o
theorem Sm.kp (s : Sm H H') : Kp H H' := ⟨fun b xs e => s b _ e, fun b o u e => s b _ e⟩
theorem Sm.new {p : Addr} {o : HO} (h : H p = none) : Sm H (upd H p o) := fun b u e => by rw [upd_ne (ne_of_none e h)]; exact e
theorem FldOk.sm {k : Nat} {d : Option Addr} {f : Option D} (s : Sm H H') (h : FldOk K H k d f) : FldOk K H' k d f := by
  cases f with
  | none => exact h
  | some x =>
    obtain ⟨kn, da, v, e, q, r⟩ := h
    exact ⟨kn, da, v, e, s _ _ q, Rp.kp s.kp x r⟩
theorem FldOk.kn {k : Nat} {d : Option Addr} {f : Option D} (h : FldOk K H k d f) : Kn K k := by
  cases f with
  | none => exact h.1
  | some x => exact h.1
theorem OkO.sm {a : Addr} {o : O} (s : Sm H H') (h : OkO K H a o) : OkO K H' a o := by
  cases o with
  | lst w l =>
    cases w with
    | true => obtain ⟨vs, e, q⟩ := h; exact ⟨vs, s _ _ e, Rps.kp s.kp l q⟩
    | false => obtain ⟨ob, vs, e, q⟩ := h; exact ⟨ob, vs, s _ _ e, Rps.kp s.kp l q⟩
  | exc k f => obtain ⟨d, e, q⟩ := h; exact ⟨d, s _ _ e, q.sm s⟩
  | dct l => obtain ⟨h1, h2, h3, xs, e, q⟩ := h; exact ⟨h1, h2, h3, xs, s _ _ e, q.kp s.kp⟩
  | dci l => obtain ⟨xs, e, q⟩ := h; exact ⟨xs, s _ _ e, q.kp s.kp⟩
theorem StoOk.sm (s : Sm H H') (h : StoOk K H S) : StoOk K H' S := fun a o e => (h a o e).sm s
theorem StoOk.new {p : Addr} {o : O} {u : HO} (h : StoOk K H S) (hp : H p = none) (ho : OkO K (upd H p u) p o) : StoOk K (upd H p u) (S.up p o) := fun a o' e => by
  by_cases ha : a = p
  · subst ha; rw [up_same] at e; cases e; exact ho
  · rw [up_ne ha] at e
    exact (h a o' e).sm (Sm.new hp)
theorem FldOk.lst {k : Nat} {d : Option Addr} {f : Option D} {p : Addr} {xs ys : List V} (hp : H p = some (.lst xs)) (h : FldOk K H k d f) : FldOk K (upd H p (.lst ys)) k d f := by
  cases f with
  | none => exact h
  | some x =>
    obtain ⟨kn, da, v, e, q, r⟩ := h
    exact ⟨kn, da, v, e, by rw [upd_ne (ne_of q hp (by intro z; cases z))]; exact q, Rp.kp (Kp.lst hp) x r⟩
theorem StoOk.lst {p : Addr} {l l' : List D} {xs ys : List V} (h : StoOk K H S) (hp : H p = some (.lst xs)) (hr : Rps K H l' ys) : StoOk K (upd H p (.lst ys)) (S.up p (.lst true l')) := fun a o e => by
  by_cases ha : a = p
  · subst ha; rw [up_same] at e; cases e
    exact ⟨ys, upd_same, Rps.kp (Kp.lst hp) _ hr⟩
  · rw [up_ne ha] at e
    have q := h a o e
    cases o with
    | lst w l =>
      cases w with
      | true => obtain ⟨vs, e1, q1⟩ := q; exact ⟨vs, by rw [upd_ne ha]; exact e1, Rps.kp (Kp.lst hp) l q1⟩
      | false => obtain ⟨ob, vs, e1, q1⟩ := q; exact ⟨ob, vs, by rw [upd_ne ha]; exact e1, Rps.kp (Kp.lst hp) l q1⟩
    | exc k f => obtain ⟨d, e1, q1⟩ := q; exact ⟨d, by rw [upd_ne ha]; exact e1, q1.lst hp⟩
    | dct l2 => obtain ⟨h1, h2, h3, xs2, e1, q1⟩ := q; exact ⟨h1, h2, h3, xs2, by rw [upd_ne ha]; exact e1, q1.kp (Kp.lst hp)⟩
    | dci l2 => obtain ⟨xs2, e1, q1⟩ := q; exact ⟨xs2, by rw [upd_ne ha]; exact e1, q1.kp (Kp.lst hp)⟩
theorem Sees.at (h : Sees K H σ ρ S) (k : Kp H H') (s : StoOk K H' S') : Sees K H' σ ρ S' := ⟨h.len, fun i d e => let ⟨v, a, b⟩ := h.loc i d e; ⟨v, a, Rp.kp k d b⟩, s⟩
theorem Sees.set (h : Sees K H σ ρ S) (i : Nat) {d : D} {v : V} (r : Rp K H d v) : Sees K H (σ.set i (some v)) (ρ.set i (some d)) S := by
  refine ⟨by simp [h.len], fun j e q => ?_, h.sto⟩
  by_cases hj : i = j
  · subst hj
    by_cases hi : i < ρ.length
    · rw [List.getElem?_set_self hi] at q
      cases q
      exact ⟨v, List.getElem?_set_self (by rw [← h.len]; exact hi), r⟩
    · rw [List.getElem?_eq_none (by simpa using hi)] at q; cases q
  · rw [List.getElem?_set_ne hj] at q
    obtain ⟨u, a, b⟩ := h.loc j e q
    exact ⟨u, by rw [List.getElem?_set_ne hj]; exact a, b⟩
theorem Sees.unset (h : Sees K H σ ρ S) (i : Nat) (o : Option V) : Sees K H (σ.set i o) (ρ.set i none) S := by
  refine ⟨by simp [h.len], fun j e q => ?_, h.sto⟩
  by_cases hj : i = j
  · subst hj
    by_cases hi : i < ρ.length
    · rw [List.getElem?_set_self hi] at q; cases q
    · rw [List.getElem?_eq_none (by simpa using hi)] at q; cases q
  · rw [List.getElem?_set_ne hj] at q
    obtain ⟨u, a, b⟩ := h.loc j e q
    exact ⟨u, by rw [List.getElem?_set_ne hj]; exact a, b⟩
end
abbrev AE := DSt → Sto → PD → AW → Prop
abbrev AT := DSt → Sto → (Bool → Sto → Prop) → AW → Prop
abbrev AA := DSt → Sto → (List D → Sto → Prop) → AW → Prop
structure DE where
  nx : DSt → Sto → Prop
  rt : PD
  bk : DSt → Sto → Prop := fun _ _ => False
  ct : DSt → Sto → Prop := fun _ _ => False
abbrev AS := DE → DSt → Sto → AW → Prop
def WLe (K : PySem.W.Frag) (H : Hp) (W : AW) (Wh : WX) : Prop := ∀ k f ρ S, W k f ρ S → ∀ d σ H', Kp H H' → Sees K H' σ ρ S → FldOk K H' k d f → Wh (.ref (gaK K (clsN k))) d σ H'
def PLe (K : PySem.W.Frag) (H : Hp) (P : PD) (Q : VK) : Prop := ∀ d S, P d S → ∀ v H', Kp H H' → StoOk K H' S → Rp K H' d v → Q v H'
def BLe (K : PySem.W.Frag) (H : Hp) (P : Bool → Sto → Prop) (Q : Bool → Hp → Prop) : Prop := ∀ b S, P b S → ∀ H', Kp H H' → StoOk K H' S → Q b H'
def ALe (K : PySem.W.Frag) (H : Hp) (P : List D → Sto → Prop) (Q : List V → Hp → Prop) : Prop := ∀ ds S, P ds S → ∀ vs H', Kp H H' → StoOk K H' S → Rps K H' ds vs → Q vs H'
def NLe (K : PySem.W.Frag) (H : Hp) (P : DSt → Sto → Prop) (Q : L2.St → Hp → Prop) : Prop := ∀ ρ S, P ρ S → ∀ σ H', Kp H H' → Sees K H' σ ρ S → Q σ H'
structure SLe (K : PySem.W.Frag) (H : Hp) (N : DE) (E : Ends) : Prop where
  nx : NLe K H N.nx E.nx
  rt : PLe K H N.rt E.rt
  bk : NLe K H N.bk E.bk
  ct : NLe K H N.ct E.ct
section
variable {K : PySem.W.Frag} {H H' : Hp}
theorem WLe.at {W : AW} {Wh : WX} (h : WLe K H W Wh) (k : Kp H H') : WLe K H' W Wh := fun c f ρ S w d σ H2 k2 => h c f ρ S w d σ H2 (k.trans k2)
theorem PLe.at {P : PD} {Q : VK} (h : PLe K H P Q) (k : Kp H H') : PLe K H' P Q := fun d S w v H2 k2 => h d S w v H2 (k.trans k2)
theorem BLe.at {P : Bool → Sto → Prop} {Q : Bool → Hp → Prop} (h : BLe K H P Q) (k : Kp H H') : BLe K H' P Q := fun d S w H2 k2 => h d S w H2 (k.trans k2)
theorem ALe.at {P : List D → Sto → Prop} {Q : List V → Hp → Prop} (h : ALe K H P Q) (k : Kp H H') : ALe K H' P Q := fun d S w v H2 k2 => h d S w v H2 (k.trans k2)
theorem NLe.at {P : DSt → Sto → Prop} {Q : L2.St → Hp → Prop} (h : NLe K H P Q) (k : Kp H H') : NLe K H' P Q := fun d S w v H2 k2 => h d S w v H2 (k.trans k2)
theorem SLe.at {N : DE} {E : Ends} (h : SLe K H N E) (k : Kp H H') : SLe K H' N E := ⟨h.nx.at k, h.rt.at k, h.bk.at k, h.ct.at k⟩
end
def LE (K : PySem.W.Frag) (Wh : WX) (A : AE) : TE := fun σ H Q => ∃ ρ S W P, Sees K H σ ρ S ∧ WLe K H W Wh ∧ PLe K H P Q ∧ A ρ S P W
def LT (K : PySem.W.Frag) (Wh : WX) (A : AT) : TT := fun σ H Q => ∃ ρ S W P, Sees K H σ ρ S ∧ WLe K H W Wh ∧ BLe K H P Q ∧ A ρ S P W
def LA (K : PySem.W.Frag) (Wh : WX) (A : AA) : TA := fun σ H Q => ∃ ρ S W P, Sees K H σ ρ S ∧ WLe K H W Wh ∧ ALe K H P Q ∧ A ρ S P W
def LS (K : PySem.W.Frag) (Wh : WX) (A : AS) : TS := fun E σ H => ∃ ρ S W N, Sees K H σ ρ S ∧ WLe K H W Wh ∧ SLe K H N E ∧ A N ρ S W
theorem PE.imp {X : Cx} {e : Expr} {t t' : TE} (h : PE X e t) (i : ∀ σ H Q, t' σ H Q → t σ H Q) : PE X e t' := ⟨fun pins s σ H Q I hw => h.run pins s σ H Q I (i σ H Q hw)⟩
theorem PT.imp {X : Cx} {e : Expr} {t t' : TT} (h : PT X e t) (i : ∀ σ H Q, t' σ H Q → t σ H Q) : PT X e t' := ⟨fun pins s σ H Q I hw => h.run pins s σ H Q I (i σ H Q hw)⟩
theorem PW.imp {X : Cx} {e : Expr} {t t' : TT} (h : PW X e t) (i : ∀ σ H Q, t' σ H Q → t σ H Q) : PW X e t' := ⟨fun wh pins s σ H Q I hw => h.run wh pins s σ H Q I (i σ H Q hw)⟩
theorem PA.imp {X : Cx} {e : List Expr} {t t' : TA} (h : PA X e t) (i : ∀ σ H Q, t' σ H Q → t σ H Q) : PA X e t' := ⟨fun pos pins s σ H Q I hw => h.run pos pins s σ H Q I (i σ H Q hw)⟩
theorem PS.imp {X : Cx} {st : Stmt} {t t' : TS} (h : PS X st t) (i : ∀ D σ H, t' D σ H → t D σ H) : PS X st t' := ⟨fun pins s σ H D I hw => h.run pins s σ H D I (i D σ H hw)⟩
theorem PSs.imp {X : Cx} {st : List Stmt} {t t' : TS} (h : PSs X st t) (i : ∀ D σ H, t' D σ H → t D σ H) : PSs X st t' := ⟨fun pins s σ H D I hw => h.run pins s σ H D I (i D σ H hw)⟩
end Sd
namespace Sd
open PySem PySem.Spec PyProof.Rows L2
section
variable {X : Cx} {pins : List (Addr × Obj)} {σ : L2.St} {H : Hp} {s : Shared}
mutual
theorem key_is (I : Inv X pins σ H s) : ∀ (n : Nat) (d : D) (k : NestedKey) (v : V) (u : Value), keyD n d = some k → Rp X.K H d v → RelV v u → NestedIs s.heap k u
  | n, .non, k, v, u, e, r, ru => by
    cases r
    cases (show u = Value.none from ru)
    cases n <;> (cases e; exact .none)
  | n, .int i, k, v, u, e, r, ru => by
    cases r
    obtain ⟨t, rfl⟩ := (show ∃ t, u = Value.int i t from ru)
    cases n <;> (cases e; exact .int i t)
  | 0, .tup l, k, v, u, e, r, ru => by cases e
  | n + 1, .tup l, k, v, u, e, r, ru => by
    obtain ⟨a, vs, rfl, hq, rs⟩ := r
    cases (show u = Value.ref a from ru)
    obtain ⟨its, rv, ⟨o, ho, hc, m, hd⟩, _⟩ := I.tuple hq
    cases q : keyDs n l with
    | none =>
      have e' : (keyDs n l).map NestedKey.tup = some k := e
      rw [q] at e'
      cases e'
    | some ks =>
      have e' : (keyDs n l).map NestedKey.tup = some k := e
      rw [q] at e'
      cases e'
      exact .tup ho hc hd (by simpa using keys_are I n l ks vs its q rs rv)
  | n, .bl _, k, v, u, e, r, ru => by cases n <;> cases e
  | n, .str _, k, v, u, e, r, ru => by cases n <;> cases e
  | n, .ty _, k, v, u, e, r, ru => by cases n <;> cases e
  | n, .ref _, k, v, u, e, r, ru => by cases n <;> cases e
theorem keys_are (I : Inv X pins σ H s) : ∀ (n : Nat) (l : List D) (ks : List NestedKey) (vs : List V) (us : List Value), keyDs n l = some ks → Rps X.K H l vs → Vals vs us → NestedAll s.heap ks us
  | n, [], ks, vs, us, e, r, ru => by
    cases (show vs = [] from r)
    cases ru
    cases n <;> (cases e; exact .nil)
  | n, d :: l, ks, vs, us, e, r, ru => by
    obtain ⟨v, vr, rfl, r1, r2⟩ := r
    cases ru with
    | cons h1 h2 =>
      have e' : (match keyD n d, keyDs n l with
        | some k, some ks => some (k :: ks)
        | _, _ => none) = some ks := by cases n <;> exact e
      cases q1 : keyD n d with
      | none => rw [q1] at e'; cases e'
      | some k =>
        cases q2 : keyDs n l with
        | none => rw [q1, q2] at e'; cases e'
        | some ks' =>
          rw [q1, q2] at e'
          cases e'
          exact .cons (key_is I n d k v _ q1 r1 h1) (keys_are I n l ks' vr _ q2 r2 h2)
end
abbrev nk (X : Cx) := nestedKind X.prog X.w
theorem key_at (I : Inv X pins σ H s) {d : D} {k : NestedKey} {b : Addr} (e : ky d = some k) (r : Rp X.K H d (.ref b)) : (nk X).is s.heap k b :=
  ⟨key_is I 6 d k _ _ e r rfl, Nat.le_trans (nh_eq X.w 6 d k e).2 (by decide)⟩
theorem DRel.keys {K : PySem.W.Frag} : ∀ {l : List (NestedKey × D × D)} {xs : List (NestedKey × Addr × Value)}, DRel K H l xs → xs.map (·.1) = l.map (·.1)
  | [], xs, h => by cases (show xs = [] from h); rfl
  | p :: l, xs, h => by
    obtain ⟨q, r, rfl, h1, _, _, _, h6⟩ := h
    rw [List.map_cons, List.map_cons, DRel.keys h6, h1]
theorem DRel.len {K : PySem.W.Frag} {l : List (NestedKey × D × D)} {xs : List (NestedKey × Addr × Value)} (h : DRel K H l xs) : xs.length = l.length := by
  have := congrArg List.length h.keys
  simpa using this
theorem DRel.all (I : Inv X pins σ H s) : ∀ {l : List (NestedKey × D × D)} {xs : List (NestedKey × Addr × Value)}, DRel X.K H l xs → (∀ x ∈ xs, (nk X).is s.heap x.1 x.2.1) ∧ xs.map entN = xs.map (entryOfKey (nk X))
  | [], xs, h => by cases (show xs = [] from h); exact ⟨by simp, rfl⟩
  | p :: l, xs, h => by
    obtain ⟨q, r, rfl, h1, h2, h3, _, h6⟩ := h
    obtain ⟨g1, g2⟩ := DRel.all I h6
    refine ⟨fun x hx => ?_, ?_⟩
    · rcases List.mem_cons.mp hx with rfl | hx
      · exact key_at I (by rw [← h1]; exact h2) h3
      · exact g1 x hx
    · rw [List.map_cons, List.map_cons, g2]
      congr 1
      show DictEntry.mk (nh q.1) _ _ = DictEntry.mk (q.1.hash X.w) _ _
      rw [← h1, (nh_eq X.w 6 _ _ h2).1]
theorem dct_of (I : Inv X pins σ H s) {a : Addr} {l : List (NestedKey × D × D)} {xs : List (NestedKey × Addr × Value)} (e : H a = some (DctV a xs)) (r : DRel X.K H l xs) (nd : (l.map (·.1)).Nodup) : s.heap.DictOfH (nk X) a xs := by
  obtain ⟨⟨o, es, ep, h1, h2, h3, h4⟩, _, _⟩ := (show ObjOk X.prog X.w H s.heap a (DctV a xs) from I.hok a _ e)
  obtain ⟨g1, g2⟩ := r.all I
  exact ⟨o, es, ep, h1, h2, h3, h4.trans g2, g1, by rw [r.keys]; exact nd⟩
theorem DRel.find {K : PySem.W.Frag} {k : NestedKey} : ∀ {l : List (NestedKey × D × D)} {xs : List (NestedKey × Addr × Value)}, DRel K H l xs → (dfind l k = none ∧ atKey xs k = none) ∨ ∃ d p v, dfind l k = some d ∧ atKey xs k = some p ∧ Rp K H d v ∧ RelV v p.2
  | [], xs, h => by cases (show xs = [] from h); exact .inl ⟨rfl, rfl⟩
  | p :: l, xs, h => by
    obtain ⟨q, r, rfl, h1, _, _, ⟨v, h4, h5⟩, h6⟩ := h
    by_cases c : p.1 = k
    · refine .inr ⟨p.2.2, q.2, v, ?_, ?_, h4, h5⟩
      · simp [dfind, List.find?_cons, c]
      · simp [atKey, List.find?_cons, h1.symm.trans c]
    · have c' : ¬ q.1 = k := fun z => c (h1.trans z)
      have e1 : dfind (p :: l) k = dfind l k := by simp [dfind, List.find?_cons, c]
      have e2 : atKey (q :: r) k = atKey r k := by simp [atKey, List.find?_cons, c']
      rw [e1, e2]
      exact DRel.find h6
theorem DRel.isS {K : PySem.W.Frag} {k : NestedKey} {l : List (NestedKey × D × D)} {xs : List (NestedKey × Addr × Value)} (h : DRel K H l xs) : (atKey xs k).isSome = (dfind l k).isSome := by
  rcases h.find (k := k) with ⟨h1, h2⟩ | ⟨d, p, v, h1, h2, _⟩ <;> rw [h1, h2] <;> rfl
theorem DRel.repl {K : PySem.W.Frag} {k : NestedKey} {d : D} {v : V} {u : Value} (rv : Rp K H d v) (ru : RelV v u) : ∀ {l : List (NestedKey × D × D)} {xs : List (NestedKey × Addr × Value)}, DRel K H l xs → DRel K H (l.map fun p => if p.1 = k then (p.1, p.2.1, d) else p) (xs.map (putAt k u))
  | [], xs, h => by cases (show xs = [] from h); exact rfl
  | p :: l, xs, h => by
    obtain ⟨q, r, rfl, h1, h2, h3, ⟨w, h4, h5⟩, h6⟩ := h
    refine ⟨putAt k u q, r.map (putAt k u), rfl, ?_⟩
    dsimp only
    by_cases c : p.1 = k
    · have c' : q.1 = k := h1.symm.trans c
      have e2 : putAt k u q = (q.1, q.2.1, u) := if_pos c'
      rw [if_pos c, e2]
      exact ⟨h1, h2, h3, ⟨v, rv, ru⟩, DRel.repl rv ru h6⟩
    · have c' : ¬ q.1 = k := fun z => c (h1.trans z)
      have e2 : putAt k u q = q := if_neg c'
      rw [if_neg c, e2]
      exact ⟨h1, h2, h3, ⟨w, h4, h5⟩, DRel.repl rv ru h6⟩
theorem DRel.snoc {K : PySem.W.Frag} {k : NestedKey} {kd d : D} {b : Addr} {v : V} {u : Value} (hk : ky kd = some k) (rk : Rp K H kd (.ref b)) (rv : Rp K H d v) (ru : RelV v u) : ∀ {l : List (NestedKey × D × D)} {xs : List (NestedKey × Addr × Value)}, DRel K H l xs → DRel K H (l ++ [(k, kd, d)]) (xs ++ [(k, b, u)])
  | [], xs, h => by cases (show xs = [] from h); exact ⟨_, [], rfl, rfl, hk, rk, ⟨v, rv, ru⟩, rfl⟩
  | p :: l, xs, h => by
    obtain ⟨q, r, rfl, h1, h2, h3, h4, h6⟩ := h
    exact ⟨q, r ++ _, rfl, h1, h2, h3, h4, DRel.snoc hk rk rv ru h6⟩
theorem DRel.put {K : PySem.W.Frag} {k : NestedKey} {kd d : D} {b : Addr} {v : V} {u : Value} {l : List (NestedKey × D × D)} {xs : List (NestedKey × Addr × Value)} (h : DRel K H l xs) (hk : ky kd = some k) (rk : Rp K H kd (.ref b)) (rv : Rp K H d v) (ru : RelV v u) : DRel K H (dput l k kd d) (storedH xs k b u) := by
  unfold dput storedH
  rw [h.isS]
  split
  · exact h.repl rv ru
  · exact h.snoc hk rk rv ru
theorem dput_len {l : List (NestedKey × D × D)} {k : NestedKey} {kd d : D} : (dput l k kd d).length ≤ l.length + 1 := by
  unfold dput
  split
  · simp
  · simp
theorem dput_nd {l : List (NestedKey × D × D)} {k : NestedKey} {kd d : D} (h : (l.map (·.1)).Nodup) : ((dput l k kd d).map (·.1)).Nodup := by
  unfold dput
  split
  · have e : (l.map fun p => if p.1 = k then (p.1, p.2.1, d) else p).map (·.1) = l.map (·.1) := by
      rw [List.map_map]
      refine List.map_congr_left fun p _ => ?_
      show (if p.1 = k then (p.1, p.2.1, d) else p).1 = p.1
      split <;> rfl
    rw [e]; exact h
  · rename_i c
    have c : dfind l k = none := by
      cases q : dfind l k with
      | none => rfl
      | some x => rw [q] at c; simp at c
    rw [List.map_append, List.nodup_append]
    refine ⟨h, by simp, fun x hx y hy => ?_⟩
    simp only [List.map_cons, List.map_nil, List.mem_singleton] at hy
    subst hy
    intro z
    subst z
    obtain ⟨p, hp, e⟩ := List.mem_map.mp hx
    have : (l.find? fun p => decide (p.1 = x)) = none := by
      unfold dfind at c
      exact Option.map_eq_none_iff.mp c
    rw [List.find?_eq_none] at this
    exact this p hp (by simpa using e)
def DGetN (K : PySem.W.Frag) (H : Hp) (x y : V) (o : Option D) : Prop := ∃ a b xs l kd k, x = .ref a ∧ y = .ref b ∧ H a = some (DctV a xs) ∧ (a == sysModules) = false ∧ l.length ≤ sizeLine ∧ (l.map (·.1)).Nodup ∧ DRel K H l xs ∧ ky kd = some k ∧ Rp K H kd (.ref b) ∧ o = dfind l k
def rDGet (K : PySem.W.Frag) : R2 := fun x y H Q => ∃ d, DGetN K H x y (some d) ∧ ∀ v, Rp K H d v → Q v H
theorem ix_dct (hu : X.A.units + 9 < cLine) : IxR X (rDGet X.K) := by
  intro value slice pins s σ H x y v u Q I rx ry h hs
  obtain ⟨d, ⟨a, b, xs, l, kd, k, rfl, rfl, e, hd, hl, nd, r, hk, rk, ho⟩, hQ⟩ := h
  cases rx; cases ry
  have dd := dct_of I e r nd
  rcases r.find (k := k) with ⟨h1, _⟩ | ⟨d', p, w, h1, h2, h3, h4⟩
  · rw [h1] at ho; cases ho
  rw [h1] at ho
  cases ho
  exact tail_any dd.typeIs PySem.F.slot_dict_getitem.lookup (wpAny_getItem_heap (show X.A.in1.units + 8 < cLine by show X.A.units + 1 + 8 < cLine; omega) (key_at I hk rk) dd h2 ⟨w, H, I.tok _, h4, hQ w h3⟩) hs
def rDIn (K : PySem.W.Frag) (neg : Bool) : R2 := fun x y H Q => ∃ o, DGetN K H y x o ∧ Q (.bl (if neg then !o.isSome else o.isSome)) H
theorem op_in_dct (hu : X.A.units + 9 < cLine) : OpR X (compareOp .In) (rDIn X.K false) := by
  intro pins s σ H x y v u Q I rx ry h
  obtain ⟨o, ⟨a, b, xs, l, kd, k, rfl, rfl, e, hd, hl, nd, r, hk, rk, ho⟩, hQ⟩ := h
  cases rx; cases ry
  have dd := dct_of I e r nd
  refine wpAny_in_heap (show X.A.in1.units + 8 < cLine by show X.A.units + 1 + 8 < cLine; omega) (key_at I hk rk) hd dd ⟨.bl _, H, I.tok _, rfl, ?_⟩
  rw [r.isS, ← ho]
  exact hQ
theorem op_notIn_dct (hu : X.A.units + 9 < cLine) : OpR X (compareOp .NotIn) (rDIn X.K true) := by
  intro pins s σ H x y v u Q I rx ry h
  obtain ⟨o, ⟨a, b, xs, l, kd, k, rfl, rfl, e, hd, hl, nd, r, hk, rk, ho⟩, hQ⟩ := h
  cases rx; cases ry
  have dd := dct_of I e r nd
  refine wpAny_notIn_heap (show X.A.in1.units + 8 < cLine by show X.A.units + 1 + 8 < cLine; omega) (key_at I hk rk) hd dd ⟨.bl _, H, I.tok _, rfl, ?_⟩
  rw [r.isS, ← ho]
  exact hQ
theorem d_getN (hu : X.A.units + 9 < cLine) {x y : V} {u w : Value} {o : Option D} {Q : VK} (I : Inv X pins σ H s) (g : DGetN X.K H x y o) (rx : RelV x u) (ry : RelV y w) (h : ∀ v, Rp X.K H (o.getD .non) v → Q v H) : wpAny (model X.prog X.w) X.A (call (.builtin "dict.get") [u, w]) (EP X pins σ Q) X.xe s := by
  obtain ⟨a, b, xs, l, kd, k, rfl, rfl, e, hd, hl, nd, r, hk, rk, ho⟩ := g
  cases rx; cases ry
  have dd := dct_of I e r nd
  refine call_meetsIn PySem.F.slot_dict_get dd.typeIs PySem.F.entry_dict_get (PySem.F.args_dict_get_2 _ _) (meetsH_dict_get (nk X) a b hd) ⟨show X.A.in1.units + 8 < cLine by show X.A.units + 1 + 8 < cLine; omega, k, xs, key_at I hk rk, dd, ?_⟩
  rcases r.find (k := k) with ⟨h1, h2⟩ | ⟨d', p, v, h1, h2, h3, h4⟩
  · rw [h1] at ho
    subst ho
    rw [h2]
    exact ⟨.non, H, I.tok _, rfl, h _ rfl⟩
  · rw [h1] at ho
    subst ho
    rw [h2]
    exact ⟨v, H, I.tok _, h4, h _ h3⟩
theorem d_setN (hu : X.A.units + 9 < cLine) {a b : Addr} {xs : List (NestedKey × Addr × Value)} {l : List (NestedKey × D × D)} {kd d : D} {k : NestedKey} {v : V} {u : Value} {Q : Unit → Shared → Prop} (I : Inv X pins σ H s) (e : H a = some (DctV a xs)) (hd : (a == sysModules) = false) (hl : l.length < sizeLine) (nd : (l.map (·.1)).Nodup) (r : DRel X.K H l xs) (hk : ky kd = some k) (rk : Rp X.K H kd (.ref b)) (rv : Rp X.K H d v) (ru : RelV v u)
    (h : ∀ s', Inv X pins σ (upd H a (DctV a (storedH xs k b u))) s' → Q () s') : wpAny (model X.prog X.w) X.A (setItem (.ref a) (.ref b) u) Q X.xe s := by
  have dd := dct_of I e r nd
  have hx := r.len
  refine wpAny_setItem_heap (hsz := by omega) (show X.A.in1.units + 8 < cLine by show X.A.units + 1 + 8 < cLine; omega) (key_at I hk rk) dd fun h' dd' hs => h _ ?_
  obtain ⟨q, es, ep, hq, h2, h3, h4, _, h5⟩ := dd'
  have rn := r.put hk rk rv ru
  have eN := (rn.all I).2
  refine d_write I (by rw [e]; exact True.intro) hs ⟨q, hq⟩ ⟨⟨q, es, ep, hq, h2, h3, h4.trans eN.symm⟩, ⟨q, hq⟩, fun h1' h2' ⟨o, es', ep', g1, g2, g3, g4⟩ hh => ⟨o, es', ep', hh _ g1, g2, g3, g4⟩⟩
end
theorem KRel.find {K : PySem.W.Frag} {H : Hp} {k : Int} : ∀ {l : List (Int × D)} {xs : List (L2.Key × V)}, KRel K H l xs → (ifind l k = none ∧ valV xs (.inl k) = none) ∨ ∃ d v, ifind l k = some d ∧ valV xs (.inl k) = some v ∧ Rp K H d v
  | [], xs, h => by cases (show xs = [] from h); exact .inl ⟨rfl, rfl⟩
  | p :: l, xs, h => by
    obtain ⟨v, r, rfl, h1, h2⟩ := h
    by_cases c : p.1 = k
    · exact .inr ⟨p.2, v, by simp [ifind, List.find?_cons, c], by rw [valV_pos (show ((Sum.inl p.1 : L2.Key), v).1 = Sum.inl k by rw [c])], h1⟩
    · have e1 : ifind (p :: l) k = ifind l k := by simp [ifind, List.find?_cons, c]
      have e2 : valV ((Sum.inl p.1, v) :: r) (Sum.inl k) = valV r (Sum.inl k) := valV_neg fun z => c (by injection z)
      rw [e1, e2]
      exact KRel.find h2
theorem KRel.len {K : PySem.W.Frag} {H : Hp} : ∀ {l : List (Int × D)} {xs : List (L2.Key × V)}, KRel K H l xs → xs.length = l.length
  | [], xs, h => by cases (show xs = [] from h); rfl
  | p :: l, xs, h => by
    obtain ⟨v, r, rfl, _, h2⟩ := h
    rw [List.length_cons, List.length_cons, KRel.len h2]
theorem KRel.isS {K : PySem.W.Frag} {H : Hp} {k : Int} {l : List (Int × D)} {xs : List (L2.Key × V)} (h : KRel K H l xs) : (valV xs (.inl k)).isSome = (ifind l k).isSome := by
  rcases h.find (k := k) with ⟨h1, h2⟩ | ⟨d, v, h1, h2, _⟩ <;> rw [h1, h2] <;> rfl
theorem KRel.put {K : PySem.W.Frag} {H : Hp} {k : Int} {d : D} {v : V} {l : List (Int × D)} {xs : List (L2.Key × V)} (h : KRel K H l xs) (rv : Rp K H d v) : KRel K H (iput l k d) (putK xs (.inl k) v) := by
  unfold iput putK
  rw [valV_any, h.isS]
  split
  · have key : ∀ {l : List (Int × D)} {xs : List (L2.Key × V)}, KRel K H l xs → KRel K H (l.map fun p => if p.1 = k then (p.1, d) else p) (xs.map fun kv => if kv.1 = Sum.inl k then (kv.1, v) else kv) := by
      intro l
      induction l with
      | nil => intro xs h; cases (show xs = [] from h); rfl
      | cons p l ih =>
        intro xs h
        obtain ⟨u, r, rfl, h1, h2⟩ := h
        by_cases c : p.1 = k
        · refine ⟨v, _, ?_, ?_, ih h2⟩
          · simp [c]
          · simp only [c, if_true]; exact rv
        · refine ⟨u, _, ?_, ?_, ih h2⟩
          · simp [c]
          · simp only [c, if_false]; exact h1
    exact key h
  · have key : ∀ {l : List (Int × D)} {xs : List (L2.Key × V)}, KRel K H l xs → KRel K H (l ++ [(k, d)]) (xs ++ [(.inl k, v)]) := by
      intro l
      induction l with
      | nil => intro xs h; cases (show xs = [] from h); exact ⟨v, [], rfl, rv, rfl⟩
      | cons p l ih =>
        intro xs h
        obtain ⟨u, r, rfl, h1, h2⟩ := h
        exact ⟨u, r ++ _, rfl, h1, ih h2⟩
    exact key h
section
variable {X : Cx} {pins : List (Addr × Obj)} {σ : L2.St} {H : Hp} {s : Shared}
def rIInt (K : PySem.W.Frag) (neg : Bool) : R2 := fun x y H Q => ∃ (a : Addr) (i : Int) (xs : List (L2.Key × V)), x = .int i ∧ y = .ref a ∧ H a = some (.dK xs) ∧ Q (.bl (if neg then !(valV xs (.inl i)).isSome else (valV xs (.inl i)).isSome)) H
theorem op_in_int (hu : X.A.units + 9 < cLine) : OpR X (compareOp .In) (rIInt X.K false) := by
  intro pins s σ H x y v u Q I rx ry h
  obtain ⟨a, i, xs, rfl, rfl, e, q⟩ := h
  cases ry
  exact d_in (by omega) I (DGet.k (k := .inl i) e) rx fun s' I' => ⟨.bl _, H, I', rfl, q⟩
theorem op_notIn_str : OpR X (compareOp .NotIn) (fun x y H Q => ∃ i j, x = .str i ∧ y = .str j ∧ Q (.bl (Builtin.Str.occurrences j i 0 j.length 1).isEmpty) H) := by
  intro pins s σ H x y v u Q I rx ry h
  obtain ⟨i, j, rfl, rfl, q⟩ := h
  obtain ⟨t, rfl⟩ := rx
  obtain ⟨t', rfl⟩ := ry
  exact PyProof.Rows.notIn_str (fin_bl I q (Bool.not_not _).symm)
theorem op_notIn_int (hu : X.A.units + 9 < cLine) : OpR X (compareOp .NotIn) (rIInt X.K true) := by
  intro pins s σ H x y v u Q I rx ry h
  obtain ⟨a, i, xs, rfl, rfl, e, q⟩ := h
  cases ry
  exact d_notIn (by omega) I (DGet.k (k := .inl i) e) rx fun s' I' => ⟨.bl _, H, I', rfl, q⟩
def rIGet (K : PySem.W.Frag) : R2 := fun x y H Q => ∃ (a : Addr) (i : Int) (xs : List (L2.Key × V)) (v : V), x = .ref a ∧ y = .int i ∧ H a = some (.dK xs) ∧ valV xs (.inl i) = some v ∧ Q v H
theorem ix_int (hu : X.A.units + 9 < cLine) : IxR X (rIGet X.K) := by
  intro value slice pins s σ H x y v u Q I rx ry h hs
  obtain ⟨a, i, xs, w, rfl, rfl, e, hv, hQ⟩ := h
  cases rx
  obtain ⟨z, hd, vs, rel, dd⟩ := dk_of I.hok e
  refine tail_any dd.typeIs PySem.F.slot_dict_getitem.lookup (d_getItem (by omega) I (by have := DGet.k (k := .inl i) e; rw [hv] at this; exact this) ry fun w' s' I' rw' => ⟨w, H, I', rw', hQ⟩) hs
end
section
variable (g : Addr → Option PyData)
mutual
def pdW : Nat → D → Option PyData
  | _, .non => some .none
  | _, .bl b => some (.bool b)
  | _, .int i => some (.int i)
  | _, .str x => if PyData.strOk x = true then some (.str x) else none
  | _, .ty _ => none
  | _, .ref a => g a
  | 0, .tup _ => none
  | n + 1, .tup l => match pdWs n l with
    | some ps => some (.tuple ps)
    | none => none
def pdWs : Nat → List D → Option (List PyData)
  | _, [] => some []
  | n, d :: ds => match pdW n d, pdWs n ds with
    | some p, some ps => some (p :: ps)
    | _, _ => none
end
end
def gL (S : Sto) : Nat → Addr → Option PyData
  | 0, _ => none
  | n + 1, a => match S a with
    | some (.lst _ l) => (match pdWs (gL S n) 12 l with
      | some ps => some (.list ps)
      | none => none)
    | _ => none
def pdS (S : Sto) (d : D) : Option PyData := pdW (gL S 3) 12 d
def DivOk (j : Int) : Prop := j ≠ 0 ∧ j.natAbs.log2 < 9000
def opS (o : Operator) (x y : D) (S : Sto) (P : PD) : Prop :=
  match o, x, y with
  | .Add, .int i, .int j => P (.int (i + j)) S
  | .Sub, .int i, .int j => P (.int (i - j)) S
  | .Mult, .int i, .int j => IntMulOk i j ∧ P (.int (i * j)) S
  | .Mult, .ref a, .int k => (match S a with
    | some (.lst true l) => (-(2 ^ 63) ≤ k ∧ k < 2 ^ 63 ∧ l.length * k.toNat ≤ sizeLine) ∧ ∀ p, S p = none → P (.ref p) (S.up p (.lst true (List.replicate k.toNat l).flatten))
    | _ => False)
  | .Mult, .tup l, .int k => (l ≠ [] ∧ 2 ≤ k ∧ k ≤ 1000 ∧ l.length ≤ 1000) ∧ P (.tup (List.replicate k.toNat l).flatten) S
  | .FloorDiv, .int i, .int j => DivOk j ∧ P (.int (i.fdiv j)) S
  | .Mod, .int i, .int j => j ≠ 0 ∧ P (.int (i.fmod j)) S
  | .Pow, .int i, .int j => CPow i j ∧ P (.int (i ^ j.toNat)) S
  | .Add, .str a, .str b => a.length + b.length ≤ sizeLine ∧ P (.str (a ++ b)) S
  | .Add, .tup a, .tup b => a.length + b.length ≤ sizeLine ∧ P (.tup (a ++ b)) S
  | .Add, .ref a, .ref b => (match S a, S b with
    | some (.lst _ l), some (.lst _ m) => l.length + m.length ≤ sizeLine ∧ ∀ p, S p = none → P (.ref p) (S.up p (.lst true (l ++ m)))
    | _, _ => False)
  | _, _, _ => False
def isNo : D → Bool
  | .non => true
  | _ => false
def anyEq (p : PyData) (l : List PyData) : Bool := l.any fun z => PyData.eqv z p
def flD : D → Bool
  | .non => true
  | .bl _ => true
  | .int _ => true
  | .str _ => true
  | _ => false
def eqFl : D → D → Bool
  | .non, .non => true
  | .bl a, .bl b => a == b
  | .bl a, .int b => (if a then 1 else 0) == b
  | .int a, .bl b => a == (if b then 1 else 0)
  | .int a, .int b => a == b
  | .str a, .str b => a == b
  | _, _ => false
def inFl (x : D) (l : List D) : Bool := l.any fun y => eqFl y x
def lenS (b : Bool) (x y : D) (S : Sto) (P : PD) : Prop := match x, y with
  | .ref a, .ref c => (match S a, S c with
    | some (.lst _ l), some (.lst _ m) => l.length ≠ m.length ∧ P (.bl b) S
    | _, _ => False)
  | _, _ => False
def dinS (neg : Bool) (x : D) (a : Addr) (S : Sto) (P : PD) : Prop := match S a, x with
  | some (.dct l), .tup ds => (match ky (.tup ds) with
    | some k => P (.bl (if neg then !(dfind l k).isSome else (dfind l k).isSome)) S
    | none => False)
  | some (.dci l), .int i => P (.bl (if neg then !(ifind l i).isSome else (ifind l i).isSome)) S
  | _, _ => False
def cmpS (o : CmpOp) (x y : D) (S : Sto) (P : PD) : Prop :=
  match o, x, y with
  | .Lt, .int i, .int j => P (.bl (decide (i < j))) S
  | .LtE, .int i, .int j => P (.bl (decide (i ≤ j))) S
  | .Gt, .int i, .int j => P (.bl (decide (j < i))) S
  | .GtE, .int i, .int j => P (.bl (decide (j ≤ i))) S
  | .Eq, .int i, .int j => P (.bl (decide (i = j))) S
  | .NotEq, .int i, .int j => P (.bl (!decide (i = j))) S
  | .Is, x, .non => P (.bl (isNo x)) S
  | .IsNot, x, .non => P (.bl (!isNo x)) S
  | .Is, .bl a, .bl b => P (.bl (decide (a = b))) S
  | .IsNot, .bl a, .bl b => P (.bl (!decide (a = b))) S
  | .In, .tup ds, .tup l => (match pdS S (.tup ds), pdS S (.tup l) with
    | some p, some (.tuple ps) => P (.bl (anyEq p ps)) S
    | _, _ => False)
  | .NotIn, .tup ds, .tup l => (match pdS S (.tup ds), pdS S (.tup l) with
    | some p, some (.tuple ps) => P (.bl (!anyEq p ps)) S
    | _, _ => False)
  | .In, .str a, .str b => P (.bl (!(Builtin.Str.occurrences b a 0 b.length 1).isEmpty)) S
  | .NotIn, .str a, .str b => P (.bl (Builtin.Str.occurrences b a 0 b.length 1).isEmpty) S
  | .In, .non, .tup l => (match pdS S .non, pdS S (.tup l) with
    | some p, some (.tuple ps) => P (.bl (anyEq p ps)) S
    | _, _ => False)
  | .In, x, .tup l => flD x = true ∧ l.all flD = true ∧ P (.bl (inFl x l)) S
  | .NotIn, x, .tup l => flD x = true ∧ l.all flD = true ∧ P (.bl (!inFl x l)) S
  | .Eq, x, y => (match pdS S x, pdS S y with
    | some p, some q => P (.bl (PyData.eqv p q)) S
    | _, _ => lenS false x y S P)
  | .NotEq, x, y => (match pdS S x, pdS S y with
    | some p, some q => P (.bl (!PyData.eqv p q)) S
    | _, _ => lenS true x y S P)
  | .In, x, .ref a => (match pdS S x, pdS S (.ref a) with
    | some p, some (.list ps) => P (.bl (anyEq p ps)) S
    | _, _ => dinS false x a S P)
  | .NotIn, x, .ref a => (match pdS S x, pdS S (.ref a) with
    | some p, some (.list ps) => P (.bl (!anyEq p ps)) S
    | _, _ => dinS true x a S P)
  | _, _, _ => False
def truB (S : Sto) : D → Option Bool
  | .non => some false
  | .bl b => some b
  | .int i => some (i != 0)
  | .str x => if x.length ≤ sizeLine then some (x.length != 0) else none
  | .tup l => some (!l.isEmpty)
  | .ref a => match S a with
    | some (.lst _ l) => some (!l.isEmpty)
    | _ => none
  | .ty _ => none
def ixS (x i : D) (S : Sto) (P : PD) : Prop :=
  match x, i with
  | .tup l, .int i => (match atI l i with
    | some d => P d S
    | none => False)
  | .ref a, .int i => (match S a with
    | some (.lst _ l) => (match atI l i with
      | some d => P d S
      | none => False)
    | some (.dci l) => (match ifind l i with
      | some d => P d S
      | none => False)
    | _ => False)
  | .ref a, .tup ds => (match S a with
    | some (.dct l) => (match ky (.tup ds) with
      | some k => (match dfind l k with
        | some d => P d S
        | none => False)
      | none => False)
    | _ => False)
  | .str z, .int i => z.length ≤ sizeLine ∧ (match atI z.cps.toList i with
    | some c => P (.str ⟨#[c]⟩) S
    | none => False)
  | _, _ => False
def cutD (l : List D) (lo hi : Option Int) : List D := (l.drop (HT.sIx l.length 0 lo)).take (HT.sIx l.length l.length hi - HT.sIx l.length 0 lo)
def slS (x : D) (lo hi : Option Int) (S : Sto) (P : PD) : Prop :=
  match x with
  | .ref a => (match S a with
    | some (.lst _ l) => ∀ p, S p = none → P (.ref p) (S.up p (.lst true (cutD l lo hi)))
    | _ => False)
  | .tup l => P (.tup (cutD l lo hi)) S
  | .str z => z.length ≤ sizeLine ∧ P (.str (cutS z lo hi)) S
  | _ => False
def pickT {α : Type} (l : List α) (lo : Option Int) (k : Int) : List α :=
  (List.range (Builtin.Slice.slicePlaces (Builtin.Slice.sliceAdjust lo none k l.length).1 (Builtin.Slice.sliceAdjust lo none k l.length).2 k)).filterMap fun (m : Nat) => l[((Builtin.Slice.sliceAdjust lo none k l.length).1 + (m : Int) * k).toNat]?
def stS (x : D) (lo : Option Int) (k : Int) (S : Sto) (P : PD) : Prop :=
  match x with
  | .ref a => lo = none ∧ k = -1 ∧ (match S a with
    | some (.lst _ l) => ∀ p, S p = none → P (.ref p) (S.up p (.lst true l.reverse))
    | _ => False)
  | .tup l => k ≠ 0 ∧ k ≠ 1 ∧ (pickT l lo k).length ≤ sizeLine ∧ P (.tup (pickT l lo k)) S
  | _ => False
def OpAbs (K : PySem.W.Frag) (r : R2) (a : D → D → Sto → PD → Prop) : Prop := ∀ x y S P, a x y S P → ∀ H v w Q, StoOk K H S → Rp K H x v → Rp K H y w → PLe K H P Q → r v w H Q
section
variable {X : Cx} {K : PySem.W.Frag} {H : Hp} {S : Sto}
theorem PLe.now {P : PD} {Q : VK} {d : D} {v : V} (h : PLe K H P Q) (p : P d S) (s : StoOk K H S) (r : Rp K H d v) : Q v H := h d S p v H (Kp.refl H) s r
theorem StoOk.rd {a : Addr} {w : Bool} {l : List D} (s : StoOk K H S) (e : S a = some (.lst w l)) : ∃ vs, SqL K H a vs ∧ Rps K H l vs := by
  have q := s a _ e
  cases w with
  | true => obtain ⟨vs, h, r⟩ := q; exact ⟨vs, .inl (.inl h), r⟩
  | false => obtain ⟨o, vs, h, r⟩ := q; exact ⟨vs, .inl (.inr ⟨o, h⟩), r⟩
theorem PLe.newL {P : PD} {Q : VK} {p : Addr} {l : List D} {vs : List V} (h : PLe K H P Q) (s : StoOk K H S) (r : Rps K H l vs) (hp : H p = none) (q : ∀ p, S p = none → P (.ref p) (S.up p (.lst true l))) : Q (.ref p) (upd H p (.lst vs)) :=
  h _ _ (q p (s.free hp)) _ _ (Kp.new hp) (s.new hp ⟨vs, upd_same, Rps.kp (Kp.new hp) _ r⟩) rfl
theorem PLe.newT {P : PD} {Q : VK} {p : Addr} {l : List D} {vs : List V} (h : PLe K H P Q) (s : StoOk K H S) (r : Rps K H l vs) (hp : H p = none) (q : P (.tup l) S) : Q (.ref p) (upd H p (.tup vs)) :=
  h _ _ q _ _ (Kp.new hp) (s.sm (Sm.new hp)) ⟨p, vs, rfl, .inl (.inl upd_same), Rps.kp (Kp.new hp) _ r⟩
theorem op_fdivA : OpR X (binaryOp .FloorDiv) (rI (fun _ j => DivOk j) fun i j => .int (i.fdiv j)) := opI fun i j _ _ _ _ _ hc q => floordiv_int hc.1 q (.inl (PyProof.noPylong_of_log2 hc.2))
theorem op_mulA : OpR X (binaryOp .Mult) (rI IntMulOk fun i j => .int (i * j)) := opI fun _ _ _ _ _ _ _ hc q => mul_int q hc
def rCatL (K : PySem.W.Frag) : R2 := fun x y H Q => ∃ l b xs zs, x = .ref l ∧ y = .ref b ∧ SqL K H l xs ∧ SqL K H b zs ∧ xs.length + zs.length ≤ sizeLine ∧ ∀ p, H p = none → Q (.ref p) (upd H p (.lst (xs ++ zs)))
end
section
variable {X : Cx} {K : PySem.W.Frag} {H : Hp} {S : Sto}
theorem op_catL : OpR X (binaryOp .Add) (rCatL X.K) := by
  intro pins s σ H x y v u Q I rx ry h
  obtain ⟨l, b, xs, zs, rfl, rfl, hH, hB, hz, q⟩ := h
  cases rx
  cases ry
  obtain ⟨its, r, ⟨⟨c1, d1, dt1, sl1⟩, n, e, hc, hd, hdt⟩, _⟩ := I.list hH
  obtain ⟨its2, r2, ⟨⟨c2, d2, dt2, sl2⟩, n2, e2, hc2, hd2, hdt2⟩, _⟩ := I.list hB
  simp only at hc hd hdt hc2 hd2 hdt2
  subst hc hd hdt hc2 hd2 hdt2
  have hl := r.length
  have hl2 := r2.length
  have ea : its.toArray ++ its2.toArray = (its ++ its2).toArray := by simp
  refine concat_meets ⟨_, e, rfl⟩ ⟨_, e2, rfl⟩ noFill_list_add seq_list_add PySem.F.slot_list_add PySem.F.entry_list_add (PySem.F.args_list_add_2 _ _) (list_addW l b its.toArray its2.toArray n n2 none none sl1 sl2 (by rw [List.size_toArray, List.size_toArray]; omega)) ⟨e, e2, ?_⟩
  rw [ea]
  exact ⟨.ref _, _, I.lnew (t' := s.toks) (r.append r2) (by rw [List.length_append]; omega), rfl, q _ I.fresh⟩
def rAddA (K : PySem.W.Frag) : R2 := fun x y H Q => rI0 (fun i j => .int (i + j)) x y H Q ∨ (∃ i j, x = .str i ∧ y = .str j ∧ i.length + j.length ≤ sizeLine ∧ Q (.str (i ++ j)) H) ∨ rCatA K x y H Q ∨ rCatL K x y H Q
theorem opr_add : OpR X (binaryOp .Add) (rAddA X.K) := op_add.or (op_add_str.or (op_catA.or op_catL))
theorem Rps.nil_iff {l : List D} {vs : List V} (r : Rps K H l vs) : vs = [] ↔ l = [] := by
  have := r.length
  cases vs <;> cases l <;> simp_all
theorem abs_add : OpAbs K (rAddA K) (opS .Add) := by
  intro x y S P h H v w Q s rx ry pl
  cases x <;> cases y <;> (try exact (show False from h).elim)
  · cases rx; cases ry
    exact .inl ⟨_, _, rfl, rfl, pl.now h s rfl⟩
  · cases rx; cases ry
    exact .inr (.inl ⟨_, _, rfl, rfl, h.1, pl.now h.2 s rfl⟩)
  · rename_i a b
    cases rx; cases ry
    have h' : (match S a, S b with
      | some (.lst _ l), some (.lst _ m) => l.length + m.length ≤ sizeLine ∧ ∀ p, S p = none → P (.ref p) (S.up p (.lst true (l ++ m)))
      | _, _ => False) := h
    split at h'
    · rename_i w1 l w2 m e1 e2
      obtain ⟨vs, q1, r1⟩ := s.rd e1
      obtain ⟨us, q2, r2⟩ := s.rd e2
      have z1 := r1.length
      have z2 := r2.length
      exact .inr (.inr (.inr ⟨a, b, vs, us, rfl, rfl, q1, q2, by omega, fun p hp => pl.newL s (r1.append r2) hp h'.2⟩))
    · exact h'.elim
  · obtain ⟨a, vs, rfl, q1, r1⟩ := rx
    obtain ⟨b, us, rfl, q2, r2⟩ := ry
    obtain ⟨h2, h4⟩ := h
    have z1 := r1.length
    have z2 := r2.length
    refine .inr (.inr (.inl ⟨a, b, vs, us, rfl, rfl, q1, q2, by omega, fun z => ?_, fun _ z => ?_, fun _ _ p hp => pl.newT s (r1.append r2) hp h4⟩))
    · rw [r1.nil_iff.mp z, List.nil_append] at h4
      exact pl.now h4 s ⟨b, us, rfl, q2, r2⟩
    · rw [r2.nil_iff.mp z, List.append_nil] at h4
      exact pl.now h4 s ⟨a, vs, rfl, q1, r1⟩
theorem abs_int {C : Int → Int → Prop} {g : Int → Int → D} {gv : Int → Int → V} (hg : ∀ i j H, Rp K H (g i j) (gv i j)) {a : D → D → Sto → PD → Prop} (ha : ∀ x y S P, a x y S P → ∃ i j, x = .int i ∧ y = .int j ∧ C i j ∧ P (g i j) S) : OpAbs K (rI C gv) a := by
  intro x y S P h H v w Q s rx ry pl
  obtain ⟨i, j, rfl, rfl, c, q⟩ := ha x y S P h
  cases rx; cases ry
  exact ⟨i, j, rfl, rfl, c, pl.now q s (hg i j H)⟩
theorem abs_int0 {g : Int → Int → D} {gv : Int → Int → V} (hg : ∀ i j H, Rp K H (g i j) (gv i j)) {a : D → D → Sto → PD → Prop} (ha : ∀ x y S P, a x y S P → ∃ i j, x = .int i ∧ y = .int j ∧ P (g i j) S) : OpAbs K (rI0 gv) a := by
  intro x y S P h H v w Q s rx ry pl
  obtain ⟨i, j, rfl, rfl, q⟩ := ha x y S P h
  cases rx; cases ry
  exact ⟨i, j, rfl, rfl, pl.now q s (hg i j H)⟩
theorem Rps.rep {l : List D} {vs : List V} (r : Rps K H l vs) : ∀ n, Rps K H (List.replicate n l).flatten (List.replicate n vs).flatten
  | 0 => rfl
  | n + 1 => by
    rw [List.replicate_succ, List.replicate_succ, List.flatten_cons, List.flatten_cons]
    exact r.append (Rps.rep r n)
theorem abs_mul : OpAbs K (fun x y H Q => rI IntMulOk (fun i j => .int (i * j)) x y H Q ∨ rRep x y H Q) (fun x y S P => match x with
    | .tup _ => False
    | _ => opS .Mult x y S P) := by
  intro x y S P h H v w Q s rx ry pl
  cases x <;> cases y <;> (try exact (show False from h).elim)
  · cases rx; cases ry
    have h : IntMulOk _ _ ∧ P _ S := h
    exact .inl ⟨_, _, rfl, rfl, h.1, pl.now h.2 s rfl⟩
  · rename_i a k
    cases rx; cases ry
    have h' : (match S a with
      | some (.lst true l) => (-(2 ^ 63) ≤ k ∧ k < 2 ^ 63 ∧ l.length * k.toNat ≤ sizeLine) ∧ ∀ p, S p = none → P (.ref p) (S.up p (.lst true (List.replicate k.toNat l).flatten))
      | _ => False) := h
    split at h'
    · rename_i l e1
      obtain ⟨vs, q1, r1⟩ := s a _ e1
      have z1 := r1.length
      exact .inr ⟨a, k, vs, rfl, rfl, q1, h'.1.1, h'.1.2.1, by rw [z1]; exact h'.1.2.2, fun p hp => pl.newL s (r1.rep _) hp h'.2⟩
    · exact h'.elim
theorem abs_mul3 : OpAbs K (fun x y H Q => (rI IntMulOk (fun i j => .int (i * j)) x y H Q ∨ rRep x y H Q) ∨ rRepT K x y H Q) (opS .Mult) := by
  intro x y S P h H v w Q s rx ry pl
  cases x
  case tup l =>
    cases y <;> (try exact (show False from h).elim)
    rename_i k
    obtain ⟨p, vs, rfl, q, rs⟩ := rx
    cases ry
    have h' : (l ≠ [] ∧ 2 ≤ k ∧ k ≤ 1000 ∧ l.length ≤ 1000) ∧ P (.tup (List.replicate k.toNat l).flatten) S := h
    obtain ⟨⟨h1, h2, h3, h4⟩, h5⟩ := h'
    have hl := rs.length
    exact .inr ⟨p, k, vs, rfl, rfl, q, fun e => h1 (by subst e; exact List.eq_nil_of_length_eq_zero hl.symm), h2, h3, by omega, fun p hp => pl.newT s (rs.rep _) hp h5⟩
  all_goals exact .inl (abs_mul _ _ _ _ h _ _ _ _ s rx ry pl)
theorem op_all (o : Operator) : ∃ r, OpR X (binaryOp o) r ∧ OpAbs X.K r (opS o) := by
  cases o
  case Add => exact ⟨_, opr_add, abs_add⟩
  case Sub => exact ⟨_, op_sub, abs_int0 (g := fun i j => .int (i - j)) (fun _ _ _ => rfl) fun x y S P h => by cases x <;> cases y <;> first | exact (show False from h).elim | exact ⟨_, _, rfl, rfl, h⟩⟩
  case Mult => exact ⟨_, (op_mulA.or op_rep).or op_repT, abs_mul3⟩
  case FloorDiv => exact ⟨_, op_fdivA, abs_int (g := fun i j => .int (i.fdiv j)) (fun _ _ _ => rfl) fun x y S P h => by cases x <;> cases y <;> first | exact (show False from h).elim | exact ⟨_, _, rfl, rfl, h⟩⟩
  case Mod => exact ⟨_, op_modN, abs_int (g := fun i j => .int (i.fmod j)) (fun _ _ _ => rfl) fun x y S P h => by cases x <;> cases y <;> first | exact (show False from h).elim | exact ⟨_, _, rfl, rfl, h⟩⟩
  case Pow => exact ⟨_, op_pow, abs_int (g := fun i j => .int (i ^ j.toNat)) (fun _ _ _ => rfl) fun x y S P h => by cases x <;> cases y <;> first | exact (show False from h).elim | exact ⟨_, _, rfl, rfl, h⟩⟩
  all_goals exact ⟨fun _ _ _ _ => False, fun _ _ _ _ _ _ _ _ _ _ _ _ h => h.elim, fun x y S P h => (show False from by cases x <;> cases y <;> exact h).elim⟩
end
section
variable {K : PySem.W.Frag} {H : Hp} {S : Sto}
mutual
theorem pdW_dp {g : Addr → Option PyData} (hg : ∀ a p, g a = some p → Dp K H (.ref a) p) : ∀ (d : D) (n : Nat) (v : V) (p : PyData), pdW g n d = some p → Rp K H d v → Dp K H v p
  | .non, _, _, _, e, r => by cases r; simp only [pdW, Option.some.injEq] at e; subst e; exact .non
  | .bl b, _, _, _, e, r => by cases r; simp only [pdW, Option.some.injEq] at e; subst e; exact .bl b
  | .int i, _, _, _, e, r => by cases r; simp only [pdW, Option.some.injEq] at e; subst e; exact .int i
  | .str x, _, _, _, e, r => by
    cases r; simp only [pdW] at e
    split at e
    · simp only [Option.some.injEq] at e; subst e; exact .str x
    · cases e
  | .ty _, _, _, _, e, _ => by simp [pdW] at e
  | .ref a, _, _, _, e, r => by cases r; simp only [pdW] at e; exact hg a _ e
  | .tup l, 0, _, _, e, _ => by simp [pdW] at e
  | .tup l, n + 1, _, _, e, r => by
    simp only [pdW] at e
    obtain ⟨a, vs, rfl, q, rs⟩ := r
    cases z : pdWs g n l with
    | none => rw [z] at e; cases e
    | some ps =>
      rw [z] at e
      simp only [Option.some.injEq] at e
      subst e
      exact .tup q (pdWs_dp hg l n vs ps z rs)
theorem pdWs_dp {g : Addr → Option PyData} (hg : ∀ a p, g a = some p → Dp K H (.ref a) p) : ∀ (ds : List D) (n : Nat) (vs : List V) (ps : List PyData), pdWs g n ds = some ps → Rps K H ds vs → DpAll K H vs ps
  | [], _, _, _, e, r => by rw [show _ = _ from r]; simp only [pdWs, Option.some.injEq] at e; subst e; exact .nil
  | d :: ds, n, _, _, e, r => by
    obtain ⟨v, vr, rfl, r1, r2⟩ := r
    simp only [pdWs] at e
    cases z1 : pdW g n d with
    | none => rw [z1] at e; simp at e
    | some p =>
      cases z2 : pdWs g n ds with
      | none => rw [z1, z2] at e; simp at e
      | some ps =>
        rw [z1, z2] at e
        simp only [Option.some.injEq] at e
        subst e
        exact .cons (pdW_dp hg d n v p z1 r1) (pdWs_dp hg ds n vr ps z2 r2)
end
theorem gL_dp (s : StoOk K H S) : ∀ (n : Nat) (a : Addr) (p : PyData), gL S n a = some p → Dp K H (.ref a) p
  | 0, _, _, e => by simp [gL] at e
  | n + 1, a, p, e => by
    simp only [gL] at e
    cases q : S a with
    | none => rw [q] at e; cases e
    | some o =>
      rw [q] at e
      cases o with
      | exc k f => cases e
      | dct m => cases e
      | dci m => cases e
      | lst w l =>
        dsimp only at e
        cases z : pdWs (gL S n) 12 l with
        | none => rw [z] at e; cases e
        | some ps =>
          rw [z] at e
          simp only [Option.some.injEq] at e
          subst e
          obtain ⟨vs, q1, r1⟩ := s.rd q
          exact .lst q1 (pdWs_dp (gL_dp s n) l 12 vs ps z r1)
mutual
theorem pdW_sh {g : Addr → Option PyData} {m : Nat} (hg : ∀ a p, g a = some p → p.canLay0 = true ∧ p.depth ≤ m) : ∀ (d : D) (n : Nat) (p : PyData), pdW g n d = some p → p.canLay0 = true ∧ p.depth ≤ n + m
  | .non, _, _, e => by simp only [pdW, Option.some.injEq] at e; subst e; simp [PyData.canLay0, PyData.depth]
  | .bl b, _, _, e => by simp only [pdW, Option.some.injEq] at e; subst e; simp [PyData.canLay0, PyData.depth]
  | .int i, _, _, e => by simp only [pdW, Option.some.injEq] at e; subst e; simp [PyData.canLay0, PyData.depth]
  | .str x, _, _, e => by
    simp only [pdW] at e
    split at e
    · rename_i hs
      simp only [Option.some.injEq] at e; subst e; simp [PyData.canLay0, PyData.depth, hs]
    · cases e
  | .ty _, _, _, e => by simp [pdW] at e
  | .ref a, n, p, e => by
    simp only [pdW] at e
    have := hg a p e
    exact ⟨this.1, by omega⟩
  | .tup l, 0, _, e => by simp [pdW] at e
  | .tup l, n + 1, _, e => by
    simp only [pdW] at e
    cases z : pdWs g n l with
    | none => rw [z] at e; cases e
    | some ps =>
      rw [z] at e
      simp only [Option.some.injEq] at e
      subst e
      have q := pdWs_sh hg l n ps z
      exact ⟨by simp only [PyData.canLay0]; exact q.1, by simp only [PyData.depth]; omega⟩
theorem pdWs_sh {g : Addr → Option PyData} {m : Nat} (hg : ∀ a p, g a = some p → p.canLay0 = true ∧ p.depth ≤ m) : ∀ (ds : List D) (n : Nat) (ps : List PyData), pdWs g n ds = some ps → PyData.canLayAll0 ps = true ∧ PyData.depthAll ps ≤ n + m
  | [], _, _, e => by simp only [pdWs, Option.some.injEq] at e; subst e; simp [PyData.canLayAll0, PyData.depthAll]
  | d :: ds, n, _, e => by
    simp only [pdWs] at e
    cases z1 : pdW g n d with
    | none => rw [z1] at e; simp at e
    | some p =>
      cases z2 : pdWs g n ds with
      | none => rw [z1, z2] at e; simp at e
      | some ps =>
        rw [z1, z2] at e
        simp only [Option.some.injEq] at e
        subst e
        have q1 := pdW_sh hg d n p z1
        have q2 := pdWs_sh hg ds n ps z2
        refine ⟨by simp [PyData.canLayAll0, q1.1, q2.1], ?_⟩
        simp only [PyData.depthAll]
        omega
end
theorem gL_sh : ∀ (n : Nat) (a : Addr) (p : PyData), gL S n a = some p → p.canLay0 = true ∧ p.depth ≤ 13 * n
  | 0, _, _, e => by simp [gL] at e
  | n + 1, a, p, e => by
    simp only [gL] at e
    cases q : S a with
    | none => rw [q] at e; cases e
    | some o =>
      rw [q] at e
      cases o with
      | exc k f => cases e
      | dct m => cases e
      | dci m => cases e
      | lst w l =>
        dsimp only at e
        cases z : pdWs (gL S n) 12 l with
        | none => rw [z] at e; cases e
        | some ps =>
          rw [z] at e
          simp only [Option.some.injEq] at e
          subst e
          have q := pdWs_sh (gL_sh n) l 12 ps z
          exact ⟨by simp only [PyData.canLay0]; exact q.1, by simp only [PyData.depth]; omega⟩
theorem pdS_dp (s : StoOk K H S) {d : D} {v : V} {p : PyData} (e : pdS S d = some p) (r : Rp K H d v) : Dp K H v p := pdW_dp (gL_dp s 3) d 12 v p e r
theorem pdS_sh {d : D} {p : PyData} (e : pdS S d = some p) : SeqAt.shaped p = true := by
  have q := pdW_sh (m := 39) (fun a p e => by have := gL_sh 3 a p e; exact ⟨this.1, by omega⟩) d 12 p e
  unfold SeqAt.shaped
  rw [q.1, Bool.true_and]
  exact decide_eq_true (by omega)
end
end Sd
namespace Sd
open PySem PySem.Spec PyProof.Rows L2
section
variable {X : Cx} {K : PySem.W.Frag} {H : Hp} {S : Sto}
theorem eq_pd {x y : D} {P : PD} {f : Bool → Bool} {k : Bool} (h : match pdS S x, pdS S y with
    | some p, some q => P (.bl (f (PyData.eqv p q))) S
    | _, _ => lenS k x y S P) : (∃ p q, pdS S x = some p ∧ pdS S y = some q ∧ P (.bl (f (PyData.eqv p q))) S) ∨ lenS k x y S P := by
  split at h
  · rename_i p q e1 e2
    exact .inl ⟨p, q, e1, e2, h⟩
  · exact .inr h
theorem cmpS_eq {x y : D} {P : PD} (h : cmpS .Eq x y S P) : (∃ p q, pdS S x = some p ∧ pdS S y = some q ∧ P (.bl (PyData.eqv p q)) S) ∨ lenS false x y S P := by
  by_cases hi : ∃ i j, x = .int i ∧ y = .int j
  · obtain ⟨i, j, rfl, rfl⟩ := hi
    have h' : P (.bl (decide (i = j))) S := h
    refine .inl ⟨.int i, .int j, rfl, rfl, ?_⟩
    have e : PyData.eqv (.int i) (.int j) = decide (i = j) := by
      simp only [PyData.eqv]
      by_cases z : i = j <;> simp [z]
    rw [e]; exact h'
  · have h' : match pdS S x, pdS S y with
      | some p, some q => P (.bl (PyData.eqv p q)) S
      | _, _ => lenS false x y S P := by
      cases x <;> cases y <;> first | exact h | exact (hi ⟨_, _, rfl, rfl⟩).elim
    exact eq_pd (f := id) h'
theorem cmpS_ne {x y : D} {P : PD} (h : cmpS .NotEq x y S P) : (∃ p q, pdS S x = some p ∧ pdS S y = some q ∧ P (.bl (!PyData.eqv p q)) S) ∨ lenS true x y S P := by
  by_cases hi : ∃ i j, x = .int i ∧ y = .int j
  · obtain ⟨i, j, rfl, rfl⟩ := hi
    have h' : P (.bl (!decide (i = j))) S := h
    refine .inl ⟨.int i, .int j, rfl, rfl, ?_⟩
    have e : PyData.eqv (.int i) (.int j) = decide (i = j) := by
      simp only [PyData.eqv]
      by_cases z : i = j <;> simp [z]
    rw [e]; exact h'
  · have h' : match pdS S x, pdS S y with
      | some p, some q => P (.bl (!PyData.eqv p q)) S
      | _, _ => lenS true x y S P := by
      cases x <;> cases y <;> first | exact h | exact (hi ⟨_, _, rfl, rfl⟩).elim
    exact eq_pd (f := fun b => !b) h'
def rLenE (K : PySem.W.Frag) (b : Bool) : R2 := fun x y H Q => ∃ l c xs ys, x = .ref l ∧ y = .ref c ∧ SqL K H l xs ∧ SqL K H c ys ∧ xs.length ≠ ys.length ∧ Q (.bl b) H
theorem op_lenEq (hu : X.A.units < cLine) : OpR X (compareOp .Eq) (rLenE X.K false) := by
  intro pins s σ H x y v u Q I rx ry h
  obtain ⟨l, c, xs, ys, rfl, rfl, h1, h2, hn, q⟩ := h
  cases rx
  cases ry
  obtain ⟨its, r1, p1, _⟩ := I.list h1
  obtain ⟨its2, r2, p2, _⟩ := I.list h2
  refine SeqAt.RcAt.lists_lengths p1.isList p2.isList ?_ hu _ _ _ _ ⟨.bl false, H, I, rfl, q⟩
  rw [List.size_toArray, List.size_toArray, ← r1.length, ← r2.length]
  exact bne_iff_ne.mpr hn
theorem op_lenNe (hu : X.A.units < cLine) : OpR X (compareOp .NotEq) (rLenE X.K true) := by
  intro pins s σ H x y v u Q I rx ry h
  obtain ⟨l, c, xs, ys, rfl, rfl, h1, h2, hn, q⟩ := h
  cases rx
  cases ry
  obtain ⟨its, r1, p1, _⟩ := I.list h1
  obtain ⟨its2, r2, p2, _⟩ := I.list h2
  refine SeqAt.RcNeAt.lists_lengths p1.isList p2.isList ?_ hu _ _ _ _ ⟨.bl true, H, I, rfl, q⟩
  rw [List.size_toArray, List.size_toArray, ← r1.length, ← r2.length]
  exact bne_iff_ne.mpr hn
theorem len_abs {x y : D} {P : PD} {Q : VK} {v w : V} {b : Bool} (h : lenS b x y S P) (s : StoOk K H S) (rx : Rp K H x v) (ry : Rp K H y w) (pl : PLe K H P Q) : rLenE K b v w H Q := by
  cases x <;> (try exact (show False from h).elim)
  cases y <;> (try exact (show False from h).elim)
  rename_i a c
  cases rx
  cases ry
  have h' : (match S a, S c with
    | some (.lst _ l), some (.lst _ m) => l.length ≠ m.length ∧ P (.bl b) S
    | _, _ => False) := h
  split at h'
  · rename_i w1 l w2 m e1 e2
    obtain ⟨vs, q1, r1⟩ := s.rd e1
    obtain ⟨us, q2, r2⟩ := s.rd e2
    exact ⟨a, c, vs, us, rfl, rfl, q1, q2, by rw [r1.length, r2.length]; exact h'.1, pl.now h'.2 s rfl⟩
  · exact h'.elim
theorem rp_non {d : D} {v : V} (r : Rp K H d v) : decide (v = .non) = isNo d := by
  cases d with
  | non => cases r; rfl
  | tup l => obtain ⟨a, vs, rfl, _⟩ := r; rfl
  | _ => cases r; rfl
def flVal : D → V
  | .bl b => .bl b
  | .int i => .int i
  | .str s => .str s
  | _ => .non
theorem fl_rp {d : D} {v : V} (r : Rp K H d v) (h : flD d = true) : v = flVal d ∧ flatV v = true := by
  cases d <;> (try (cases h; done)) <;> (cases r; exact ⟨rfl, rfl⟩)
theorem fl_rps : ∀ {l : List D} {vs : List V}, Rps K H l vs → l.all flD = true → vs = l.map flVal ∧ vs.all flatV = true
  | [], vs, r, _ => by
    cases (show vs = [] from r)
    exact ⟨rfl, rfl⟩
  | d :: l, vs, r, h => by
    obtain ⟨v, vr, rfl, r1, r2⟩ := r
    rw [List.all_cons, Bool.and_eq_true] at h
    obtain ⟨e1, f1⟩ := fl_rp r1 h.1
    obtain ⟨e2, f2⟩ := fl_rps r2 h.2
    exact ⟨by rw [e1, e2]; rfl, by rw [List.all_cons, f1, f2]; rfl⟩
theorem eq_fl {d e : D} (h1 : flD d = true) (h2 : flD e = true) : eqV (flVal d) (flVal e) = eqFl d e := by
  cases d <;> (try (cases h1; done)) <;> cases e <;> (try (cases h2; done)) <;> rfl
theorem in_fl {x : D} (hx : flD x = true) : ∀ {l : List D}, l.all flD = true → inV (flVal x) (l.map flVal) = inFl x l
  | [], _ => rfl
  | d :: l, h => by
    rw [List.all_cons, Bool.and_eq_true] at h
    have ih := in_fl hx h.2
    unfold inV inFl at ih ⊢
    rw [List.map_cons, List.any_cons, List.any_cons, ih, eq_fl h.1 hx]
theorem dget_abs {a : Addr} {l : List (NestedKey × D × D)} {ds : List D} {k : NestedKey} {v : V} (s : StoOk K H S) (e : S a = some (.dct l)) (q : ky (.tup ds) = some k) (r : Rp K H (.tup ds) v) : DGetN K H (.ref a) v (dfind l k) := by
  obtain ⟨h1, h2, h3, xs, h4, h5⟩ := (show l.length ≤ sizeLine ∧ (a == sysModules) = false ∧ (l.map (·.1)).Nodup ∧ ∃ xs, H a = some (DctV a xs) ∧ DRel K H l xs from s a _ e)
  have r' := r
  obtain ⟨b, vs, rfl, _⟩ := r
  exact ⟨a, b, xs, l, .tup ds, k, rfl, rfl, h4, h2, h1, h3, h5, q, r', rfl⟩
theorem din_abs {x : D} {a : Addr} {P : PD} {Q : VK} {v : V} {neg : Bool} (h : dinS neg x a S P) (s : StoOk K H S) (rx : Rp K H x v) (pl : PLe K H P Q) : rDIn K neg v (.ref a) H Q ∨ rIInt K neg v (.ref a) H Q := by
  unfold dinS at h
  split at h
  · rename_i l ds e
    split at h
    · rename_i k q
      exact .inl ⟨_, dget_abs s e q rx, pl.now h s rfl⟩
    · exact h.elim
  · rename_i l i e
    cases rx
    obtain ⟨xs, h1, h2⟩ := (show ∃ xs, H a = some (.dK xs) ∧ KRel K H l xs from s a _ e)
    refine .inr ⟨a, i, xs, rfl, rfl, h1, ?_⟩
    rw [h2.isS]
    exact pl.now h s rfl
  · exact h.elim
def rInTup (K : PySem.W.Frag) (neg : Bool) : R2 := fun x y H Q => ∃ d ds, Dp K H x d ∧ Dp K H y (.tuple ds) ∧ SeqAt.shaped d = true ∧ SeqAt.shaped (.tuple ds) = true ∧ Q (.bl (if neg then !anyEq d ds else anyEq d ds)) H
theorem op_inTup {X : Cx} (hu : X.A.units + 65 < cLine) : OpR X (compareOp .In) (rInTup X.K false) := by
  intro pins s σ H x y v u Q I rx ry h
  obtain ⟨d, ds, hd, he, sd, se, q⟩ := h
  obtain ⟨as, r1⟩ := Dp.reads I d x v hd rx
  obtain ⟨bs, r2⟩ := Dp.reads I (.tuple ds) y u he ry
  exact SeqAt.in_tuple_reads r2 r1 (SeqAt.canLay_of_shaped se) (SeqAt.canLay_of_shaped sd) (room_in_shaped sd hu) ⟨.bl _, H, I, rfl, q⟩
theorem op_notInTup {X : Cx} (hu : X.A.units + 65 < cLine) : OpR X (compareOp .NotIn) (rInTup X.K true) := by
  intro pins s σ H x y v u Q I rx ry h
  obtain ⟨d, ds, hd, he, sd, se, q⟩ := h
  obtain ⟨as, r1⟩ := Dp.reads I d x v hd rx
  obtain ⟨bs, r2⟩ := Dp.reads I (.tuple ds) y u he ry
  exact SeqAt.notIn_tuple_reads r2 r1 (SeqAt.canLay_of_shaped se) (SeqAt.canLay_of_shaped sd) (room_in_shaped sd hu) ⟨.bl _, H, I, rfl, q⟩
theorem cmp_all (hu : X.A.units + 65 < cLine) (o : CmpOp) : ∃ r, OpR X (compareOp o) r ∧ OpAbs X.K r (cmpS o) := by
  cases o
  case Lt => exact ⟨_, op_lt, abs_int0 (g := fun i j => .bl (decide (i < j))) (fun _ _ _ => rfl) fun x y S P h => by cases x <;> cases y <;> first | exact (show False from h).elim | exact ⟨_, _, rfl, rfl, h⟩⟩
  case LtE => exact ⟨_, op_le, abs_int0 (g := fun i j => .bl (decide (i ≤ j))) (fun _ _ _ => rfl) fun x y S P h => by cases x <;> cases y <;> first | exact (show False from h).elim | exact ⟨_, _, rfl, rfl, h⟩⟩
  case Gt => exact ⟨_, op_gt, abs_int0 (g := fun i j => .bl (decide (j < i))) (fun _ _ _ => rfl) fun x y S P h => by cases x <;> cases y <;> first | exact (show False from h).elim | exact ⟨_, _, rfl, rfl, h⟩⟩
  case GtE => exact ⟨_, op_ge, abs_int0 (g := fun i j => .bl (decide (j ≤ i))) (fun _ _ _ => rfl) fun x y S P h => by cases x <;> cases y <;> first | exact (show False from h).elim | exact ⟨_, _, rfl, rfl, h⟩⟩
  case Eq =>
    refine ⟨_, (op_eqD (by omega)).or (op_lenEq (by omega)), fun x y S P h H v w Q s rx ry pl => ?_⟩
    rcases cmpS_eq h with ⟨p, q, e1, e2, h⟩ | h
    · exact .inl ⟨p, q, pdS_dp s e1 rx, pdS_dp s e2 ry, pdS_sh e1, pdS_sh e2, pl.now h s rfl⟩
    · exact .inr (len_abs h s rx ry pl)
  case NotEq =>
    refine ⟨_, (op_neD (by omega)).or (op_lenNe (by omega)), fun x y S P h H v w Q s rx ry pl => ?_⟩
    rcases cmpS_ne h with ⟨p, q, e1, e2, h⟩ | h
    · exact .inl ⟨p, q, pdS_dp s e1 rx, pdS_dp s e2 ry, pdS_sh e1, pdS_sh e2, pl.now h s rfl⟩
    · exact .inr (len_abs h s rx ry pl)
  case Is =>
    refine ⟨_, op_isN.or op_isBl, fun x y S P h H v w Q s rx ry pl => ?_⟩
    cases y <;> (try (cases x <;> exact (show False from h).elim))
    · cases ry
      have h' : P (.bl (isNo x)) S := by cases x <;> exact h
      exact .inl ⟨rfl, by rw [rp_non rx]; exact pl.now h' s rfl⟩
    · cases x <;> (try exact (show False from h).elim)
      cases rx; cases ry
      exact .inr ⟨_, _, rfl, rfl, pl.now h s rfl⟩
  case IsNot =>
    refine ⟨_, op_notN.or op_notBl, fun x y S P h H v w Q s rx ry pl => ?_⟩
    cases y <;> (try (cases x <;> exact (show False from h).elim))
    · cases ry
      have h' : P (.bl (!isNo x)) S := by cases x <;> exact h
      exact .inl ⟨rfl, by rw [rp_non rx]; exact pl.now h' s rfl⟩
    · cases x <;> (try exact (show False from h).elim)
      cases rx; cases ry
      exact .inr ⟨_, _, rfl, rfl, pl.now h s rfl⟩
  case In =>
    refine ⟨_, ((((op_inD hu).or op_in_seq).or ((op_in_dct (by omega)).or (op_in_int (by omega)))).or (op_inTup hu)).or op_in_str, fun x y S P h H v w Q s rx ry pl => ?_⟩
    by_cases hst : ∃ b, y = .str b
    · obtain ⟨b, rfl⟩ := hst
      cases x <;> (try exact (show False from h).elim)
      cases rx; cases ry
      exact .inr ⟨_, _, rfl, rfl, pl.now h s rfl⟩
    refine .inl ?_
    cases y <;> (try (exact (hst ⟨_, rfl⟩).elim)) <;> (try (cases x <;> exact (show False from h).elim))
    · rename_i a
      have h' : match pdS S x, pdS S (.ref a) with
        | some p, some (.list ps) => P (.bl (anyEq p ps)) S
        | _, _ => dinS false x a S P := by cases x <;> exact h
      split at h'
      · rename_i p ps e1 e2
        exact .inl (.inl (.inl ⟨p, ps, pdS_dp s e1 rx, pdS_dp s e2 ry, pdS_sh e1, pdS_sh e2, pl.now h' s rfl⟩))
      · cases ry
        exact .inl (.inr (din_abs h' s rx pl))
    · rename_i l
      by_cases hx : ∃ ds, x = .tup ds
      · obtain ⟨ds, rfl⟩ := hx
        have h' : match pdS S (.tup ds), pdS S (.tup l) with
          | some p, some (.tuple ps) => P (.bl (anyEq p ps)) S
          | _, _ => False := h
        split at h'
        · rename_i p ps e1 e2
          exact .inr ⟨p, ps, pdS_dp s e1 rx, pdS_dp s e2 ry, pdS_sh e1, pdS_sh e2, pl.now h' s rfl⟩
        · exact h'.elim
      by_cases hy : x = .non
      · subst hy
        have h' : match pdS S .non, pdS S (.tup l) with
          | some p, some (.tuple ps) => P (.bl (anyEq p ps)) S
          | _, _ => False := h
        split at h'
        · rename_i p ps e1 e2
          exact .inr ⟨p, ps, pdS_dp s e1 rx, pdS_dp s e2 ry, pdS_sh e1, pdS_sh e2, pl.now h' s rfl⟩
        · exact h'.elim
      obtain ⟨h1, h2, h3⟩ : flD x = true ∧ l.all flD = true ∧ P (.bl (inFl x l)) S := by
        cases x <;> first | exact h | exact (hx ⟨_, rfl⟩).elim | exact (hy rfl).elim
      obtain ⟨p, vs, rfl, q, rs⟩ := ry
      obtain ⟨e1, f1⟩ := fl_rp rx h1
      obtain ⟨e2, f2⟩ := fl_rps rs h2
      refine .inl (.inl (.inr ⟨p, vs, rfl, .inr q, f1, f2, ?_⟩))
      rw [e1, e2, in_fl h1 h2]
      exact pl.now h3 s rfl
  case NotIn =>
    refine ⟨_, ((((op_notInD hu).or op_notIn_seq).or ((op_notIn_dct (by omega)).or (op_notIn_int (by omega)))).or (op_notInTup hu)).or op_notIn_str, fun x y S P h H v w Q s rx ry pl => ?_⟩
    by_cases hst : ∃ b, y = .str b
    · obtain ⟨b, rfl⟩ := hst
      cases x <;> (try exact (show False from h).elim)
      cases rx; cases ry
      exact .inr ⟨_, _, rfl, rfl, pl.now h s rfl⟩
    refine .inl ?_
    cases y <;> (try (exact (hst ⟨_, rfl⟩).elim)) <;> (try (cases x <;> exact (show False from h).elim))
    · rename_i a
      have h' : match pdS S x, pdS S (.ref a) with
        | some p, some (.list ps) => P (.bl (!anyEq p ps)) S
        | _, _ => dinS true x a S P := by cases x <;> exact h
      split at h'
      · rename_i p ps e1 e2
        exact .inl (.inl (.inl ⟨p, ps, pdS_dp s e1 rx, pdS_dp s e2 ry, pdS_sh e1, pdS_sh e2, pl.now h' s rfl⟩))
      · cases ry
        exact .inl (.inr (din_abs h' s rx pl))
    · rename_i l
      by_cases hx : ∃ ds, x = .tup ds
      · obtain ⟨ds, rfl⟩ := hx
        have h' : match pdS S (.tup ds), pdS S (.tup l) with
          | some p, some (.tuple ps) => P (.bl (!anyEq p ps)) S
          | _, _ => False := h
        split at h'
        · rename_i p ps e1 e2
          exact .inr ⟨p, ps, pdS_dp s e1 rx, pdS_dp s e2 ry, pdS_sh e1, pdS_sh e2, pl.now h' s rfl⟩
        · exact h'.elim
      obtain ⟨h1, h2, h3⟩ : flD x = true ∧ l.all flD = true ∧ P (.bl (!inFl x l)) S := by
        cases x <;> first | exact h | exact (hx ⟨_, rfl⟩).elim
      obtain ⟨p, vs, rfl, q, rs⟩ := ry
      obtain ⟨e1, f1⟩ := fl_rp rx h1
      obtain ⟨e2, f2⟩ := fl_rps rs h2
      refine .inl (.inl (.inr ⟨p, vs, rfl, .inr q, f1, f2, ?_⟩))
      rw [e1, e2, in_fl h1 h2]
      exact pl.now h3 s rfl
theorem tru_abs {d : D} {v : V} {b : Bool} (s : StoOk K H S) (r : Rp K H d v) (e : truB S d = some b) : TruV K v H b := by
  cases d with
  | non => cases r; exact (Option.some.inj e).symm
  | bl c => cases r; exact (Option.some.inj e).symm
  | int i => cases r; exact (Option.some.inj e).symm
  | str x =>
    cases r
    simp only [truB] at e
    split at e
    · rename_i hx
      have e' := Option.some.inj e
      refine ⟨hx, ?_⟩
      rw [← e']
      cases x.length with
      | zero => rfl
      | succ n => simp [bne]; omega
    · cases e
  | tup l =>
    obtain ⟨a, vs, rfl, q, rs⟩ := r
    refine .inr (.inl ⟨vs, q, ?_⟩)
    rw [← Option.some.inj e]
    have := rs.length
    cases l <;> cases vs <;> simp_all
  | ref a =>
    cases r
    simp only [truB] at e
    cases q : S a with
    | none => rw [q] at e; cases e
    | some o =>
      rw [q] at e
      cases o with
      | exc k f => cases e
      | dct m => cases e
      | dci m => cases e
      | lst w l =>
        obtain ⟨vs, q1, r1⟩ := s.rd q
        refine .inl ⟨vs, q1, ?_⟩
        rw [← Option.some.inj e]
        have := r1.length
        cases l <;> cases vs <;> simp_all
  | ty n => cases e
theorem atI_rps {l : List D} {vs : List V} {i : Int} {d : D} (r : Rps K H l vs) (e : atI l i = some d) : ∃ v, atI vs i = some v ∧ Rp K H d v := by
  have hl := r.length
  unfold atI at e ⊢
  rw [hl]
  cases q : ixN l.length i with
  | none => rw [q] at e; cases e
  | some j =>
    rw [q] at e
    have e' : l[j]? = some d := e
    obtain ⟨v, h1, h2⟩ := r.get e'
    exact ⟨v, h1, h2⟩
theorem ix_abs : OpAbs K (fun x y H Q => rIx K x y H Q ∨ rDGet K x y H Q ∨ rIGet K x y H Q) ixS := by
  intro x y S P h H v w Q s rx ry pl
  cases x <;> cases y <;> (try exact (show False from h).elim)
  · rename_i z i
    cases rx; cases ry
    obtain ⟨h1, h2⟩ := (show z.length ≤ sizeLine ∧ (match atI z.cps.toList i with
      | some c => P (.str ⟨#[c]⟩) S
      | none => False) from h)
    split at h2
    · rename_i c e
      exact .inl (.inr (.inr ⟨z, i, c, rfl, rfl, h1, e, pl.now h2 s rfl⟩))
    · exact h2.elim
  · rename_i a i
    cases rx; cases ry
    have h' : (match S a with
      | some (.lst _ l) => (match atI l i with
        | some d => P d S
        | none => False)
      | some (.dci l) => (match ifind l i with
        | some d => P d S
        | none => False)
      | _ => False) := h
    split at h'
    · rename_i w1 l e
      obtain ⟨vs, q1, r1⟩ := s.rd e
      split at h'
      · rename_i d e2
        obtain ⟨u, e3, r3⟩ := atI_rps r1 e2
        exact .inl (.inl ⟨a, vs, i, u, rfl, rfl, q1, e3, pl.now h' s r3⟩)
      · exact h'.elim
    · rename_i l e
      obtain ⟨xs, q1, r1⟩ := (show ∃ xs, H a = some (.dK xs) ∧ KRel K H l xs from s a _ e)
      split at h'
      · rename_i d e2
        rcases r1.find (k := i) with ⟨z, _⟩ | ⟨d', v, h1, h2, h3⟩
        · rw [z] at e2; cases e2
        · rw [h1] at e2
          cases e2
          exact .inr (.inr ⟨a, i, xs, v, rfl, rfl, q1, h2, pl.now h' s h3⟩)
      · exact h'.elim
    · exact h'.elim
  · rename_i a ds
    cases rx
    have h' : (match S a with
      | some (.dct l) => (match ky (.tup ds) with
        | some k => (match dfind l k with
          | some d => P d S
          | none => False)
        | none => False)
      | _ => False) := h
    split at h'
    · rename_i l e
      split at h'
      · rename_i k q
        split at h'
        · rename_i d e2
          exact .inr (.inl ⟨d, by rw [← e2]; exact dget_abs s e q ry, fun v r => pl.now h' s r⟩)
        · exact h'.elim
      · exact h'.elim
    · exact h'.elim
  · rename_i l i
    cases ry
    obtain ⟨a, vs, rfl, q1, r1⟩ := rx
    have h' : (match atI l i with
      | some d => P d S
      | none => False) := h
    split at h'
    · rename_i d e2
      obtain ⟨u, e3, r3⟩ := atI_rps r1 e2
      exact .inl (.inr (.inl ⟨a, vs, i, u, rfl, rfl, q1, e3, pl.now h' s r3⟩))
    · exact h'.elim
theorem cut_rps {l : List D} {vs : List V} (r : Rps K H l vs) (lo hi : Option Int) : Rps K H (cutD l lo hi) (cutV vs lo hi) := by
  unfold cutD cutV
  rw [r.length]
  exact (r.drop _).take _
end
end Sd
namespace Sd
open PySem PySem.Spec PyProof.Rows L2
inductive BI where
  | abs | len | int | min2 | max2 | min1 | max1 | sum | all | any | list | tuple | str | sorted | divmod
  deriving DecidableEq
inductive TyN where
  | bt (n : String)
  | cl (k : Nat)
  deriving DecidableEq
inductive SM where
  | join | split | starts | part | lstr
  deriving DecidableEq
inductive ME where
  | append | pop0 | pop1 | reverse | clear | extend | insert | count | index | remove
  deriving DecidableEq
mutual
/-- expressions -/
inductive X where
  | var (i : Nat)
  | c (d : D)
  | g (k : Nat)
  | op (o : Operator) (a b : X)
  | cmp (o : CmpOp) (a b : X)
  | chain (o o' : CmpOp) (a b c : X)
  | neg (a : X)
  | no (a : X)
  | an (a b : X)
  | ro (a b : X)
  | ite (t a b : X)
  | tp (es : List X)
  | ls (es : List X)
  | ix (a i : X)
  | sl (a lo hi : X)
  | st (a : X) (lo : Option Int) (k : Int)
  | aI (a : X)
  | fn (k : Nat) (es : List X)
  | cal (i : Nat) (es : List X)
  | bi (b : BI) (es : List X)
  | isi (a : X) (ts : List TyN)
  | me (m : ME) (o : X) (es : List X)
  | fld (f : Str) (o : X)
  | sz (a : X)
  | sset (a : X)
  | mke (k : Nat) (own : Bool) (a : X)
  | lc (e : X) (t : T) (it : I) (cond : X) (own : List Nat)
  | dc
  | dgt (o k : X)
  | rv1 (a : X)
  | lrg (b : X)
  | d1 (k : Int) (e : X)
  | dsd (o : X) (es : List X)
  | mnd (a b : X)
  | sm (m : SM) (o e : X)
/-- targets -/
inductive T where
  | nm (i : Nat)
  | tp (ts : List T)
  | ix (o i : X)
/-- what is walked -/
inductive I where
  | e (x : X)
  | rng1 (b : X)
  | rng2 (a b : X)
  | zip (a b : X)
  | enm (a : X)
  | rng3 (a b c : X)
  | zip3 (a b c : X)
end
inductive Z where
  | asg (t : T) (e : X)
  | aug (i : Nat) (o : Operator) (e : X)
  | augx (a i : X) (o : Operator) (e : X)
  | ex (e : X)
  | ret (e : X)
  | iff (t : X) (a b : List Z)
  | whl (t : X) (b : List Z)
  | for_ (t : T) (it : I) (b : List Z)
  | rz (k : Nat)
  | rzf (k : Nat) (e : X)
  | tr (b : List Z) (k n y : Nat)
  | tr2 (b : List Z) (k n y z : Nat)
  | tr3 (b : List Z) (k n y z : Nat) (t : Str)
  | pass | cont | brk
structure Gam where
  ar : Nat → Nat
  fn : Nat → Con
  cst : Nat → Option D
  nm : Str → Option Nat := fun _ => none
def lk : DSt → Nat → Option D
  | [], _ => none
  | d :: _, 0 => d
  | _ :: r, i + 1 => lk r i
def intL : List D → Option (List Int)
  | [] => some []
  | .int i :: r => (match intL r with
    | some l => some (i :: l)
    | none => none)
  | _ => none
def boolL : List D → Option (List Bool)
  | [] => some []
  | .bl b :: r => (match boolL r with
    | some l => some (b :: l)
    | none => none)
  | _ => none
def seqD (S : Sto) : D → Option (List D)
  | .tup l => some l
  | .ref a => (match S a with
    | some (.lst _ l) => some l
    | _ => none)
  | _ => none
def lstD (S : Sto) : D → Option (List D)
  | .ref a => (match S a with
    | some (.lst _ l) => some l
    | _ => none)
  | _ => none
def biS (b : BI) (ds : List D) (S : Sto) (P : PD) : Prop :=
  match b, ds with
  | .abs, [.int i] => P (.int (if i < 0 then -i else i)) S
  | .int, [.int i] => P (.int i) S
  | .int, [.bl k] => P (.int (if k then 1 else 0)) S
  | .int, [.str z] => (match PySem.intText? z with
    | some n => z.length ≤ 640 ∧ P (.int n) S
    | none => False)
  | .len, [d] => (match seqD S d with
    | some l => P (.int l.length) S
    | none => (match d with
      | .str z => z.length ≤ sizeLine ∧ P (.int z.length) S
      | .ref a => (match S a with
        | some (.dct l) => P (.int l.length) S
        | some (.dci l) => P (.int l.length) S
        | _ => False)
      | _ => False))
  | .min2, [.int i, .int j] => P (.int (if j < i then j else i)) S
  | .max2, [.int i, .int j] => P (.int (if j > i then j else i)) S
  | .sum, [d] => (match lstD S d with
    | some l => (match intL l with
      | some ns => P (.int ns.sum) S
      | none => False)
    | none => False)
  | .min1, [d] => (match seqD S d with
    | some l => (match intL l with
      | some ns => 0 < ns.length ∧ ∀ m, m ∈ ns → (∀ y, y ∈ ns → m ≤ y) → P (.int m) S
      | none => False)
    | none => False)
  | .max1, [d] => (match seqD S d with
    | some l => (match intL l with
      | some ns => 0 < ns.length ∧ ∀ m, m ∈ ns → (∀ y, y ∈ ns → y ≤ m) → P (.int m) S
      | none => False)
    | none => False)
  | .all, [d] => (match lstD S d with
    | some l => (match boolL l with
      | some bs => P (.bl (bs.all id)) S
      | none => False)
    | none => False)
  | .any, [d] => (match lstD S d with
    | some l => (match boolL l with
      | some bs => P (.bl (bs.any id)) S
      | none => False)
    | none => False)
  | .list, [d] => (match seqD S d with
    | some l => ∀ p, S p = none → P (.ref p) (S.up p (.lst true l))
    | none => False)
  | .tuple, [d] => (match seqD S d with
    | some l => P (.tup l) S
    | none => False)
  | .str, [.int i] => i.natAbs.log2 < 1920 ∧ P (.str (toString i)) S
  | .divmod, [.int i, .int j] => (0 < j ∧ j.natAbs.log2 < 9000) ∧ P (.tup [.int (i / j), .int (i % j)]) S
  | .sorted, [d] => (match lstD S d with
    | some l => (match intL l with
      | some ns => ∀ (ns' : List Int) (p : Addr), ns'.Perm ns → ns'.Pairwise (· ≤ ·) → S p = none → P (.ref p) (S.up p (.lst true (ns'.map D.int)))
      | none => False)
    | none => False)
  | _, _ => False
def isS : D → Prop
  | .str _ => True
  | _ => False
def strL : List D → Option (List Str)
  | [] => some []
  | .str z :: r => (match strL r with
    | some l => some (z :: l)
    | none => none)
  | _ => none
def signs (z : Str) : List D := z.cps.toList.map fun c => D.str ⟨#[c]⟩
def smS (m : SM) (x y : D) (S : Sto) (P : PD) : Prop := match m, x, y with
  | .join, .str a, .ref p => (match S p with
    | some (.lst _ l) => (match strL l with
      | some ys => (ys.map (·.length)).sum + ys.length * a.length ≤ 16777216 ∧ P (.str (Txt.join a ys)) S
      | none => False)
    | _ => False)
  | .split, .str a, .str b => ((b.length == 0) = false ∧ a.length + 2 ≤ sizeLine) ∧ ∀ p, S p = none → P (.ref p) (S.up p (.lst true ((Txt.split a b).map D.str)))
  | .starts, .str a, .str b => P (.bl (Txt.startswith a b)) S
  | .lstr, .str a, .str b => a.length ≤ sizeLine ∧ P (.str (Txt.lstripChars a b)) S
  | .part, .str a, .str b => ((b.length == 0) = false ∧ a.length ≤ sizeLine) ∧ P (.tup [.str (Txt.partition a b).1, .str (Txt.partition a b).2.1, .str (Txt.partition a b).2.2]) S
  | _, _, _ => False
def lensS (d : D) (S : Sto) (P : PD) : Prop := match seqD S d with
  | some l => (match intL l with
    | some ns => ns.length ≤ 4000 ∧ ∀ ks : List Int, ks.Nodup → (∀ i, i ∈ ks ↔ i ∈ ns) → P (.int ks.length) S
    | none => False)
  | none => False
def ssetS (d : D) (S : Sto) (P : PD) : Prop := match d with
  | .ref a => (match S a with
    | some (.lst _ l) => (match intL l with
      | some ns => ns.length ≤ 4000 ∧ ∀ (ks : List Int) (p : Addr), ks.Pairwise (· < ·) → (∀ i, i ∈ ks ↔ i ∈ ns) → S p = none → P (.ref p) (S.up p (.lst true (ks.map D.int)))
      | none => False)
    | _ => False)
  | _ => False
def isL (S : Sto) : D → Prop
  | .ref a => (match S a with
    | some (.lst true _) => True
    | _ => False)
  | _ => False
def isD (S : Sto) : D → Prop
  | .ref a => (match S a with
    | some (.dct _) => True
    | _ => False)
  | _ => False
def isDi (S : Sto) : D → Prop
  | .ref a => (match S a with
    | some (.dci _) => True
    | _ => False)
  | _ => False
def dsdS (x : D) (ds : List D) (S : Sto) (P : PD) : Prop := match x, ds with
  | .ref a, [.int i, z] => (match S a with
    | some (.dci l) => l.length < sizeLine ∧ (match ifind l i with
      | some d => P d S
      | none => P z (S.up a (.dci (iput l i z))))
    | _ => False)
  | _, _ => False
def mndS (x y : D) (S : Sto) (P : PD) : Prop := match lstD S x, y with
  | some l, .int j => (match intL l with
    | some ns => (ns = [] → P (.int j) S) ∧ ∀ m, m ∈ ns → (∀ y, y ∈ ns → m ≤ y) → P (.int m) S
    | none => False)
  | _, _ => False
def dgtS (x y : D) (S : Sto) (P : PD) : Prop := match x, y with
  | .ref a, .tup ds => (match S a with
    | some (.dct l) => (match ky (.tup ds) with
      | some k => P ((dfind l k).getD .non) S
      | none => False)
    | _ => False)
  | _, _ => False
def rv1S (x : D) (S : Sto) (P : PD) : Prop := match x with
  | .ref a => (match S a with
    | some (.lst _ l) => ∀ p, S p = none → P (.ref p) (S.up p (.lst true (l.drop 1).reverse))
    | _ => False)
  | _ => False
def meS (m : ME) (o : D) (ds : List D) (S : Sto) (P : PD) : Prop :=
  match o with
  | .ref a => (match S a with
    | some (.lst true l) => (match m, ds with
      | .append, [y] => l.length < sizeLine ∧ P .non (S.up a (.lst true (l ++ [y])))
      | .pop0, [] => (match l[l.length - 1]? with
        | some y => P y (S.up a (.lst true l.dropLast))
        | none => False)
      | .pop1, [.int i] => (-(2 ^ 63) ≤ i ∧ i < 2 ^ 63) ∧ (match atI l i with
        | some y => P y (S.up a (.lst true (l.eraseIdx ((ixN l.length i).getD 0))))
        | none => False)
      | .count, [y] => flD y = true ∧ l.all flD = true ∧ P (.int (l.countP fun z => eqFl z y : Nat)) S
      | .index, [.tup yd] => (match pdS S (.tup yd), pdS S (.ref a) with
        | some p, some (.list ps) => ∃ (j : Nat) (q : PyData), ps[j]? = some q ∧ PyData.eqv q p = true ∧ (∀ (m : Nat) (q' : PyData), m < j → ps[m]? = some q' → PyData.eqv q' p = false) ∧ P (.int (j : Nat)) S
        | _, _ => False)
      | .index, [y] => flD y = true ∧ l.all flD = true ∧ ∃ (j : Nat) (z : D), l[j]? = some z ∧ eqFl z y = true ∧ (∀ (m : Nat) (z' : D), m < j → l[m]? = some z' → eqFl z' y = false) ∧ P (.int (j : Nat)) S
      | .remove, [y] => (match pdS S y, pdS S (.ref a) with
        | some p, some (.list ps) => ∃ (j : Nat) (q : PyData), ps[j]? = some q ∧ PyData.eqv q p = true ∧ (∀ (m : Nat) (q' : PyData), m < j → ps[m]? = some q' → PyData.eqv q' p = false) ∧ P .non (S.up a (.lst true (l.eraseIdx j)))
        | _, _ => False)
      | .reverse, [] => P .non (S.up a (.lst true l.reverse))
      | .clear, [] => P .non (S.up a (.lst true []))
      | .insert, [.int i, y] => l.length < sizeLine ∧ 0 ≤ i ∧ i < 2 ^ 63 ∧ P .non (S.up a (.lst true (l.take i.toNat ++ [y] ++ l.drop i.toNat)))
      | .extend, [.ref b] => (match S b with
        | some (.lst true m) => l.length + m.length ≤ sizeLine ∧ P .non (S.up a (.lst true (l ++ m)))
        | _ => False)
      | _, _ => False)
    | _ => False)
  | _ => False
def btOf (S : Sto) : D → Option String
  | .non => some "NoneType"
  | .bl _ => some "bool"
  | .int _ => some "int"
  | .str _ => some "str"
  | .tup _ => some "tuple"
  | .ref a => (match S a with
    | some (.lst _ _) => some "list"
    | _ => none)
  | .ty _ => none
def btSub (t n : String) : Bool := t == n || (t == "bool" && n == "int")
def isiOne (S : Sto) (d : D) (t : TyN) : Option Bool :=
  match btOf S d with
  | some b => (match t with
    | .bt n => some (btSub b n)
    | .cl _ => some false)
  | none => (match d with
    | .ref a => (match S a with
      | some (.exc k _) => (match t with
        | .bt n => some (n == "ValueError")
        | .cl j => some (subK k j))
      | _ => none)
    | _ => none)
def isiAny (S : Sto) (d : D) : List TyN → Option Bool
  | [] => some false
  | t :: r => (match isiOne S d t with
    | some true => some true
    | some false => isiAny S d r
    | none => none)
inductive Src where
  | free
  | lst (a : Addr) (w : Bool) (l : List D)
  | two (a : Addr) (w : Bool) (l : List D) (b : Addr) (v : Bool) (m : List D)
  | thr (a : Addr) (w : Bool) (l : List D) (b : Addr) (v : Bool) (m : List D) (c : Addr) (u : Bool) (n : List D)
def Src.ok (S : Sto) : Src → Prop
  | .free => True
  | .lst a w l => S a = some (.lst w l)
  | .two a w l b v m => S a = some (.lst w l) ∧ S b = some (.lst v m)
  | .thr a w l b v m c u n => S a = some (.lst w l) ∧ S b = some (.lst v m) ∧ S c = some (.lst u n)
abbrev ATg := D → DSt → Sto → (DSt → Sto → Prop) → AW → Prop
abbrev ATgs := List D → DSt → Sto → (DSt → Sto → Prop) → AW → Prop
abbrev AI := DSt → Sto → (List D → Src → Sto → Prop) → AW → Prop
def aTru (A : AE) : AT := fun ρ S P W => A ρ S (fun d S1 => match truB S1 d with
  | some b => P b S1
  | none => False) W
def wipeD (ρ : DSt) : List Nat → DSt
  | [] => ρ
  | v :: vs => (wipeD ρ vs).set v none
def lcS (t : ATg) (cond : AT) (e : AE) (src : Src) (p : Addr) (ρ : DSt) (Pd : Sto → Prop) : List D → Sto → Prop
  | [], S => src.ok S ∧ Pd S
  | d :: ds, S => src.ok S ∧ t d ρ S (fun ρ1 S1 => cond ρ1 S1 (fun b S2 => if b = true then
      e ρ1 S2 (fun y S3 => match S3 p with
        | some (.lst true acc) => acc.length < sizeLine ∧ lcS t cond e src p ρ Pd ds (S3.up p (.lst true (acc ++ [y])))
        | _ => False) (fun _ _ _ _ => False)
      else lcS t cond e src p ρ Pd ds S2) (fun _ _ _ _ => False)) (fun _ _ _ _ => False)
def partS (d : D) (P : Option Int → Prop) : Prop := match d with
  | .non => P none
  | .int i => P (some i)
  | _ => False
def zipD (l m : List D) : List D := (l.zip m).map fun p => .tup [p.1, p.2]
def zipD3 (l m n : List D) : List D := (l.zip (m.zip n)).map fun p => .tup [p.1, p.2.1, p.2.2]
def enmD (l : List D) : List D := (List.range l.length).zipWith (fun (i : Nat) d => .tup [.int (i : Int), d]) l
def rngItems (lo : Int) (n : Nat) : List D := (List.range n).map fun (i : Nat) => D.int (lo + (i : Int))
def rngC (lo c : Int) (n : Nat) : List D := (List.range n).map fun (i : Nat) => D.int (lo + (i : Nat) * c)
section
variable (Γ : Gam)
mutual
def wE : X → AE
  | .var i => fun ρ S P _ => match lk ρ i with
    | some d => P d S
    | none => False
  | .c d => fun _ S P _ => P d S
  | .g k => fun _ S P _ => match Γ.cst k with
    | some d => P d S
    | none => False
  | .op o a b => fun ρ S P W => wE a ρ S (fun x S1 => wE b ρ S1 (fun y S2 => opS o x y S2 P) W) W
  | .cmp o a b => fun ρ S P W => wE a ρ S (fun x S1 => wE b ρ S1 (fun y S2 => cmpS o x y S2 P) W) W
  | .chain o o' a b c => fun ρ S P W => wE a ρ S (fun x S1 => wE b ρ S1 (fun y S2 => cmpS o x y S2 (fun z S3 => match z with
    | .bl true => wE c ρ S3 (fun u S4 => cmpS o' y u S4 P) W
    | .bl false => P (.bl false) S3
    | _ => False)) W) W
  | .neg a => fun ρ S P W => wE a ρ S (fun x S1 => match x with
    | .int i => P (.int (-i)) S1
    | _ => False) W
  | .no a => fun ρ S P W => aTru (wE a) ρ S (fun b S1 => P (.bl (!b)) S1) W
  | .an a b => fun ρ S P W => wE a ρ S (fun x S1 => match truB S1 x with
    | some true => wE b ρ S1 P W
    | some false => P x S1
    | none => False) W
  | .ro a b => fun ρ S P W => wE a ρ S (fun x S1 => match truB S1 x with
    | some true => P x S1
    | some false => wE b ρ S1 P W
    | none => False) W
  | .ite t a b => fun ρ S P W => aTru (wE t) ρ S (fun c S1 => if c = true then wE a ρ S1 P W else wE b ρ S1 P W) W
  | .tp es => fun ρ S P W => wEs es ρ S (fun ds S1 => ds.length ≤ sizeLine ∧ P (.tup ds) S1) W
  | .ls es => fun ρ S P W => wEs es ρ S (fun ds S1 => ds.length ≤ sizeLine ∧ ∀ p, S1 p = none → P (.ref p) (S1.up p (.lst true ds))) W
  | .ix a i => fun ρ S P W => wE a ρ S (fun x S1 => wE i ρ S1 (fun y S2 => ixS x y S2 P) W) W
  | .sl a lo hi => fun ρ S P W => wE a ρ S (fun x S1 => wE lo ρ S1 (fun l S2 => partS l fun l => wE hi ρ S2 (fun h S3 => partS h fun h => slS x l h S3 P) W) W) W
  | .st a lo k => fun ρ S P W => wE a ρ S (fun x S1 => stS x lo k S1 P) W
  | .aI a => fun ρ S P W => wE a ρ S (fun d S1 => match d with
    | .int i => P (.int i) S1
    | _ => False) W
  | .fn k es => fun ρ S P W => wEs es ρ S (fun ds S1 => ds.length = Γ.ar k ∧ Γ.fn k ds S1 P (fun c f S2 => W c f ρ S2)) W
  | .cal i es => fun ρ S P W => match lk ρ i with
    | some (.ty x) => (match Γ.nm x with
      | some k => wEs es ρ S (fun ds S1 => ds.length = Γ.ar k ∧ Γ.fn k ds S1 P (fun c f S2 => W c f ρ S2)) W
      | none => False)
    | _ => False
  | .bi b es => fun ρ S P W => wEs es ρ S (fun ds S1 => biS b ds S1 P) W
  | .isi a ts => fun ρ S P W => wE a ρ S (fun x S1 => match isiAny S1 x ts with
    | some b => P (.bl b) S1
    | none => False) W
  | .me m o es => fun ρ S P W => wE o ρ S (fun x S1 => isL S1 x ∧ wEs es ρ S1 (fun ds S2 => meS m x ds S2 P) W) W
  | .sz a => fun ρ S P W => wE a ρ S (fun d S1 => lensS d S1 P) W
  | .sset a => fun ρ S P W => wE a ρ S (fun d S1 => ssetS d S1 P) W
  | .mke k o a => fun ρ S P W => wE a ρ S (fun d S1 => ∀ p, S1 p = none → P (.ref p) (S1.up p (.exc k (if o then some d else none)))) W
  | .fld f o => fun ρ S P W => wE o ρ S (fun x S1 => match x with
    | .ref a => (match S1 a with
      | some (.exc k (some d)) => fldN k = f ∧ P d S1
      | _ => False)
    | _ => False) W
  | .lc e t it cond own => fun ρ S P W => wI it ρ S (fun ds src S1 => ∀ p, S1 p = none → lcS (wT t) (aTru (wE cond)) (wE e) src p (wipeD ρ own) (fun S2 => P (.ref p) S2) ds (S1.up p (.lst true []))) W
  | .dc => fun _ S P _ => ∀ p, S p = none → P (.ref p) (S.up p (.dct []))
  | .dgt o k => fun ρ S P W => wE o ρ S (fun x S1 => isD S1 x ∧ wE k ρ S1 (fun y S2 => dgtS x y S2 P) W) W
  | .rv1 a => fun ρ S P W => wE a ρ S (fun x S1 => rv1S x S1 P) W
  | .lrg b => fun ρ S P W => wE b ρ S (fun d S1 => match d with
    | .int j => (-(2 ^ 62) ≤ j ∧ j ≤ 2 ^ 20) ∧ ∀ p, S1 p = none → P (.ref p) (S1.up p (.lst true (rngItems 0 j.toNat)))
    | _ => False) W
  | .d1 k e => fun ρ S P W => ∀ p, S p = none → wE e ρ (S.up p (.dci [])) (fun d S2 => S2 p = some (.dci []) ∧ P (.ref p) (S2.up p (.dci [(k, d)]))) W
  | .dsd o es => fun ρ S P W => wE o ρ S (fun x S1 => isDi S1 x ∧ wEs es ρ S1 (fun ds S2 => dsdS x ds S2 P) W) W
  | .mnd a b => fun ρ S P W => wE a ρ S (fun x S1 => wE b ρ S1 (fun y S2 => mndS x y S2 P) W) W
  | .sm m o e => fun ρ S P W => wE o ρ S (fun x S1 => isS x ∧ wE e ρ S1 (fun y S2 => smS m x y S2 P) W) W
def wEs : List X → AA
  | [] => fun _ S P _ => P [] S
  | e :: es => fun ρ S P W => wE e ρ S (fun x S1 => wEs es ρ S1 (fun xs S2 => P (x :: xs) S2) W) W
def wT : T → ATg
  | .nm i => fun d ρ S P _ => P (ρ.set i (some d)) S
  | .tp ts => fun d ρ S P W => match d with
    | .tup l => l.length = ts.length ∧ wTs ts l ρ S P W
    | .ref a => (match S a with
      | some (.lst _ l) => l.length = ts.length ∧ wTs ts l ρ S P W
      | _ => False)
    | _ => False
  | .ix o i => fun d ρ S P W => wE o ρ S (fun x S1 => wE i ρ S1 (fun y S2 => match x, y with
    | .ref a, .int k => (match S2 a with
      | some (.lst true l) => (match ixN l.length k with
        | some j => P ρ (S2.up a (.lst true (l.set j d)))
        | none => False)
      | some (.dci l) => l.length < sizeLine ∧ P ρ (S2.up a (.dci (iput l k d)))
      | _ => False)
    | .ref a, .tup ds => (match S2 a with
      | some (.dct l) => (match ky (.tup ds) with
        | some k => l.length < sizeLine ∧ P ρ (S2.up a (.dct (dput l k (.tup ds) d)))
        | none => False)
      | _ => False)
    | _, _ => False) W) W
def wTs : List T → ATgs
  | [] => fun ds ρ S P _ => match ds with
    | [] => P ρ S
    | _ => False
  | t :: ts => fun ds ρ S P W => match ds with
    | d :: r => wT t d ρ S (fun ρ1 S1 => wTs ts r ρ1 S1 P W) W
    | _ => False
def wI : I → AI
  | .e x => fun ρ S P W => wE x ρ S (fun d S1 => match d with
    | .tup l => P l .free S1
    | .str z => P (signs z) .free S1
    | .ref a => (match S1 a with
      | some (.lst w l) => P l (.lst a w l) S1
      | _ => False)
    | _ => False) W
  | .rng1 b => fun ρ S P W => wE b ρ S (fun d S1 => match d with
    | .int j => (-(2 ^ 62) ≤ j ∧ j < 2 ^ 62) ∧ P (rngItems 0 j.toNat) .free S1
    | _ => False) W
  | .rng2 a b => fun ρ S P W => wE a ρ S (fun d S1 => wE b ρ S1 (fun e S2 => match d, e with
    | .int i, .int j => (-(2 ^ 62) ≤ i ∧ i < 2 ^ 62 ∧ -(2 ^ 62) ≤ j ∧ j < 2 ^ 62) ∧ P (rngItems i (j - i).toNat) .free S2
    | _, _ => False) W) W
  | .rng3 a b c => fun ρ S P W => wE a ρ S (fun d S1 => wE b ρ S1 (fun e S2 => wE c ρ S2 (fun f S3 => match d, e, f with
    | .int i, .int j, .int k => ∃ n, RgC i j k n ∧ P (rngC i k n) .free S3
    | _, _, _ => False) W) W) W
  | .enm a => fun ρ S P W => wE a ρ S (fun x S1 => match x with
    | .ref p => (match S1 p with
      | some (.lst w l) => P (enmD l) (.lst p w l) S1
      | _ => False)
    | _ => False) W
  | .zip a b => fun ρ S P W => wE a ρ S (fun x S1 => wE b ρ S1 (fun y S2 => match x, y with
    | .ref p, .ref q => (match S2 p, S2 q with
      | some (.lst w l), some (.lst v m) => P (zipD l m) (.two p w l q v m) S2
      | _, _ => False)
    | .tup l, .ref q => (match S2 q with
      | some (.lst v m) => P (zipD l m) (.lst q v m) S2
      | _ => False)
    | _, _ => False) W) W
  | .zip3 a b c => fun ρ S P W => wE a ρ S (fun x S1 => wE b ρ S1 (fun y S2 => wE c ρ S2 (fun z S3 => match x, y, z with
    | .ref p, .ref q, .ref r => (match S3 p, S3 q, S3 r with
      | some (.lst w l), some (.lst v m), some (.lst u n) => P (zipD3 l m n) (.thr p w l q v m r u n) S3
      | _, _, _ => False)
    | _, _, _ => False) W) W) W
end
def augS (o : Operator) (x y : D) (P : D → Prop) : Prop := match o, x, y with
  | .Add, .int a, .int b => P (.int (a + b))
  | .Sub, .int a, .int b => P (.int (a - b))
  | _, _, _ => False
def augxG (x y : D) (S : Sto) (P : Int → Prop) : Prop := match x, y with
  | .ref p, .int k => (match S p with
    | some (.lst _ l) => (match L2.atI l k with
      | some (.int n) => P n
      | _ => False)
    | _ => False)
  | _, _ => False
def augxS (x y d : D) (S : Sto) (P : Sto → Prop) : Prop := match x, y with
  | .ref p, .int k => (match S p with
    | some (.lst true l) => (match ixN l.length k with
      | some j => P (S.up p (.lst true (l.set j d)))
      | none => False)
    | _ => False)
  | _, _ => False
def forS (t : ATg) (b : AS) (src : Src) (N : DE) (W : AW) : List D → DSt → Sto → Prop
  | [], ρ, S => src.ok S ∧ N.nx ρ S
  | d :: ds, ρ, S => src.ok S ∧ t d ρ S (fun ρ1 S1 => b { nx := fun ρ2 S2 => forS t b src N W ds ρ2 S2, rt := N.rt, bk := N.nx, ct := fun ρ2 S2 => forS t b src N W ds ρ2 S2 } ρ1 S1 W) W
mutual
def wZ : Z → AS
  | .asg t e => fun N ρ S W => wE Γ e ρ S (fun d S1 => wT Γ t d ρ S1 N.nx W) W
  | .aug i o e => fun N ρ S W => match lk ρ i with
    | some x => wE Γ e ρ S (fun y S1 => augS o x y fun d => N.nx (ρ.set i (some d)) S1) W
    | none => False
  | .augx a i o e => fun N ρ S W => wE Γ a ρ S (fun x S1 => wE Γ i ρ S1 (fun y S2 => augxG x y S2 fun n => wE Γ e ρ S2 (fun z S3 => augS o (.int n) z fun d => augxS x y d S3 (N.nx ρ)) W) W) W
  | .ex e => fun N ρ S W => wE Γ e ρ S (fun _ S1 => N.nx ρ S1) W
  | .ret e => fun N ρ S W => wE Γ e ρ S N.rt W
  | .iff t a b => fun N ρ S W => aTru (wE Γ t) ρ S (fun c S1 => if c = true then wZs a N ρ S1 W else wZs b N ρ S1 W) W
  | .whl t b => fun N ρ S W => ∃ J : Nat → DSt → Sto → Prop, (∃ m, J m ρ S) ∧ ∀ m ρ S, J m ρ S → aTru (wE Γ t) ρ S (fun c S1 => if c = true then
      wZs b { nx := fun ρ2 S2 => ∃ m', m' < m ∧ J m' ρ2 S2, rt := N.rt, bk := N.nx, ct := fun ρ2 S2 => ∃ m', m' < m ∧ J m' ρ2 S2 } ρ S1 W else N.nx ρ S1) W
  | .for_ t it b => fun N ρ S W => wI Γ it ρ S (fun ds src S1 => forS (wT Γ t) (wZs b) src N W ds ρ S1) W
  | .rz k => fun _ ρ S W => W k none ρ S
  | .rzf k e => fun _ ρ S W => wE Γ e ρ S (fun d S1 => W k (some d) ρ S1) W
  | .tr b k n y => fun N ρ S W => wZs b N ρ S (fun j f ρ1 S1 => if subK j k = true then ∀ a, S1 a = none → N.nx ((ρ1.set y (some (.ref a))).set n none) (S1.up a (.exc j f)) else W j f ρ1 S1)
  | .tr2 b k n y z => fun N ρ S W => wZs b N ρ S (fun j f ρ1 S1 => if subK j k = true then ∀ a, S1 a = none → N.nx (((ρ1.set y (some (.ref a))).set z (some .non)).set n none) (S1.up a (.exc j f)) else W j f ρ1 S1)
  | .tr3 b k n y z t => fun N ρ S W => wZs b N ρ S (fun j f ρ1 S1 => if subK j k = true then ∀ a, S1 a = none → N.nx (((ρ1.set y (some (.ref a))).set z (some (.tup [.str t]))).set n none) (S1.up a (.exc j f)) else W j f ρ1 S1)
  | .pass => fun N ρ S _ => N.nx ρ S
  | .cont => fun N ρ S _ => N.ct ρ S
  | .brk => fun N ρ S _ => N.bk ρ S
def wZs : List Z → AS
  | [] => fun N ρ S _ => N.nx ρ S
  | z :: zs => fun N ρ S W => wZ z { N with nx := fun ρ1 S1 => wZs zs N ρ1 S1 W } ρ S W
end
end
end Sd
namespace Sd
open PySem PySem.Spec PyProof.Rows L2
section
variable {X : Cx} {Wh : WX} {Γ : Gam} {A B C : AE} {As : AA} {a b e : Expr} {es : List Expr} {pos : Pos}
theorem lk_some : ∀ {ρ : DSt} {i : Nat} {d : D}, lk ρ i = some d → ρ[i]? = some (some d)
  | [], _, _, h => by cases h
  | x :: _, 0, d, h => by
    have h' : x = some d := h
    rw [h']
    rfl
  | _ :: r, i + 1, d, h => by
    have h' : lk r i = some d := h
    simpa using lk_some h'
theorem l_var {i : Nat} {x : Str} (hN : X.N[i]? = some x) (hv : Vis X.env.scope x) (hd : (x == ("__debug__" : Str)) = false) (hcd : (x == ("__classdict__" : Str)) = false) : PE X (.Name x pos) (LE X.K Wh (wE Γ (.var i))) :=
  PE.imp (pe_var hN hv hd hcd) fun σ H Q ⟨ρ, S, W, P, se, wl, pl, h⟩ => by
    simp only [wE] at h
    split at h
    · rename_i d e
      obtain ⟨v, h1, h2⟩ := se.loc i d (lk_some e)
      exact ⟨v, h1, pl.now h se.sto h2⟩
    · exact h.elim
theorem l_c {d : D} {v : V} (hp : PE X e (tC v)) (hr : ∀ H, Rp X.K H d v) : PE X e (LE X.K Wh (wE Γ (.c d))) :=
  PE.imp hp fun σ H Q ⟨ρ, S, W, P, se, wl, pl, h⟩ => pl.now (by simpa only [wE] using h) se.sto (hr H)
theorem l_op {o : Operator} (ha : PE X a (LE X.K Wh A)) (hb : PE X b (LE X.K Wh B)) : PE X (.BinOp a o b pos) (LE X.K Wh fun ρ S P W => A ρ S (fun x S1 => B ρ S1 (fun y S2 => opS o x y S2 P) W) W) := by
  obtain ⟨r, hr, har⟩ := op_all (X := X) o
  refine PE.imp (pe_op hr ha hb) fun σ H Q ⟨ρ, S, W, P, se, wl, pl, h⟩ => ?_
  exact ⟨ρ, S, W, _, se, wl, fun x S1 h1 v H1 k1 s1 r1 => ⟨ρ, S1, W, _, se.at k1 s1, wl.at k1, fun y S2 h2 u H2 k2 s2 r2 => har _ _ _ _ h2 _ _ _ _ s2 (Rp.kp k2 _ r1) r2 (pl.at (k1.trans k2)), h1⟩, h⟩
theorem l_cmp {o : CmpOp} (hu : X.A.units + 65 < cLine) (ha : PE X a (LE X.K Wh A)) (hb : PE X b (LE X.K Wh B)) (hm : behindInMarks o b = false) : PE X (.Compare a [o] [b] pos) (LE X.K Wh fun ρ S P W => A ρ S (fun x S1 => B ρ S1 (fun y S2 => cmpS o x y S2 P) W) W) := by
  obtain ⟨r, hr, har⟩ := cmp_all (X := X) hu o
  refine PE.imp (pe_cmpR hr ha hb hm) fun σ H Q ⟨ρ, S, W, P, se, wl, pl, h⟩ => ?_
  exact ⟨ρ, S, W, _, se, wl, fun x S1 h1 v H1 k1 s1 r1 => ⟨ρ, S1, W, _, se.at k1 s1, wl.at k1, fun y S2 h2 u H2 k2 s2 r2 => har _ _ _ _ h2 _ _ _ _ s2 (Rp.kp k2 _ r1) r2 (pl.at (k1.trans k2)), h1⟩, h⟩
theorem l_test (ha : PE X a (LE X.K Wh A)) (he : ∀ whole, isTrue a X.env whole = (do let v ← whole; standAt a.pos; holding [v] (truthy v))) : PT X a (LT X.K Wh (aTru A)) :=
  PT.imp (pt_truth ha he) fun σ H Q ⟨ρ, S, W, P, se, wl, pl, h⟩ => ⟨ρ, S, W, _, se, wl, fun d S1 h1 v H1 k1 s1 r1 => by
    split at h1
    · rename_i b eb
      exact ⟨b, tru_abs s1 r1 eb, pl b S1 h1 H1 k1 s1⟩
    · exact h1.elim, h⟩
theorem cmpS_bl {o : CmpOp} {x y : D} {S : Sto} {P : PD} (h : cmpS o x y S P) : ∃ b, P (.bl b) S ∧ ∀ P' : PD, P' (.bl b) S → cmpS o x y S P' := by
  cases o <;> cases x <;> cases y <;> first
    | exact (show False from h).elim
    | exact ⟨_, h, fun _ q => q⟩
    | exact ⟨_, h.2.2, fun _ q => ⟨h.1, h.2.1, q⟩⟩
    | (simp only [cmpS] at h ⊢
       split at h
       · exact ⟨_, h, fun _ q => q⟩
       · first
         | exact h.elim
         | (simp only [lenS] at h ⊢
            split at h
            · exact ⟨_, h.2, fun _ q => ⟨h.1, q⟩⟩
            · exact h.elim)
         | (simp only [dinS] at h ⊢
            split at h
            · split at h
              · exact ⟨_, h, fun _ q => q⟩
              · exact h.elim
            · exact ⟨_, h, fun _ q => q⟩
            · exact h.elim))
theorem l_cmpT {o : CmpOp} (hu : X.A.units + 65 < cLine) (ha : PE X a (LE X.K Wh A)) (hb : PE X b (LE X.K Wh B)) (hm : behindInMarks o b = false) : PT X (.Compare a [o] [b] pos) (LT X.K Wh (aTru fun ρ S P W => A ρ S (fun x S1 => B ρ S1 (fun y S2 => cmpS o x y S2 P) W) W)) := by
  obtain ⟨r, hr, har⟩ := cmp_all (X := X) hu o
  refine PT.imp (pt_cmpR hr ha hb hm) fun σ H Q ⟨ρ, S, W, P, se, wl, pl, h⟩ => ?_
  refine ⟨ρ, S, W, _, se, wl, fun x S1 h1 v H1 k1 s1 r1 => ⟨ρ, S1, W, _, se.at k1 s1, wl.at k1, fun y S2 h2 u H2 k2 s2 r2 => ?_, h1⟩, h⟩
  obtain ⟨b, q1, q2⟩ := cmpS_bl h2
  refine har _ _ _ (fun d S3 => d = .bl b ∧ P b S3) (q2 _ ⟨rfl, q1⟩) _ _ _ _ s2 (Rp.kp k2 _ r1) r2 fun d S3 h3 z H3 k3 s3 r3 => ?_
  obtain ⟨rfl, h3⟩ := h3
  cases r3
  exact ⟨b, rfl, pl b S3 h3 H3 ((k1.trans k2).trans k3) s3⟩
end
end Sd
namespace Sd
open PySem PySem.Spec PyProof.Rows L2
section
variable {X : Cx} {Wh : WX} {Γ : Gam} {A B C : AE} {As : AA} {a b c e : Expr} {es rest : List Expr} {pos : Pos}
def aAn (A B : AE) : AE := fun ρ S P W => A ρ S (fun x S1 => match truB S1 x with
    | some true => B ρ S1 P W
    | some false => P x S1
    | none => False) W
def aRo (A B : AE) : AE := fun ρ S P W => A ρ S (fun x S1 => match truB S1 x with
    | some true => P x S1
    | some false => B ρ S1 P W
    | none => False) W
def aNo (A : AE) : AE := fun ρ S P W => aTru A ρ S (fun b S1 => P (.bl (!b)) S1) W
def aIte (T A B : AE) : AE := fun ρ S P W => aTru T ρ S (fun c S1 => if c = true then A ρ S1 P W else B ρ S1 P W) W
theorem l_an (ha : PE X a (LE X.K Wh A)) (hb : PE X (.BoolOp .And (b :: rest) pos) (LE X.K Wh B)) : PE X (.BoolOp .And (a :: b :: rest) pos) (LE X.K Wh (aAn A B)) :=
  PE.imp (pe_andT ha hb) fun σ H Q ⟨ρ, S, W, P, se, wl, pl, h⟩ => ⟨ρ, S, W, _, se, wl, fun x S1 h1 v H1 k1 s1 r1 => by
    split at h1
    · rename_i e1
      exact ⟨true, tru_abs s1 r1 e1, ρ, S1, W, P, se.at k1 s1, wl.at k1, pl.at k1, h1⟩
    · rename_i e1
      exact ⟨false, tru_abs s1 r1 e1, pl _ _ h1 v H1 k1 s1 r1⟩
    · exact h1.elim, h⟩
theorem l_ro (ha : PE X a (LE X.K Wh A)) (hb : PE X (.BoolOp .Or (b :: rest) pos) (LE X.K Wh B)) : PE X (.BoolOp .Or (a :: b :: rest) pos) (LE X.K Wh (aRo A B)) :=
  PE.imp (pe_orT ha hb) fun σ H Q ⟨ρ, S, W, P, se, wl, pl, h⟩ => ⟨ρ, S, W, _, se, wl, fun x S1 h1 v H1 k1 s1 r1 => by
    split at h1
    · rename_i e1
      exact ⟨true, tru_abs s1 r1 e1, pl _ _ h1 v H1 k1 s1 r1⟩
    · rename_i e1
      exact ⟨false, tru_abs s1 r1 e1, ρ, S1, W, P, se.at k1 s1, wl.at k1, pl.at k1, h1⟩
    · exact h1.elim, h⟩
theorem l_anT (ha : PT X a (LT X.K Wh (aTru A))) (hb : PW X (.BoolOp .And (b :: rest) pos) (LT X.K Wh (aTru B))) : PW X (.BoolOp .And (a :: b :: rest) pos) (LT X.K Wh (aTru (aAn A B))) :=
  PW.imp (pw_and ha hb) fun σ H Q ⟨ρ, S, W, P, se, wl, pl, h⟩ => by
    refine ⟨ρ, S, W, fun b S1 => if b = true then aTru B ρ S1 P W else P false S1, se, wl, fun b S1 h1 H1 k1 s1 => ?_, ?_⟩
    · cases b with
      | true => exact ⟨ρ, S1, W, P, se.at k1 s1, wl.at k1, pl.at k1, h1⟩
      | false => exact pl _ _ h1 H1 k1 s1
    · unfold aTru aAn at h
      unfold aTru
      have e : (fun (d : D) (S1 : Sto) => match truB S1 d with
        | some b => if b = true then B ρ S1 (fun d S1 => match truB S1 d with
            | some b => P b S1
            | none => False) W else P false S1
        | none => False) = (fun x S1 => match truB S1 x with
        | some true => B ρ S1 (fun d S1 => match truB S1 d with
          | some b => P b S1
          | none => False) W
        | some false => (match truB S1 x with
          | some b => P b S1
          | none => False)
        | none => False) := funext fun x => funext fun S1 => by
          cases q : truB S1 x with
          | none => rfl
          | some b => cases b <;> rfl
      exact (congrArg (fun q => A ρ S q W) e).mpr h
theorem l_roT (ha : PT X a (LT X.K Wh (aTru A))) (hb : PW X (.BoolOp .Or (b :: rest) pos) (LT X.K Wh (aTru B))) : PW X (.BoolOp .Or (a :: b :: rest) pos) (LT X.K Wh (aTru (aRo A B))) :=
  PW.imp (pw_or ha hb) fun σ H Q ⟨ρ, S, W, P, se, wl, pl, h⟩ => by
    refine ⟨ρ, S, W, fun b S1 => if b = true then P true S1 else aTru B ρ S1 P W, se, wl, fun b S1 h1 H1 k1 s1 => ?_, ?_⟩
    · cases b with
      | false => exact ⟨ρ, S1, W, P, se.at k1 s1, wl.at k1, pl.at k1, h1⟩
      | true => exact pl _ _ h1 H1 k1 s1
    · unfold aTru aRo at h
      unfold aTru
      have e : (fun (d : D) (S1 : Sto) => match truB S1 d with
        | some b => if b = true then P true S1 else B ρ S1 (fun d S1 => match truB S1 d with
            | some b => P b S1
            | none => False) W
        | none => False) = (fun x S1 => match truB S1 x with
        | some true => (match truB S1 x with
          | some b => P b S1
          | none => False)
        | some false => B ρ S1 (fun d S1 => match truB S1 d with
          | some b => P b S1
          | none => False) W
        | none => False) := funext fun x => funext fun S1 => by
          cases q : truB S1 x with
          | none => rfl
          | some b => cases b <;> rfl
      exact (congrArg (fun q => A ρ S q W) e).mpr h
theorem l_no (ha : PE X a (LE X.K Wh A)) : PE X (.UnaryOp .Not a pos) (LE X.K Wh (aNo A)) :=
  PE.imp (pe_notT ha) fun σ H Q ⟨ρ, S, W, P, se, wl, pl, h⟩ => ⟨ρ, S, W, _, se, wl, fun x S1 h1 v H1 k1 s1 r1 => by
    split at h1
    · rename_i b e1
      exact ⟨b, tru_abs s1 r1 e1, pl _ _ h1 _ H1 k1 s1 rfl⟩
    · exact h1.elim, h⟩
theorem l_noT (ha : PT X a (LT X.K Wh (aTru A))) : PT X (.UnaryOp .Not a pos) (LT X.K Wh (aTru (aNo A))) :=
  PT.imp (pt_not ha) fun σ H Q ⟨ρ, S, W, P, se, wl, pl, h⟩ => ⟨ρ, S, W, fun b S1 => P (!b) S1, se, wl, fun b S1 h1 H1 k1 s1 => pl _ _ h1 H1 k1 s1, h⟩
theorem l_ite (hc : PT X c (LT X.K Wh (aTru C))) (ha : PE X a (LE X.K Wh A)) (hb : PE X b (LE X.K Wh B)) : PE X (.IfExp c a b pos) (LE X.K Wh (aIte C A B)) :=
  PE.imp (pe_ifExp hc ha hb) fun σ H Q ⟨ρ, S, W, P, se, wl, pl, h⟩ => ⟨ρ, S, W, _, se, wl, fun b S1 h1 H1 k1 s1 => by
    cases b with
    | true => exact ⟨ρ, S1, W, P, se.at k1 s1, wl.at k1, pl.at k1, h1⟩
    | false => exact ⟨ρ, S1, W, P, se.at k1 s1, wl.at k1, pl.at k1, h1⟩, h⟩
theorem l_iteT (hc : PT X c (LT X.K Wh (aTru C))) (ha : PT X a (LT X.K Wh (aTru A))) (hb : PT X b (LT X.K Wh (aTru B))) : PT X (.IfExp c a b pos) (LT X.K Wh (aTru (aIte C A B))) := by
  refine PT.imp (t := fun σ H Q => LT X.K Wh (aTru C) σ H fun k H1 => if k = true then LT X.K Wh (aTru A) σ H1 Q else LT X.K Wh (aTru B) σ H1 Q) ⟨fun pins s σ H Q I h => ?_⟩ fun σ H Q ⟨ρ, S, W, P, se, wl, pl, h⟩ => ⟨ρ, S, W, _, se, wl, fun b S1 h1 H1 k1 s1 => by
    cases b with
    | true => exact ⟨ρ, S1, W, P, se.at k1 s1, wl.at k1, pl.at k1, h1⟩
    | false => exact ⟨ρ, S1, W, P, se.at k1 s1, wl.at k1, pl.at k1, h1⟩, h⟩
  show wpAny _ _ (isTrue (.IfExp c a b pos) X.env _) _ _ _
  unfold PySem.isTrue
  refine wpAny_bind (thn (hc.run pins s σ H _ I h) fun k s1 ⟨H1, I1, q1⟩ => ?_)
  cases k with
  | true => exact ha.run pins s1 σ H1 Q I1 q1
  | false => exact hb.run pins s1 σ H1 Q I1 q1
theorem l_neg (ha : PE X a (LE X.K Wh A)) : PE X (.UnaryOp .USub a pos) (LE X.K Wh fun ρ S P W => A ρ S (fun x S1 => match x with
    | .int i => P (.int (-i)) S1
    | _ => False) W) :=
  PE.imp (pe_un un_neg ha) fun σ H Q ⟨ρ, S, W, P, se, wl, pl, h⟩ => ⟨ρ, S, W, _, se, wl, fun x S1 h1 v H1 k1 s1 r1 => by
    cases x <;> (try exact (show False from h1).elim)
    cases r1
    exact ⟨_, rfl, pl _ _ h1 _ H1 k1 s1 rfl⟩, h⟩
def aChain (o o' : CmpOp) (A B C : AE) : AE := fun ρ S P W => A ρ S (fun x S1 => B ρ S1 (fun y S2 => cmpS o x y S2 (fun z S3 => match z with
    | .bl true => C ρ S3 (fun u S4 => cmpS o' y u S4 P) W
    | .bl false => P (.bl false) S3
    | _ => False)) W) W
theorem l_chain {o o' : CmpOp} (hu : X.A.units + 65 < cLine) (ha : PE X a (LE X.K Wh A)) (hb : PE X b (LE X.K Wh B)) (hc : PE X c (LE X.K Wh C)) (hm : behindInMarks o b = false) (hm' : behindInMarks o' c = false) :
    PE X (.Compare a [o, o'] [b, c] pos) (LE X.K Wh (aChain o o' A B C)) := by
  obtain ⟨r, hr, har⟩ := cmp_all (X := X) hu o
  obtain ⟨r', hr', har'⟩ := cmp_all (X := X) hu o'
  refine PE.imp (pe_chain hr hr' ha hb hc (hm := hm')) fun σ H Q ⟨ρ, S, W, P, se, wl, pl, h⟩ => ?_
  refine ⟨ρ, S, W, _, se, wl, fun x S1 h1 v H1 k1 s1 r1 => ⟨ρ, S1, W, _, se.at k1 s1, wl.at k1, fun y S2 h2 u H2 k2 s2 r2 => ?_, h1⟩, h⟩
  refine har _ _ _ _ h2 _ _ _ _ s2 (Rp.kp k2 _ r1) r2 fun z S3 h3 zv H3 k3 s3 r3 => ?_
  cases z <;> (try exact (show False from h3).elim)
  rename_i bb
  cases r3
  have k13 := (k1.trans k2).trans k3
  cases bb with
  | true => exact ⟨true, rfl, ρ, S3, W, _, se.at k13 s3, wl.at k13, fun t S4 h4 tv H4 k4 s4 r4 => har' _ _ _ _ h4 _ _ _ _ s4 (Rp.kp (k3.trans k4) _ r2) r4 (pl.at (k13.trans k4)), h3⟩
  | false => exact ⟨false, rfl, pl _ _ h3 _ H3 k13 s3 rfl⟩
theorem l_chainT {o o' : CmpOp} (hu : X.A.units + 65 < cLine) (ha : PE X a (LE X.K Wh A)) (hb : PE X b (LE X.K Wh B)) (hc : PE X c (LE X.K Wh C)) (hm : behindInMarks o b = false) (hm' : behindInMarks o' c = false) :
    PT X (.Compare a [o, o'] [b, c] pos) (LT X.K Wh (aTru (aChain o o' A B C))) := by
  obtain ⟨r, hr, har⟩ := cmp_all (X := X) hu o
  obtain ⟨r', hr', har'⟩ := cmp_all (X := X) hu o'
  refine PT.imp (pt_chain hr hr' ha hb hc (hm := hm')) fun σ H Q ⟨ρ, S, W, P, se, wl, pl, h⟩ => ?_
  refine ⟨ρ, S, W, _, se, wl, fun x S1 h1 v H1 k1 s1 r1 => ⟨ρ, S1, W, _, se.at k1 s1, wl.at k1, fun y S2 h2 u H2 k2 s2 r2 => ?_, h1⟩, h⟩
  refine har _ _ _ _ h2 _ _ _ _ s2 (Rp.kp k2 _ r1) r2 fun z S3 h3 zv H3 k3 s3 r3 => ?_
  cases z <;> (try exact (show False from h3).elim)
  rename_i bb
  cases r3
  have k13 := (k1.trans k2).trans k3
  cases bb with
  | true =>
    refine ⟨true, rfl, ρ, S3, W, _, se.at k13 s3, wl.at k13, fun t S4 h4 tv H4 k4 s4 r4 => ?_, h3⟩
    obtain ⟨b, q1, q2⟩ := cmpS_bl h4
    refine har' _ _ _ (fun d S5 => d = .bl b ∧ P b S5) (q2 _ ⟨rfl, q1⟩) _ _ _ _ s4 (Rp.kp (k3.trans k4) _ r2) r4 fun d S5 h5 zz H5 k5 s5 r5 => ?_
    obtain ⟨rfl, h5⟩ := h5
    cases r5
    exact ⟨b, rfl, pl b S5 h5 H5 ((k13.trans k4).trans k5) s5⟩
  | false => exact ⟨false, rfl, false, rfl, pl _ _ h3 H3 k13 s3⟩
theorem l_nil : PA X [] (LA X.K Wh fun _ S P _ => P [] S) := PA.imp pa_nil fun σ H Q ⟨ρ, S, W, P, se, wl, pl, h⟩ => pl _ _ h _ H (Kp.refl H) se.sto rfl
theorem l_cons (ha : PE X e (LE X.K Wh A)) (hr : PA X es (LA X.K Wh As)) (hs : starEach (e :: es) X.env = (false, eval e X.env) :: starEach es X.env) :
    PA X (e :: es) (LA X.K Wh fun ρ S P W => A ρ S (fun x S1 => As ρ S1 (fun xs S2 => P (x :: xs) S2) W) W) :=
  PA.imp (pa_cons ha hr hs) fun σ H Q ⟨ρ, S, W, P, se, wl, pl, h⟩ => ⟨ρ, S, W, _, se, wl, fun x S1 h1 v H1 k1 s1 r1 => ⟨ρ, S1, W, _, se.at k1 s1, wl.at k1, fun xs S2 h2 vs H2 k2 s2 r2 => pl _ _ h2 _ H2 (k1.trans k2) s2 (Rps.cons (Rp.kp k2 _ r1) r2), h1⟩, h⟩
theorem l_tp {x1} (h : PA X es (LA X.K Wh As)) : PE X (.Tuple es x1 pos) (LE X.K Wh fun ρ S P W => As ρ S (fun ds S1 => ds.length ≤ sizeLine ∧ P (.tup ds) S1) W) :=
  PE.imp (pe_tup h) fun σ H Q ⟨ρ, S, W, P, se, wl, pl, h⟩ => ⟨ρ, S, W, _, se, wl, fun ds S1 h1 vs H1 k1 s1 r1 => ⟨by rw [r1.length]; exact h1.1, fun p hp => (pl.at k1).newT s1 r1 hp h1.2⟩, h⟩
theorem l_ls (h : PA X es (LA X.K Wh As)) : PE X (.List es pos) (LE X.K Wh fun ρ S P W => As ρ S (fun ds S1 => ds.length ≤ sizeLine ∧ ∀ p, S1 p = none → P (.ref p) (S1.up p (.lst true ds))) W) :=
  PE.imp (pe_lst h) fun σ H Q ⟨ρ, S, W, P, se, wl, pl, h⟩ => ⟨ρ, S, W, _, se, wl, fun ds S1 h1 vs H1 k1 s1 r1 => ⟨by rw [r1.length]; exact h1.1, fun p hp => (pl.at k1).newL s1 r1 hp h1.2⟩, h⟩
theorem l_ix (hu : X.A.units + 65 < cLine) (ha : PE X a (LE X.K Wh A)) (hb : PE X b (LE X.K Wh B)) (hs : PlainIx b) : PE X (.Subscript a b pos) (LE X.K Wh fun ρ S P W => A ρ S (fun x S1 => B ρ S1 (fun y S2 => ixS x y S2 P) W) W) :=
  PE.imp (pe_ix (ix_seq.or ((ix_dct (by omega)).or (ix_int (by omega)))) ha hb hs) fun σ H Q ⟨ρ, S, W, P, se, wl, pl, h⟩ =>
    ⟨ρ, S, W, _, se, wl, fun x S1 h1 v H1 k1 s1 r1 => ⟨ρ, S1, W, _, se.at k1 s1, wl.at k1, fun y S2 h2 u H2 k2 s2 r2 => ix_abs _ _ _ _ h2 _ _ _ _ s2 (Rp.kp k2 _ r1) r2 (pl.at (k1.trans k2)), h1⟩, h⟩
def LO (K : PySem.W.Frag) (Wh : WX) (A : AE) : TO := fun σ H Q => ∃ ρ S W P, Sees K H σ ρ S ∧ WLe K H W Wh ∧ (∀ d S1, P d S1 → ∀ H1, Kp H H1 → StoOk K H1 S1 → partS d fun o => Q o H1) ∧ A ρ S P W
theorem l_part {o : Expr} (ha : PE X o (LE X.K Wh A)) : PO X (some o) (fun σ H Q => LO X.K Wh (fun ρ S P W => A ρ S (fun d S1 => match d with
    | .int i => P (.int i) S1
    | _ => False) W) σ H Q) := by
  have h := po_some ha
  refine ⟨fun pins s σ H Q I hw => h.run pins s σ H Q I ?_⟩
  obtain ⟨ρ, S, W, P, se, wl, pl, hw⟩ := hw
  refine ⟨ρ, S, W, _, se, wl, fun d S1 h1 v H1 k1 s1 r1 => ?_, hw⟩
  cases d <;> (try exact (show False from h1).elim)
  cases r1
  exact ⟨_, rfl, pl _ _ h1 H1 k1 s1⟩
theorem l_nopart {d : D} (hd : d = .non) : PO X none (LO X.K Wh fun _ S P _ => P d S) := by
  have h := po_none (X := X)
  refine ⟨fun pins s σ H Q I hw => h.run pins s σ H Q I ?_⟩
  obtain ⟨ρ, S, W, P, se, wl, pl, hw⟩ := hw
  subst hd
  exact pl _ _ hw H (Kp.refl H) se.sto
end
end Sd
namespace Sd
open PySem PySem.Spec PyProof.Rows L2 HT
section
variable {prog : Program} {w : World} {A : Around} {E : Value → Shared → Prop} {s : Shared}
theorem sliceApplied_st {sl : Addr} {vl vu vs : Value} {lo : Option Int} {k : Int} {n : Nat} {Q : Int × Int × Nat → Shared → Prop} (hs : s.heap.IsSliceOf sl vl vu vs) (pl : IsPart vl lo) (pu : IsPart vu none) (ps : IsPart vs (some k)) (hk : k ≠ 0)
    (h : Q ((Builtin.Slice.sliceAdjust lo none k n).1, k, Builtin.Slice.slicePlaces (Builtin.Slice.sliceAdjust lo none k n).1 (Builtin.Slice.sliceAdjust lo none k n).2 k) s) : wpAny (model prog w) A (Builtin.Slice.sliceApplied (.ref sl) (pure (n : Int))) Q E s := by
  obtain ⟨os, hos, hcs, hds⟩ := id hs
  unfold Builtin.Slice.sliceApplied Builtin.Slice.sliceFields
  refine wpAny_bind (wpAny_bind (wpAny_field hos hds (x := vl) rfl (wpAny_bind (wpAny_field hos hds (x := vu) rfl (wpAny_bind (wpAny_field hos hds (x := vs) rfl (wpAny_pure ?_)))))))
  refine wpAny_bind (slicePart_ ps ?_)
  show wpAny _ _ (if (k == 0) = true then _ else _) _ _ s
  rw [if_neg (by simpa using hk)]
  exact wpAny_bind (slicePart_ pl (wpAny_bind (slicePart_ pu (wpAny_bind (wpAny_pure (wpAny_pure h))))))
theorem getItem_tuple_st {t sl : Addr} {items : Array Value} {vl vu vs : Value} {lo : Option Int} {k : Int} {Q : Value → Shared → Prop} (ht : IsTup s.heap t items) (hs : s.heap.IsSliceOf sl vl vu vs) (pl : IsPart vl lo) (pu : IsPart vu none) (ps : IsPart vs (some k)) (hk : k ≠ 0) (hk1 : k ≠ 1)
    (h : Q (.ref s.heap.objs.size) { s with heap := s.heap.push { cls := .type "tuple", data := .seq (pickT items.toList lo k).toArray } })
    (hsz : (pickT items.toList lo k).length ≤ sizeLine) : wpAny (model prog w) A (getItem (.ref t) (.ref sl)) Q E s := by
  have htake : sizeOk (.seq (pickT items.toList lo k).toArray) := by
    show (pickT items.toList lo k).toArray.size ≤ sizeLine
    rw [List.size_toArray]
    exact hsz
  obtain ⟨os, hos, hcs, hds⟩ := id hs
  have hTs : s.TypeIs (.ref sl) "slice" := ⟨os, hos, hcs⟩
  unfold getItem
  try with_reducible refine wpAny_holding ?_
  first | refine wpAny_bind (wpAny_pure ?_) | skip
  refine wpAny_bind (wpAny_sequenceKey ht.typeIs (by decide) ?_)
  refine wpAny_bind (wpAny_callSpecial?_slot (name := Str.ofString "__getitem__") ht.typeIs PyProof.Rows.slot_tuple_getitem
    (wpAny_call_entry PyProof.Rows.slot_tuple_getitem ht.typeIs entry_tuple_getitem ?_ (args_tuple_getitem _ _)))
  show wpAny _ _ (Builtin.Tuple.tupleItemsOf (.ref t) >>= _) _ _ s
  refine wpAny_bind (tupleItemsOf_ ht ?_)
  refine wpAny_bind (wpAny_typeOf hTs ?_)
  rw [if_pos (by decide)]
  refine wpAny_bind (sliceApplied_st hs pl pu ps hk ?_)
  have hno : ¬ (((Builtin.Slice.sliceAdjust lo none k items.size).1 == 0 && k == 1 && (Builtin.Slice.slicePlaces (Builtin.Slice.sliceAdjust lo none k items.size).1 (Builtin.Slice.sliceAdjust lo none k items.size).2 k) == items.size) = true) := by
    intro q
    rw [Bool.and_eq_true, Bool.and_eq_true] at q
    exact hk1 (eq_of_beq q.1.2)
  have hp : ((List.range (Builtin.Slice.slicePlaces (Builtin.Slice.sliceAdjust lo none k items.size).1 (Builtin.Slice.sliceAdjust lo none k items.size).2 k)).filterMap fun (m : Nat) => items[((Builtin.Slice.sliceAdjust lo none k items.size).1 + (m : Int) * k).toNat]?) = pickT items.toList lo k := by
    unfold pickT
    rw [Array.length_toList]
    congr 1
    funext m
    rw [Array.getElem?_toList]
  show wpAny _ _ (if ((Builtin.Slice.sliceAdjust lo none k items.size).1 == 0 && k == 1 && (Builtin.Slice.slicePlaces (Builtin.Slice.sliceAdjust lo none k items.size).1 (Builtin.Slice.sliceAdjust lo none k items.size).2 k) == items.size) = true then _ else _) _ _ s
  rw [if_neg hno, hp]
  first
    | exact wpAny_bind (m := Builtin.Tuple.tupleExact _) (wpAny_newObj_type (wpAny_pure ⟨_, rfl, wpAny_pure h⟩) htake)
    | exact wpAny_bind (m := Builtin.Tuple.tupleExact _) (wpAny_newObj_type (wpAny_bind (wpAny_pure (wpAny_pure ⟨_, rfl, wpAny_pure h⟩))) htake)
    | exact wpAny_bind (wpAny_bind (m := Builtin.Tuple.tupleExact _) (wpAny_newObj_type (wpAny_pure (wpAny_pure ⟨_, rfl, wpAny_pure h⟩)) htake))
    | exact wpAny_bind (wpAny_bind (m := Builtin.Tuple.tupleExact _) (wpAny_newObj_type (wpAny_pure ⟨_, rfl, wpAny_pure h⟩) htake))
end
theorem pick_vals_aux {xs : List V} {us : List Value} (r : Vals xs us) (f : Nat → Nat) : ∀ ms : List Nat, Vals (ms.filterMap fun m => xs[f m]?) (ms.filterMap fun m => us[f m]?)
  | [] => .nil
  | m :: ms => by
    cases e : xs[f m]? with
    | none =>
      rw [List.filterMap_cons, List.filterMap_cons, e, r.none_of e]
      exact pick_vals_aux r f ms
    | some x =>
      obtain ⟨u, e2, ru⟩ := r.get e
      rw [List.filterMap_cons, List.filterMap_cons, e, e2]
      exact .cons ru (pick_vals_aux r f ms)
theorem pick_vals {xs : List V} {us : List Value} (r : Vals xs us) (lo : Option Int) (k : Int) : Vals (pickT xs lo k) (pickT us lo k) := by
  unfold pickT
  rw [r.length]
  exact pick_vals_aux r _ _
theorem pick_rps_aux {K : PySem.W.Frag} {H : Hp} {l : List D} {vs : List V} (r : Rps K H l vs) (f : Nat → Nat) : ∀ ms : List Nat, Rps K H (ms.filterMap fun m => l[f m]?) (ms.filterMap fun m => vs[f m]?)
  | [] => rfl
  | m :: ms => by
    cases e : l[f m]? with
    | none =>
      have e2 : vs[f m]? = none := by
        rw [List.getElem?_eq_none_iff] at e ⊢
        rw [r.length]
        exact e
      rw [List.filterMap_cons, List.filterMap_cons, e, e2]
      exact pick_rps_aux r f ms
    | some x =>
      obtain ⟨u, e2, ru⟩ := r.get e
      rw [List.filterMap_cons, List.filterMap_cons, e, e2]
      exact Rps.cons ru (pick_rps_aux r f ms)
theorem pick_rps {K : PySem.W.Frag} {H : Hp} {l : List D} {vs : List V} (r : Rps K H l vs) (lo : Option Int) (k : Int) : Rps K H (pickT l lo k) (pickT vs lo k) := by
  unfold pickT
  rw [r.length]
  exact pick_rps_aux r _ _
section
variable {X : Cx} {Wh : WX} {A : AE} {a e : Expr} {pos : Pos}
def tPt (o : Option Int) : TO := fun _ H Q => Q o H
def tSt (K : PySem.W.Frag) (te : TE) (lo : Option Int) (k : Int) : TE := fun σ H Q => te σ H fun x H1 => ∃ a xs, x = .ref a ∧ ((SqL K H1 a xs ∧ lo = none ∧ k = -1 ∧ ∀ p, H1 p = none → Q (.ref p) (upd H1 p (.lst xs.reverse))) ∨ (SqT K H1 a xs ∧ k ≠ 0 ∧ k ≠ 1 ∧ (pickT xs lo k).length ≤ sizeLine ∧ ∀ p, H1 p = none → Q (.ref p) (upd H1 p (.tup (pickT xs lo k)))))
theorem pe_st {te : TE} {lx : Option Expr} {sx : Expr} {lo : Option Int} {k : Int} {p3 : Pos} (he : PE X e te) (hlo : PO X lx (tPt lo)) (hst : PO X (some sx) (tPt (some k))) : PE X (.Subscript e (.Slice lx none (some sx) p3) pos) (tSt X.K te lo k) := by
  refine ⟨fun pins s σ H Q I h => ?_⟩
  refine Subscript_ (thn (he.run pins s σ H _ I h) fun v s1 ⟨x, H1, I1, r1, q1⟩ => ?_)
  obtain ⟨a, xs, ex, q1⟩ := q1
  subst ex
  cases r1
  refine wpAny_Slice (thn (hlo.run pins s1 σ H1 (fun o H2 => o = lo ∧ H2 = H1) I1 ⟨rfl, rfl⟩) fun vl s2 ⟨l, H2, I2, pl, el, e2⟩ => ?_)
  subst el e2
  refine thn (po_none.run pins s2 σ H2 (fun o H3 => o = none ∧ H3 = H2) I2 ⟨rfl, rfl⟩) fun vu s3 ⟨u, H3, I3, pu, eu, e3⟩ => ?_
  subst eu e3
  refine thn (hst.run pins s3 σ H3 (fun o H4 => o = some k ∧ H4 = H3) I3 ⟨rfl, rfl⟩) fun vs s4 ⟨o, H4, I4, ps, eo, e4⟩ => ?_
  subst eo e4
  have I5 : Inv X pins σ H4 { s4 with heap := s4.heap.push { cls := .type "slice", data := .fields #[vl, vu, vs] } } := I4.kept (t' := s4.toks) fun b ob q => Heap.get?_push_of_some _ q
  show wpAny (model X.prog X.w) X.A (subscriptTail e (.Slice lx none (some sx) p3) (.ref a) (.ref s4.heap.objs.size)) (EP X pins σ Q) X.xe { s4 with heap := s4.heap.push { cls := .type "slice", data := .fields #[vl, vu, vs] } }
  rcases q1 with ⟨hx, rfl, rfl, q⟩ | ⟨hx, hk0, hk1, hsz, q⟩
  · obtain ⟨its, r, ht, hz⟩ := I5.list hx
    have hlen := r.length
    refine tail_any (ops := [.ref a, .ref s4.heap.objs.size]) ht.isList.typeIs (PySem.slot_list_getitem.lookup) ?_ (by with_unfolding_all rfl)
    refine wpAny_getItem_list_slice ht.isList (Heap.IsSliceOf.new _ vl vu vs) pl pu ps (by decide) ?_ (by rw [List.size_toArray]; omega)
    rw [PySem.W.krv_pick]
    refine ⟨.ref _, _, I5.laid (t' := s4.toks) (o := .lst xs.reverse) (fun b ob q => Heap.get?_push_of_some _ q) (Nat.le_refl _) ?_, rfl, q _ (I5.hok.fresh (Nat.le_refl _))⟩
    exact ⟨by rw [List.length_reverse]; exact hz, _, 0, r.reverse, Heap.get?_push_size _ rfl⟩
  · obtain ⟨its, r, ht, hz⟩ := I5.tuple hx
    have pv := pick_vals r l k
    have el : (pickT its l k).length ≤ sizeLine := by rw [← pv.length]; exact hsz
    refine tail_any (ops := [.ref a, .ref s4.heap.objs.size]) ht.typeIs (PyProof.Rows.slot_tuple_getitem.lookup) ?_ (by with_unfolding_all rfl)
    refine getItem_tuple_st ht (Heap.IsSliceOf.new _ vl vu vs) pl pu ps hk0 hk1 ?_ (by simpa using el)
    refine ⟨.ref _, _, I5.laid (t' := s4.toks) (o := .tup (pickT xs l k)) (fun b ob q => Heap.get?_push_of_some _ q) (Nat.le_refl _) ?_, rfl, q _ (I5.hok.fresh (Nat.le_refl _))⟩
    exact ⟨hsz, _, pv, IsTup.new _ _⟩
theorem Rps.rev' {K : PySem.W.Frag} {H : Hp} : ∀ {l : List D} {vs : List V}, Rps K H l vs → Rps K H l.reverse vs.reverse
  | [], vs, r => by
    cases (show vs = [] from r)
    exact rfl
  | d :: l, vs, r => by
    obtain ⟨v, vr, rfl, r1, r2⟩ := r
    rw [List.reverse_cons, List.reverse_cons]
    exact Rps.append (Rps.rev' r2) (Rps.one r1)
theorem l_st {lx : Option Expr} {sx : Expr} {lo : Option Int} {k : Int} {p3 : Pos} (ha : PE X a (LE X.K Wh A)) (hlo : PO X lx (tPt lo)) (hst : PO X (some sx) (tPt (some k))) : PE X (.Subscript a (.Slice lx none (some sx) p3) pos) (LE X.K Wh fun ρ S P W => A ρ S (fun x S1 => stS x lo k S1 P) W) :=
  PE.imp (pe_st ha hlo hst) fun σ H Q ⟨ρ, S, W, P, se, wl, pl, h⟩ => by
    refine ⟨ρ, S, W, _, se, wl, fun x S1 h1 v H1 k1 s1 r1 => ?_, h⟩
    cases x <;> (try exact (show False from h1).elim)
    · rename_i p
      cases r1
      obtain ⟨e1, e2, h'⟩ := (show lo = none ∧ k = -1 ∧ (match S1 p with
        | some (.lst _ l) => ∀ p, S1 p = none → P (.ref p) (S1.up p (.lst true l.reverse))
        | _ => False) from h1)
      split at h'
      · rename_i w l e
        obtain ⟨vs, q1, r1⟩ := s1.rd e
        exact ⟨p, vs, rfl, .inl ⟨q1, e1, e2, fun q hq => (pl.at k1).newL s1 r1.rev' hq h'⟩⟩
      · exact h'.elim
    · rename_i l
      obtain ⟨p, vs, rfl, q, rr⟩ := r1
      obtain ⟨e1, e2, e3, h'⟩ := (show k ≠ 0 ∧ k ≠ 1 ∧ (pickT l lo k).length ≤ sizeLine ∧ P (.tup (pickT l lo k)) S1 from h1)
      have pr := pick_rps rr lo k
      exact ⟨p, vs, rfl, .inr ⟨q, e1, e2, by rw [pr.length]; exact e3, fun p hp => (pl.at k1).newT s1 pr hp h'⟩⟩
theorem po_pt_none : PO X none (tPt none) := ⟨fun pins s σ H Q I h => po_none.run pins s σ H Q I h⟩
theorem po_pt_int {i : Int} {j : Nat} {p : Pos} : PO X (some (.Constant (.int i) j p)) (tPt (some i)) := ⟨fun pins s σ H Q I h => (po_some pe_int).run pins s σ H Q I ⟨i, rfl, h⟩⟩
theorem po_pt_neg {i : Int} {j : Nat} {p p2 : Pos} : PO X (some (.UnaryOp .USub (.Constant (.int i) j p) p2)) (tPt (some (-i))) := ⟨fun pins s σ H Q I h => (po_some (pe_un un_neg pe_int)).run pins s σ H Q I ⟨i, rfl, -i, rfl, h⟩⟩
end
section
variable {X : Cx} {Wh : WX} {Γ : Gam} {A B C : AE} {As : AA} {a b c e : Expr} {es rest : List Expr} {pos : Pos}
theorem sl_abs {K : PySem.W.Frag} {H : Hp} {S : Sto} {P : PD} {Q : VK} {x : D} {v : V} {lo hi : Option Int} (h : slS x lo hi S P) (s : StoOk K H S) (r : Rp K H x v) (pl : PLe K H P Q) : rSlL K v lo hi H Q ∨ (rSlA K v lo hi H Q ∨ rSlS v lo hi H Q) := by
  cases x <;> (try exact (show False from h).elim)
  case str z =>
    cases r
    obtain ⟨h1, h2⟩ := (show z.length ≤ sizeLine ∧ P (.str (cutS z lo hi)) S from h)
    exact .inr (.inr ⟨z, rfl, h1, pl.now h2 s rfl⟩)
  case tup l =>
    obtain ⟨a, vs, rfl, q, rr⟩ := r
    have h' : P (.tup (cutD l lo hi)) S := h
    have hl := rr.length
    refine .inr (.inl ⟨a, vs, rfl, q, fun z => ?_, fun _ p hp => pl.newT s (cut_rps rr lo hi) hp h'⟩)
    have e : cutD l lo hi = l := by
      unfold cutD
      rw [← hl, z.1, z.2, List.drop_zero, Nat.sub_zero]
      exact List.take_of_length_le (by omega)
    rw [e] at h'
    exact pl.now h' s ⟨a, vs, rfl, q, rr⟩
  rename_i p
  cases r
  have h' : (match S p with
    | some (.lst _ l) => ∀ p, S p = none → P (.ref p) (S.up p (.lst true (cutD l lo hi)))
    | _ => False) := h
  split at h'
  · rename_i w l e
    obtain ⟨vs, q1, r1⟩ := s.rd e
    exact .inl ⟨p, vs, rfl, q1, fun q hq => pl.newL s (cut_rps r1 lo hi) hq h'⟩
  · exact h'.elim
theorem l_sl {lo hi : Option Expr} {p2 : Pos} (ha : PE X a (LE X.K Wh A)) (hl : PO X lo (LO X.K Wh B)) (hh : PO X hi (LO X.K Wh C)) :
    PE X (.Subscript a (.Slice lo hi none p2) pos) (LE X.K Wh fun ρ S P W => A ρ S (fun x S1 => B ρ S1 (fun l S2 => partS l fun l => C ρ S2 (fun h S3 => partS h fun h => slS x l h S3 P) W) W) W) :=
  PE.imp (pe_slice (sl_list.or (sl_tupA.or sl_str)) ha hl hh) fun σ H Q ⟨ρ, S, W, P, se, wl, pl, h⟩ => by
    refine ⟨ρ, S, W, _, se, wl, fun x S1 h1 v H1 k1 s1 r1 => ⟨ρ, S1, W, _, se.at k1 s1, wl.at k1, fun l S2 h2 H2 k2 s2 => ?_, h1⟩, h⟩
    cases l <;> first
      | exact (show False from h2).elim
      | exact ⟨ρ, S2, W, _, se.at (k1.trans k2) s2, wl.at (k1.trans k2), fun d S3 h3 H3 k3 s3 => by
          cases d <;> first
            | exact (show False from h3).elim
            | exact sl_abs h3 s3 (Rp.kp (k2.trans k3) _ r1) (pl.at ((k1.trans k2).trans k3)), h2⟩
def FLe (K : PySem.W.Frag) (H : Hp) (W : FW) (E : XK) : Prop := ∀ k f S, W k f S → ∀ d H', Kp H H' → StoOk K H' S → FldOk K H' k d f → E (.ref (gaK K (clsN k))) d H'
def spOf (K : PySem.W.Frag) (n : Nat) (c : Con) : Sp := fun vs H Q E => vs.length = n ∧ ∃ ds S P W, Rps K H ds vs ∧ StoOk K H S ∧ PLe K H P Q ∧ FLe K H W E ∧ c ds S P W
theorem l_fn {k : Nat} {x : Str} {f : Addr} {fd : FuncData} {ps : List Str} {lev : Nat} {p : Pos} (tk : Takes X Wh) (F : FnOk X.prog X.w X.K X.mg X.base (L2.CX X.prog X.w) lev f fd ps (spOf X.K (Γ.ar k) (Γ.fn k))) (hr : Room lev X.A) (hg : Gl X x) (hm : X.mg x = some (.ref f)) (hk : PySem.W.keepIn X.K (.ref f) = true)
    (hb : Binds X.K fd ps []) (ha : PA X (e :: es) (LA X.K Wh As)) (hdb : (x == ("__debug__" : Str)) = false) (he : starEach (e :: es) X.env = (false, eval e X.env) :: starEach es X.env) (hpl : (backTo pos (starEach es X.env)).any (·.1) = false) :
    PE X (.Call (.Name x p) (e :: es) [] pos) (LE X.K Wh fun ρ S P W => As ρ S (fun ds S1 => ds.length = Γ.ar k ∧ Γ.fn k ds S1 P (fun c f S2 => W c f ρ S2)) W) :=
  PE.imp (pe_callS F hr hg hm hk hb (fun σ => passAt tk σ) ha hdb he hpl) fun σ H Q ⟨ρ, S, W, P, se, wl, pl, h⟩ =>
    ⟨ρ, S, W, _, se, wl, fun ds S1 h1 vs H1 k1 s1 r1 => ⟨by rw [r1.length]; exact h1.1, ds, S1, P, _, r1, s1, pl.at k1, fun c f S2 w d H2 k2 s2 fl => wl c f ρ S2 w d σ H2 (k1.trans k2) (se.at (k1.trans k2) s2) fl, h1.2⟩, h⟩
theorem l_fn0 {k : Nat} {x : Str} {f : Addr} {fd : FuncData} {ps : List Str} {lev : Nat} {p : Pos} (tk : Takes X Wh) (F : FnOk X.prog X.w X.K X.mg X.base (L2.CX X.prog X.w) lev f fd ps (spOf X.K (Γ.ar k) (Γ.fn k))) (hr : Room lev X.A) (hg : Gl X x) (hm : X.mg x = some (.ref f)) (hk : PySem.W.keepIn X.K (.ref f) = true)
    (hb : Binds X.K fd ps []) (hdb : (x == ("__debug__" : Str)) = false) : PE X (.Call (.Name x p) [] [] pos) (LE X.K Wh fun ρ S P W => 0 = Γ.ar k ∧ Γ.fn k [] S P (fun c f S2 => W c f ρ S2)) := by
  constructor
  intro pins s σ H Q I ⟨ρ, S, W, P, se, wl, pl, h1, h2⟩
  have sp : spOf X.K (Γ.ar k) (Γ.fn k) [] H Q (WE Wh σ) := ⟨h1, [], S, P, _, rfl, se.sto, pl, fun c f S2 w d H2 k2 s2 fl => wl c f ρ S2 w d σ H2 k2 (se.at k2 s2) fl, h2⟩
  exact wpAny_Call_Name_kw (ld_glob I hg hm (PySem.W.callWith_K0 I.kIn hk (run_fnS (us := []) (E := fun σ => WE Wh σ) F hr hb (passAt tk σ) I .nil sp)) hdb)
theorem l_cal {i : Nat} {x : Str} {lev : Nat} {p : Pos} (tk : Takes X Wh) (F : ∀ y k, Γ.nm y = some k → ∃ fd ps, PySem.W.keepIn X.K (.ref (gaK X.K y)) = true ∧ Binds X.K fd ps [] ∧ FnOk X.prog X.w X.K X.mg X.base (L2.CX X.prog X.w) lev (gaK X.K y) fd ps (spOf X.K (Γ.ar k) (Γ.fn k))) (hr : Room lev X.A)
    (hN : X.N[i]? = some x) (hv : Vis X.env.scope x) (ha : PA X (e :: es) (LA X.K Wh As)) (hdb : (x == ("__debug__" : Str)) = false) (hcd : (x == ("__classdict__" : Str)) = false) (he : starEach (e :: es) X.env = (false, eval e X.env) :: starEach es X.env) (hpl : (backTo pos (starEach es X.env)).any (·.1) = false) :
    PE X (.Call (.Name x p) (e :: es) [] pos) (LE X.K Wh fun ρ S P W => match lk ρ i with
      | some (.ty y) => (match Γ.nm y with
        | some k => As ρ S (fun ds S1 => ds.length = Γ.ar k ∧ Γ.fn k ds S1 P (fun c f S2 => W c f ρ S2)) W
        | none => False)
      | _ => False) := by
  refine ⟨fun pins s σ H Q I h => ?_⟩
  obtain ⟨ρ, S, W, P, se, wl, pl, h⟩ := h
  split at h
  · rename_i y ey
    split at h
    · rename_i k ek
      obtain ⟨fd, ps, hk, hb, Fk⟩ := F y k ek
      obtain ⟨v, hs, rv⟩ := se.loc i _ (lk_some ey)
      have rv : v = .ref (gaK X.K y) := rv
      subst rv
      refine wpAny_Call_Name_kw (thn ((pe_var (pos := p) hN hv hdb hcd).run pins s σ H (fun v H1 => v = .ref (gaK X.K y) ∧ H1 = H) I ⟨_, hs, rfl, rfl⟩) fun u s1 ⟨v, H1, I1, r1, q1⟩ => ?_)
      obtain ⟨rfl, rfl⟩ := q1
      cases r1
      have ht : LA X.K Wh As σ _ (fun vs H1 => spOf X.K (Γ.ar k) (Γ.fn k) vs H1 Q (WE Wh σ)) := ⟨ρ, S, W, _, se, wl, fun ds S1 h1 vs H1 k1 s1 r1 => ⟨by rw [r1.length]; exact h1.1, ds, S1, P, _, r1, s1, pl.at k1, fun c f S2 w d H2 k2 s2 fl => wl c f ρ S2 w d σ H2 (k1.trans k2) (se.at (k1.trans k2) s2) fl, h1.2⟩, h⟩
      refine PySem.W.callWith_K (h₀ := X.base) I.ok.mod.kin hk (thn (ha.run pos pins s1 σ _ _ I1 ht) fun us s2 ⟨vs, H2, I2, r, q⟩ => ⟨I2.kIn, ?_⟩) he hpl
      exact run_fnS (E := fun σ => WE Wh σ) Fk hr hb (passAt tk σ) I2 r q
    · exact h.elim
  · exact h.elim
def CallAbs (K : PySem.W.Frag) (r : List V → Hp → VK → Prop) (f : List D → Sto → PD → Prop) : Prop := ∀ ds S P, f ds S P → ∀ H vs Q, StoOk K H S → Rps K H ds vs → PLe K H P Q → r vs H Q
theorem l_cb {x : Str} {id : String} {r : List V → Hp → VK → Prop} {f : List D → Sto → PD → Prop} {p : Pos} (hc : CallR X (.builtin id) r) (hab : CallAbs X.K r f) (hg : Gl X x) (hm : X.mg x = none) (hv : bootBuiltins x = some (.builtin id)) (ha : PA X (e :: es) (LA X.K Wh As)) (hn : x ≠ "__name__") (hdb : (x == ("__debug__" : Str)) = false)
    (he : starEach (e :: es) X.env = (false, eval e X.env) :: starEach es X.env) (hpl : (backTo pos (starEach es X.env)).any (·.1) = false) : PE X (.Call (.Name x p) (e :: es) [] pos) (LE X.K Wh fun ρ S P W => As ρ S (fun ds S1 => f ds S1 P) W) :=
  PE.imp (pe_callB hc hg hm hv ha hn hdb he hpl) fun σ H Q ⟨ρ, S, W, P, se, wl, pl, h⟩ => ⟨ρ, S, W, _, se, wl, fun ds S1 h1 vs H1 k1 s1 r1 => hab _ _ _ h1 _ _ _ s1 r1 (pl.at k1), h⟩
theorem l_ct {x : Str} {T : String} {r : List V → Hp → VK → Prop} {f : List D → Sto → PD → Prop} {p : Pos} (hc : CallR X (.type T) r) (hab : CallAbs X.K r f) (hg : Gl X x) (hm : X.mg x = none) (hv : bootBuiltins x = some (.type T)) (ha : PA X (e :: es) (LA X.K Wh As)) (hn : x ≠ "__name__") (hdb : (x == ("__debug__" : Str)) = false)
    (he : starEach (e :: es) X.env = (false, eval e X.env) :: starEach es X.env) (hpl : (backTo pos (starEach es X.env)).any (·.1) = false) : PE X (.Call (.Name x p) (e :: es) [] pos) (LE X.K Wh fun ρ S P W => As ρ S (fun ds S1 => f ds S1 P) W) :=
  PE.imp (pe_callTy hc hg hm hv ha hn hdb he hpl) fun σ H Q ⟨ρ, S, W, P, se, wl, pl, h⟩ => ⟨ρ, S, W, _, se, wl, fun ds S1 h1 vs H1 k1 s1 r1 => hab _ _ _ h1 _ _ _ s1 r1 (pl.at k1), h⟩
end
end Sd
namespace Sd
open PySem PySem.Spec PyProof.Rows L2
section
variable {X : Cx} {K : PySem.W.Frag} {H : Hp} {S : Sto}
theorem Rps.one' {d : D} {vs : List V} (r : Rps K H [d] vs) : ∃ v, vs = [v] ∧ Rp K H d v := by
  obtain ⟨v, t, rfl, h, e⟩ := r
  rw [show t = [] from e]
  exact ⟨v, rfl, h⟩
theorem Rps.two' {d d' : D} {vs : List V} (r : Rps K H [d, d'] vs) : ∃ v w, vs = [v, w] ∧ Rp K H d v ∧ Rp K H d' w := by
  obtain ⟨v, t, rfl, h, e⟩ := r
  obtain ⟨w, rfl, h2⟩ := Rps.one' e
  exact ⟨v, w, rfl, h, h2⟩
theorem Rps.nil' {vs : List V} (r : Rps K H [] vs) : vs = [] := r
theorem intL_rps : ∀ {l : List D} {vs : List V} {ns : List Int}, Rps K H l vs → intL l = some ns → vs = ns.map V.int
  | [], _, _, r, e => by
    rw [r.nil']
    simp only [intL, Option.some.injEq] at e
    subst e
    rfl
  | d :: l, _, _, r, e => by
    obtain ⟨v, t, rfl, h, q⟩ := r
    cases d <;> (try (simp [intL] at e; done))
    simp only [intL] at e
    cases z : intL l with
    | none => rw [z] at e; cases e
    | some m =>
      rw [z] at e
      simp only [Option.some.injEq] at e
      subst e
      cases h
      rw [intL_rps q z]
      rfl
theorem boolL_rps : ∀ {l : List D} {vs : List V} {ns : List Bool}, Rps K H l vs → boolL l = some ns → vs = ns.map V.bl
  | [], _, _, r, e => by
    rw [r.nil']
    simp only [boolL, Option.some.injEq] at e
    subst e
    rfl
  | d :: l, _, _, r, e => by
    obtain ⟨v, t, rfl, h, q⟩ := r
    cases d <;> (try (simp [boolL] at e; done))
    simp only [boolL] at e
    cases z : boolL l with
    | none => rw [z] at e; cases e
    | some m =>
      rw [z] at e
      simp only [Option.some.injEq] at e
      subst e
      cases h
      rw [boolL_rps q z]
      rfl
theorem lstD_rd {d : D} {v : V} {l : List D} (s : StoOk K H S) (r : Rp K H d v) (e : lstD S d = some l) : ∃ a vs, v = .ref a ∧ SqL K H a vs ∧ Rps K H l vs := by
  cases d <;> (try (simp [lstD] at e; done))
  rename_i a
  cases r
  simp only [lstD] at e
  split at e
  · rename_i w m q
    simp only [Option.some.injEq] at e
    subst e
    obtain ⟨vs, q1, r1⟩ := s.rd q
    exact ⟨a, vs, rfl, q1, r1⟩
  · cases e
theorem seqD_rd {d : D} {v : V} {l : List D} (s : StoOk K H S) (r : Rp K H d v) (e : seqD S d = some l) : ∃ a vs, v = .ref a ∧ (SqL K H a vs ∨ SqT K H a vs) ∧ Rps K H l vs := by
  cases d <;> (try (simp [seqD] at e; done))
  · rename_i a
    cases r
    simp only [seqD] at e
    split at e
    · rename_i w m q
      simp only [Option.some.injEq] at e
      subst e
      obtain ⟨vs, q1, r1⟩ := s.rd q
      exact ⟨a, vs, rfl, .inl q1, r1⟩
    · cases e
  · simp only [seqD, Option.some.injEq] at e
    subst e
    obtain ⟨a, vs, rfl, q, rs⟩ := r
    exact ⟨a, vs, rfl, .inr q, rs⟩
theorem ab_str : CallAbs K (fun xs H Q => ∃ i, xs = [.int i] ∧ i.natAbs.log2 < 1920 ∧ Q (.str (toString i)) H) (biS .str) := by
  intro ds S P h H vs Q s r pl
  match ds, h with
  | [.int i], h =>
    obtain ⟨v, rfl, rv⟩ := r.one'
    cases rv
    exact ⟨i, rfl, h.1, pl.now h.2 s rfl⟩
theorem ab_abs : CallAbs K (fun xs H Q => ∃ i, xs = [.int i] ∧ Q (.int (if i < 0 then -i else i)) H) (biS .abs) := by
  intro ds S P h H vs Q s r pl
  match ds, h with
  | [.int i], h =>
    obtain ⟨v, rfl, rv⟩ := r.one'
    cases rv
    exact ⟨i, rfl, pl.now h s rfl⟩
theorem ab_int : CallAbs K (fun xs H Q => ((∃ i, xs = [.int i] ∧ Q (.int i) H) ∨ ∃ k, xs = [.bl k] ∧ Q (.int (if k then 1 else 0)) H) ∨ ∃ a n, xs = [.str a] ∧ PySem.intText? a = some n ∧ a.length ≤ 640 ∧ Q (.int n) H) (biS .int) := by
  intro ds S P h H vs Q s r pl
  match ds, h with
  | [.int i], h =>
    obtain ⟨v, rfl, rv⟩ := r.one'
    cases rv
    exact .inl (.inl ⟨i, rfl, pl.now h s rfl⟩)
  | [.bl i], h =>
    obtain ⟨v, rfl, rv⟩ := r.one'
    cases rv
    exact .inl (.inr ⟨i, rfl, pl.now h s rfl⟩)
  | [.str z], h =>
    obtain ⟨v, rfl, rv⟩ := r.one'
    cases rv
    have h' : (match PySem.intText? z with
      | some n => z.length ≤ 640 ∧ P (.int n) S
      | none => False) := h
    split at h'
    · rename_i n e
      exact .inr ⟨z, n, rfl, e, h'.1, pl.now h'.2 s rfl⟩
    · exact h'.elim
theorem ab_min2 : CallAbs K (fun xs H Q => ∃ i j, xs = [.int i, .int j] ∧ Q (.int (if j < i then j else i)) H) (biS .min2) := by
  intro ds S P h H vs Q s r pl
  match ds, h with
  | [.int i, .int j], h =>
    obtain ⟨v, w, rfl, rv, rw'⟩ := r.two'
    cases rv; cases rw'
    exact ⟨i, j, rfl, pl.now h s rfl⟩
theorem ab_max2 : CallAbs K (fun xs H Q => ∃ i j, xs = [.int i, .int j] ∧ Q (.int (if j > i then j else i)) H) (biS .max2) := by
  intro ds S P h H vs Q s r pl
  match ds, h with
  | [.int i, .int j], h =>
    obtain ⟨v, w, rfl, rv, rw'⟩ := r.two'
    cases rv; cases rw'
    exact ⟨i, j, rfl, pl.now h s rfl⟩
theorem len_rawH {prog : Program} {w : World} {A : Around} {E : Value → Shared → Prop} {s : Shared} {d : Addr} {es : Array DictEntry} {ep : Nat} {Q : Value → Shared → Prop} (hd : (d == sysModules) = false) (hm : s.heap.DictRaw d es ep) (hfit : (es.size : Int) < 2 ^ 63)
    (h : Q (.int es.size (s.toks + 1)) { s with toks := s.toks + 1 + 1 }) : wpAny (model prog w) A (Builtin.«len» ⟨[.ref d], []⟩) (fun fin s' => ∃ r, fin = .done (.ret r) ∧ Q r s') E s := by
  unfold Builtin.«len»
  refine wpAny_bind (m := oneArg "len" _) (wpAny_pure ?_)
  refine wpAny_bind (m := callSpecial? (.ref d) (Str.ofString "__len__")) (wpAny_callSpecial?_slot (name := Str.ofString "__len__") hm.typeIs PySem.F.slot_dict_len
    (call_meetsIn PySem.F.slot_dict_len hm.typeIs PySem.F.entry_dict_len (PySem.F.args_dict_len_1 _) (meets_dict_len_raw d hd) ⟨es, ep, hm, ?_⟩))
  show wpAny _ _ _ _ _ { s with toks := s.toks + 1 }
  refine wpAny_bind (wpAny_holding (wpAny_pure ?_))
  refine wpAny_bind (wpAny_letGo ?_)
  show wpAny _ _ (if ((es.size : Nat) : Int) < 0 then _ else _) _ _ _
  rw [if_neg (by omega)]
  show wpAny _ _ (if ((es.size : Nat) : Int) ≥ 2 ^ 63 then _ else _) _ _ _
  rw [if_neg (by omega)]
  exact wpAny_bind (wpAny_mkInt (wpAny_pure ⟨_, rfl, h⟩))
theorem call_len_rawH {prog : Program} {w : World} {A : Around} {E : Value → Shared → Prop} {s : Shared} {d : Addr} {es : Array DictEntry} {ep : Nat} {Q : Value → Shared → Prop} (hd : (d == sysModules) = false) (hm : s.heap.DictRaw d es ep) (hfit : (es.size : Int) < 2 ^ 63)
    (h : Q (.int es.size (s.toks + 1)) { s with toks := s.toks + 1 + 1 }) : wpAny (model prog w) A (call (.builtin "len") [.ref d]) Q E s :=
  Calls.call_function_entry kind_len plain_len entry_len (args_len1 _) (len_rawH hd hm hfit h)
def rLenD (K : PySem.W.Frag) : List V → Hp → VK → Prop := fun xs H Q => (∃ (a : Addr) (l : List (NestedKey × D × D)) (es : List (NestedKey × Addr × Value)), xs = [.ref a] ∧ H a = some (DctV a es) ∧ (a == sysModules) = false ∧ l.length ≤ sizeLine ∧ DRel K H l es ∧ Q (.int l.length) H) ∨ ∃ (a : Addr) (kvs : List (L2.Key × V)), xs = [.ref a] ∧ H a = some (.dK kvs) ∧ Q (.int kvs.length) H
theorem cr_lenD : CallR X (.builtin "len") (rLenD X.K) := by
  intro pins s σ H xs us Q I r h
  rcases h with ⟨a, l, es, rfl, e, hd, hl, rel, q⟩ | ⟨a, kvs, rfl, e, q⟩
  · obtain rfl := Vals.ref1 r
    obtain ⟨⟨o, eas, ep, h1, h2, h3, h4⟩, _, _⟩ := (show ObjOk X.prog X.w H s.heap a (DctV a es) from I.hok a _ e)
    have hz : eas.size = l.length := by
      have := congrArg List.length h4
      rw [Array.length_toList, List.length_map, rel.len] at this
      exact this
    have hs9 := sizeLine_eq
    refine call_len_rawH hd ⟨o, h1, h2, h3⟩ (by omega) ⟨.int l.length, H, I.tok _, ⟨_, by rw [hz]⟩, q⟩
  · obtain rfl := Vals.ref1 r
    exact d_len I (.inl e) fun t s' I' => ⟨.int kvs.length, H, I', ⟨_, rfl⟩, q⟩
def rLenA (K : PySem.W.Frag) : List V → Hp → VK → Prop := fun xs H Q => ((∃ p ys, xs = [.ref p] ∧ (SqL K H p ys ∨ SqT K H p ys) ∧ Q (.int ys.length) H) ∨ ∃ z, xs = [.str z] ∧ z.length ≤ sizeLine ∧ Q (.int z.length) H) ∨ rLenD K xs H Q
theorem cr_lenA : CallR X (.builtin "len") (rLenA X.K) := (call_len_seq.or call_len_str).or cr_lenD
theorem ab_len : CallAbs K (rLenA K) (biS .len) := by
  intro ds S P h H vs Q s r pl
  match ds, h with
  | [d], h =>
    obtain ⟨v, rfl, rv⟩ := r.one'
    have h' : (match seqD S d with
      | some l => P (.int l.length) S
      | none => (match d with
        | .str z => z.length ≤ sizeLine ∧ P (.int z.length) S
        | .ref a => (match S a with
          | some (.dct l) => P (.int l.length) S
          | some (.dci l) => P (.int l.length) S
          | _ => False)
        | _ => False)) := by cases d <;> exact h
    split at h'
    · rename_i l e
      obtain ⟨a, us, rfl, q, rs⟩ := seqD_rd s rv e
      exact .inl (.inl ⟨a, us, rfl, q, by rw [rs.length]; exact pl.now h' s rfl⟩)
    · cases d <;> (try exact (show False from h').elim)
      · cases rv
        exact .inl (.inr ⟨_, rfl, h'.1, pl.now h'.2 s rfl⟩)
      · rename_i a _
        cases rv
        dsimp only at h'
        split at h'
        · rename_i l e
          obtain ⟨h3, h4, h5, xs, h6, h7⟩ := (show l.length ≤ sizeLine ∧ (a == sysModules) = false ∧ (l.map (·.1)).Nodup ∧ ∃ xs, H a = some (DctV a xs) ∧ DRel K H l xs from s a _ e)
          exact .inr (.inl ⟨a, l, xs, rfl, h6, h4, h3, h7, pl.now h' s rfl⟩)
        · rename_i l e
          obtain ⟨xs, h6, h7⟩ := (show ∃ xs, H a = some (.dK xs) ∧ KRel K H l xs from s a _ e)
          exact .inr (.inr ⟨a, xs, rfl, h6, by rw [h7.len]; exact pl.now h' s rfl⟩)
        · exact h'.elim
theorem ab_sum : CallAbs K (rSum K) (biS .sum) := by
  intro ds S P h H vs Q s r pl
  match ds, h with
  | [d], h =>
    obtain ⟨v, rfl, rv⟩ := r.one'
    have h' : (match lstD S d with
      | some l => (match intL l with
        | some ns => P (.int ns.sum) S
        | none => False)
      | none => False) := by cases d <;> exact h
    split at h'
    · rename_i l e
      obtain ⟨a, us, rfl, q, rs⟩ := lstD_rd s rv e
      split at h'
      · rename_i ns en
        exact ⟨a, ns, rfl, by rw [← intL_rps rs en]; exact q, pl.now h' s rfl⟩
      · exact h'.elim
    · exact h'.elim
section
variable {prog : Program} {w : World} {A : Around} {E : Value → Shared → Prop} {s : Shared} {l : Addr} {xs : Array (Int × Tok)} {its : List Value} {ns : List Int}
theorem iter_intTup {Q : Value → Shared → Prop} (hl : s.heap.IsTuple l (intItems xs))
    (h : ∀ s₂ : Shared, s₂ = { s with heap := s.heap.push { cls := .type "tuple_iterator", data := .fields #[.ref l, .int 0 0] } } →
      (s₂.heap.IsTupleIter s.heap.objs.size l 0 ∧ s₂.heap.IsTuple l (intItems xs)) → (∀ b ∈ [s.heap.objs.size, l], b < s₂.heap.objs.size) → l ≠ s.heap.objs.size → Q (.ref s.heap.objs.size) s₂) :
    wpAny (model prog w) A (pyIter (.ref l)) Q E s := by
  have hlt : l < s.heap.objs.size := by obtain ⟨_, e, _⟩ := hl; exact Heap.lt_size e
  refine wpAny_pyIter_tuple hl (h _ rfl ⟨⟨_, Heap.get?_push_size _ rfl, rfl, rfl⟩, hl.push _⟩ (fun b hb => ?_) (Nat.ne_of_lt hlt))
  show b < (s.heap.push _).objs.size
  rw [Heap.size_push]
  rcases List.mem_cons.mp hb with rfl | hb
  · exact Nat.lt_succ_self _
  · rcases List.mem_cons.mp hb with rfl | hb
    · exact Nat.lt_succ_of_lt hlt
    · cases hb
theorem old_keptT {h' : Heap} (hk : ∀ b o, b ∉ [s.heap.objs.size] → (s.heap.push { cls := .type "tuple_iterator", data := .fields #[.ref l, .int 0 0] }).get? b = some o → h'.get? b = some o) :
    ∀ b o, s.heap.get? b = some o → h'.get? b = some o := fun b o e => by
  refine hk b o (fun hm => ?_) (Heap.get?_push_of_some _ e)
  rcases List.mem_cons.mp hm with e1 | hm
  · exact absurd (e1 ▸ Heap.lt_size e) (Nat.lt_irrefl _)
  · cases hm
theorem max_intTup {Q : Value → Shared → Prop} (hh : A.handled = none) (hl : s.heap.IsTuple l (intItems xs)) (hne : 0 < xs.size)
    (h : ∀ v h' tk, (intItems xs)[argBest (fun i j => decide (numAt xs i > numAt xs j)) (xs.size - 1)]? = some v → (∀ b o, s.heap.get? b = some o → h'.get? b = some o) → Q v { s with heap := h', toks := tk }) :
    wpAny (model prog w) A (call (.builtin "max") [.ref l]) Q E s := by
  refine call_max_walk (iter_intTup hl fun s₂ e st hfp hlI => ?_)
  subst e
  refine ⟨_, _, _, _, _, _, _, rfl, Walks.tuple (A := A.in1) hh _ l hlI (intItems xs), st, hfp, by simpa [intItems] using hne, CmpOf.ints_gt (numAt xs) (fun _ _ => intItems_at), fun v h' tk hP hk => ?_⟩
  exact h v h' tk (by simpa [intItems] using hP) (old_keptT hk)
theorem min_intTup {Q : Value → Shared → Prop} (hh : A.handled = none) (hl : s.heap.IsTuple l (intItems xs)) (hne : 0 < xs.size)
    (h : ∀ v h' tk, (intItems xs)[argBest (fun i j => decide (numAt xs i < numAt xs j)) (xs.size - 1)]? = some v → (∀ b o, s.heap.get? b = some o → h'.get? b = some o) → Q v { s with heap := h', toks := tk }) :
    wpAny (model prog w) A (call (.builtin "min") [.ref l]) Q E s := by
  refine call_min_walk (iter_intTup hl fun s₂ e st hfp hlI => ?_)
  subst e
  refine ⟨_, _, _, _, _, _, _, rfl, Walks.tuple (A := A.in1) hh _ l hlI (intItems xs), st, hfp, by simpa [intItems] using hne, CmpOf.ints_lt (numAt xs) (fun _ _ => intItems_at), fun v h' tk hP hk => ?_⟩
  exact h v h' tk (by simpa [intItems] using hP) (old_keptT hk)
theorem max_rawT {Q : Value → Shared → Prop} (hh : A.handled = none) (hl : s.heap.IsTuple l its.toArray) (hi : IntsAre its ns) (hne : 0 < ns.length)
    (h : ∀ h' tk M t', (∀ b o, s.heap.get? b = some o → h'.get? b = some o) → M ∈ ns → (∀ a, a ∈ ns → a ≤ M) → Q (.int M t') { s with heap := h', toks := tk }) : wpAny (model prog w) A (call (.builtin "max") [.ref l]) Q E s := by
  obtain ⟨xs, e⟩ := hi.allInts.items
  have hn : numsOf (intItems xs).toList = ns := by rw [← e]; exact hi.numsOf
  rw [nums_intItems] at hn
  subst hn
  rw [e] at hl
  have hsz : 0 < xs.size := by simpa using hne
  refine max_intTup hh hl hsz fun v h' tk hv hk => ?_
  obtain ⟨t, rfl⟩ := intItems_at hv
  obtain ⟨h1, h2⟩ := argBest_gt (numAt xs) (xs.size - 1)
  refine h h' tk _ t hk ?_ fun a ha => ?_
  · rw [numAt_eq]; exact PySem.getD_mem (by rw [List.length_map, Array.length_toList]; omega)
  · obtain ⟨j, hj, rfl⟩ := mem_getD ha
    rw [List.length_map, Array.length_toList] at hj
    rw [← numAt_eq]; exact h2 j (by omega)
theorem min_rawT {Q : Value → Shared → Prop} (hh : A.handled = none) (hl : s.heap.IsTuple l its.toArray) (hi : IntsAre its ns) (hne : 0 < ns.length)
    (h : ∀ h' tk M t', (∀ b o, s.heap.get? b = some o → h'.get? b = some o) → M ∈ ns → (∀ a, a ∈ ns → M ≤ a) → Q (.int M t') { s with heap := h', toks := tk }) : wpAny (model prog w) A (call (.builtin "min") [.ref l]) Q E s := by
  obtain ⟨xs, e⟩ := hi.allInts.items
  have hn : numsOf (intItems xs).toList = ns := by rw [← e]; exact hi.numsOf
  rw [nums_intItems] at hn
  subst hn
  rw [e] at hl
  have hsz : 0 < xs.size := by simpa using hne
  refine min_intTup hh hl hsz fun v h' tk hv hk => ?_
  obtain ⟨t, rfl⟩ := intItems_at hv
  obtain ⟨h1, h2⟩ := argBest_lt (numAt xs) (xs.size - 1)
  refine h h' tk _ t hk ?_ fun a ha => ?_
  · rw [numAt_eq]; exact PySem.getD_mem (by rw [List.length_map, Array.length_toList]; omega)
  · obtain ⟨j, hj, rfl⟩ := mem_getD ha
    rw [List.length_map, Array.length_toList] at hj
    rw [← numAt_eq]; exact h2 j (by omega)
end
def rMaxA (K : PySem.W.Frag) : List V → Hp → VK → Prop := fun vs H Q => ∃ (a : Addr) (ns : List Int), vs = [V.ref a] ∧ (SqL K H a (ns.map V.int) ∨ SqT K H a (ns.map V.int)) ∧ 0 < ns.length ∧ ∀ m, m ∈ ns → (∀ y, y ∈ ns → y ≤ m) → Q (.int m) H
def rMinA (K : PySem.W.Frag) : List V → Hp → VK → Prop := fun vs H Q => ∃ (a : Addr) (ns : List Int), vs = [V.ref a] ∧ (SqL K H a (ns.map V.int) ∨ SqT K H a (ns.map V.int)) ∧ 0 < ns.length ∧ ∀ m, m ∈ ns → (∀ y, y ∈ ns → m ≤ y) → Q (.int m) H
theorem cr_maxA (hc : X.calm = true) : CallR X (.builtin "max") (rMaxA X.K) := by
  intro pins s σ H vs us Q I r h
  obtain ⟨a, ns, rfl, hs, hne, q⟩ := h
  rcases hs with hs | hs
  · exact cr_max hc pins s σ H _ us Q I r ⟨a, ns, rfl, hs, hne, q⟩
  · obtain ⟨its, rv, hl, _⟩ := I.tuple hs
    rw [Vals.ref1 r]
    exact max_rawT (I.ok.hd hc) hl rv.ints hne fun h' tk m t' hk h1 h2 => ⟨.int _, H, I.kept hk, ⟨_, rfl⟩, q m h1 h2⟩
theorem cr_minA (hc : X.calm = true) : CallR X (.builtin "min") (rMinA X.K) := by
  intro pins s σ H vs us Q I r h
  obtain ⟨a, ns, rfl, hs, hne, q⟩ := h
  rcases hs with hs | hs
  · exact cr_min hc pins s σ H _ us Q I r ⟨a, ns, rfl, hs, hne, q⟩
  · obtain ⟨its, rv, hl, _⟩ := I.tuple hs
    rw [Vals.ref1 r]
    exact min_rawT (I.ok.hd hc) hl rv.ints hne fun h' tk m t' hk h1 h2 => ⟨.int _, H, I.kept hk, ⟨_, rfl⟩, q m h1 h2⟩
theorem ab_min1 : CallAbs K (rMinA K) (biS .min1) := by
  intro ds S P h H vs Q s r pl
  match ds, h with
  | [d], h =>
    obtain ⟨v, rfl, rv⟩ := r.one'
    have h' : (match seqD S d with
      | some l => (match intL l with
        | some ns => 0 < ns.length ∧ ∀ m, m ∈ ns → (∀ y, y ∈ ns → m ≤ y) → P (.int m) S
        | none => False)
      | none => False) := by cases d <;> exact h
    split at h'
    · rename_i l e
      obtain ⟨a, us, rfl, q, rs⟩ := seqD_rd s rv e
      split at h'
      · rename_i ns en
        exact ⟨a, ns, rfl, by rw [← intL_rps rs en]; exact q, h'.1, fun m h1 h2 => pl.now (h'.2 m h1 h2) s rfl⟩
      · exact h'.elim
    · exact h'.elim
theorem ab_max1 : CallAbs K (rMaxA K) (biS .max1) := by
  intro ds S P h H vs Q s r pl
  match ds, h with
  | [d], h =>
    obtain ⟨v, rfl, rv⟩ := r.one'
    have h' : (match seqD S d with
      | some l => (match intL l with
        | some ns => 0 < ns.length ∧ ∀ m, m ∈ ns → (∀ y, y ∈ ns → y ≤ m) → P (.int m) S
        | none => False)
      | none => False) := by cases d <;> exact h
    split at h'
    · rename_i l e
      obtain ⟨a, us, rfl, q, rs⟩ := seqD_rd s rv e
      split at h'
      · rename_i ns en
        exact ⟨a, ns, rfl, by rw [← intL_rps rs en]; exact q, h'.1, fun m h1 h2 => pl.now (h'.2 m h1 h2) s rfl⟩
      · exact h'.elim
    · exact h'.elim
theorem ab_all : CallAbs K (rAll K) (biS .all) := by
  intro ds S P h H vs Q s r pl
  match ds, h with
  | [d], h =>
    obtain ⟨v, rfl, rv⟩ := r.one'
    have h' : (match lstD S d with
      | some l => (match boolL l with
        | some ns => P (.bl (ns.all id)) S
        | none => False)
      | none => False) := by cases d <;> exact h
    split at h'
    · rename_i l e
      obtain ⟨a, us, rfl, q, rs⟩ := lstD_rd s rv e
      split at h'
      · rename_i ns en
        exact ⟨a, ns, rfl, by rw [← boolL_rps rs en]; exact q, pl.now h' s rfl⟩
      · exact h'.elim
    · exact h'.elim
theorem ab_any : CallAbs K (rAny K) (biS .any) := by
  intro ds S P h H vs Q s r pl
  match ds, h with
  | [d], h =>
    obtain ⟨v, rfl, rv⟩ := r.one'
    have h' : (match lstD S d with
      | some l => (match boolL l with
        | some ns => P (.bl (ns.any id)) S
        | none => False)
      | none => False) := by cases d <;> exact h
    split at h'
    · rename_i l e
      obtain ⟨a, us, rfl, q, rs⟩ := lstD_rd s rv e
      split at h'
      · rename_i ns en
        exact ⟨a, ns, rfl, by rw [← boolL_rps rs en]; exact q, pl.now h' s rfl⟩
      · exact h'.elim
    · exact h'.elim
theorem ab_list : CallAbs K (fun xs H Q => ∃ p ys, xs = [.ref p] ∧ (SqL K H p ys ∨ SqT K H p ys) ∧ ∀ l, H l = none → Q (.ref l) (upd H l (.lst ys))) (biS .list) := by
  intro ds S P h H vs Q s r pl
  match ds, h with
  | [d], h =>
    obtain ⟨v, rfl, rv⟩ := r.one'
    have h' : (match seqD S d with
      | some l => ∀ p, S p = none → P (.ref p) (S.up p (.lst true l))
      | none => False) := by cases d <;> exact h
    split at h'
    · rename_i l e
      obtain ⟨a, us, rfl, q, rs⟩ := seqD_rd s rv e
      exact ⟨a, us, rfl, q, fun p hp => pl.newL s rs hp h'⟩
    · exact h'.elim
theorem ab_tuple : CallAbs K (fun xs H Q => ∃ p ys, xs = [.ref p] ∧ ((SqL K H p ys ∧ ∀ l, H l = none → Q (.ref l) (upd H l (.tup ys))) ∨ (SqT K H p ys ∧ Q (.ref p) H))) (biS .tuple) := by
  intro ds S P h H vs Q s r pl
  match ds, h with
  | [d], h =>
    obtain ⟨v, rfl, rv⟩ := r.one'
    have h' : (match seqD S d with
      | some l => P (.tup l) S
      | none => False) := by cases d <;> exact h
    split at h'
    · rename_i l e
      obtain ⟨a, us, rfl, q, rs⟩ := seqD_rd s rv e
      rcases q with q | q
      · exact ⟨a, us, rfl, .inl ⟨q, fun p hp => pl.newT s rs hp h'⟩⟩
      · exact ⟨a, us, rfl, .inr ⟨q, pl.now h' s ⟨a, us, rfl, q, rs⟩⟩⟩
    · exact h'.elim
theorem rps_ints : ∀ (ns : List Int), Rps K H (ns.map D.int) (ns.map V.int)
  | [] => rfl
  | n :: ns => ⟨.int n, ns.map V.int, rfl, rfl, rps_ints ns⟩
theorem ab_sorted : CallAbs K (rSortedI K) (biS .sorted) := by
  intro ds S P h H vs Q s r pl
  match ds, h with
  | [d], h =>
    obtain ⟨v, rfl, rv⟩ := r.one'
    have h' : (match lstD S d with
      | some l => (match intL l with
        | some ns => ∀ (ns' : List Int) (p : Addr), ns'.Perm ns → ns'.Pairwise (· ≤ ·) → S p = none → P (.ref p) (S.up p (.lst true (ns'.map D.int)))
        | none => False)
      | none => False) := by cases d <;> exact h
    split at h'
    · rename_i l e
      obtain ⟨a, us, rfl, q, rs⟩ := lstD_rd s rv e
      split at h'
      · rename_i ns en
        exact ⟨a, ns, rfl, by rw [← intL_rps rs en]; exact q, fun ns' p h1 h2 hp => pl.newL s (rps_ints ns') hp fun p hp => h' ns' p h1 h2 hp⟩
      · exact h'.elim
    · exact h'.elim
end
section
variable {K : PySem.W.Frag} {H : Hp} {S : Sto}
theorem ab_divmod : CallAbs K (fun xs H Q => ∃ i j, xs = [.int i, .int j] ∧ CDivP i j ∧ ∀ p, H p = none → Q (.ref p) (upd H p (.tup [.int (i / j), .int (i % j)]))) (biS .divmod) := by
  intro ds S P h H vs Q s r pl
  match ds, h with
  | [.int i, .int j], h =>
    obtain ⟨v, w, rfl, rv, rw'⟩ := r.two'
    cases rv; cases rw'
    exact ⟨i, j, rfl, ⟨h.1.1, PyProof.noPylong_of_log2 h.1.2⟩, fun p hp => pl.newT s (Rps.cons (d := .int (i / j)) rfl (Rps.one (d := .int (i % j)) rfl)) hp h.2⟩
end
inductive BV where
  | fn (id : String)
  | ty (T : String)
def biV : BI → BV
  | .abs => .fn "abs" | .len => .fn "len" | .int => .ty "int" | .min2 => .fn "min" | .max2 => .fn "max" | .min1 => .fn "min" | .max1 => .fn "max" | .sum => .fn "sum" | .all => .fn "all" | .any => .fn "any" | .list => .ty "list" | .tuple => .ty "tuple" | .str => .ty "str" | .sorted => .fn "sorted" | .divmod => .fn "divmod"
def biX : BI → Str
  | .abs => "abs" | .len => "len" | .int => "int" | .min2 => "min" | .max2 => "max" | .min1 => "min" | .max1 => "max" | .sum => "sum" | .all => "all" | .any => "any" | .list => "list" | .tuple => "tuple" | .str => "str" | .sorted => "sorted" | .divmod => "divmod"
def BV.val : BV → Value
  | .fn id => .builtin id
  | .ty T => .type T
theorem bi_boot (b : BI) : bootBuiltins (biX b) = some (biV b).val := by
  cases b <;> decide +kernel
theorem bi_all {X : Cx} (hc : X.calm = true) (b : BI) : ∃ r, CallR X (biV b).val r ∧ CallAbs X.K r (biS b) := by
  cases b
  case abs => exact ⟨_, call_abs, ab_abs⟩
  case len => exact ⟨_, cr_lenA, ab_len⟩
  case int => exact ⟨_, CallR.or call_int1 call_int_str, ab_int⟩
  case min2 => exact ⟨_, call_min2 hc, ab_min2⟩
  case max2 => exact ⟨_, call_max2 hc, ab_max2⟩
  case min1 => exact ⟨_, cr_minA hc, ab_min1⟩
  case max1 => exact ⟨_, cr_maxA hc, ab_max1⟩
  case sum => exact ⟨_, cr_sum hc, ab_sum⟩
  case all => exact ⟨_, cr_all hc, ab_all⟩
  case any => exact ⟨_, cr_any hc, ab_any⟩
  case list => exact ⟨_, call_list_of, ab_list⟩
  case tuple => exact ⟨_, call_tuple_of, ab_tuple⟩
  case str => exact ⟨_, call_str_int, ab_str⟩
  case divmod => exact ⟨_, call_divmodW, ab_divmod⟩
  case sorted => exact ⟨_, cr_sortedI, ab_sorted⟩
section
variable {X : Cx} {Wh : WX} {As : AA} {e : Expr} {es : List Expr} {pos : Pos}
theorem l_bi {b : BI} {p : Pos} (hc : X.calm = true) (hg : Gl X (biX b)) (hm : X.mg (biX b) = none) (ha : PA X (e :: es) (LA X.K Wh As))
    (he : starEach (e :: es) X.env = (false, eval e X.env) :: starEach es X.env) (hpl : (backTo pos (starEach es X.env)).any (·.1) = false) : PE X (.Call (.Name (biX b) p) (e :: es) [] pos) (LE X.K Wh fun ρ S P W => As ρ S (fun ds S1 => biS b ds S1 P) W) := by
  obtain ⟨r, h1, h2⟩ := bi_all (X := X) hc b
  have hv := bi_boot b
  have hn : biX b ≠ "__name__" := by cases b <;> decide
  have hdb : (biX b == ("__debug__" : Str)) = false := by cases b <;> decide
  cases q : biV b with
  | fn id => rw [q] at h1 hv; exact l_cb h1 h2 hg hm hv ha hn hdb he hpl
  | ty T => rw [q] at h1 hv; exact l_ct h1 h2 hg hm hv ha hn hdb he hpl
end
end Sd
namespace Sd
open PySem PySem.Spec PyProof.Rows L2
def btNames : List String := ["int", "bool", "tuple", "list", "str", "dict", "ValueError"]
def btKinds : List String := ["NoneType", "bool", "int", "str", "tuple", "list"]
structure CF (K : PySem.W.Frag) (k : Nat) : Prop where
  exc : ExcC K (gaK K (clsN k))
  nof : PySem.W.findIn K (.ref (gaK K (clsN k))) (fldN k) = some none
  bts : ∀ n, n ∈ btNames → PySem.W.kitOne K (.ref (gaK K (clsN k))) (.type n) = some (n == "ValueError")
  kin : ∀ b, b ∈ btKinds → PySem.W.kitOne K (.type b) (.ref (gaK K (clsN k))) = some false
structure CF2 (K : PySem.W.Frag) (j k : Nat) : Prop where
  exm : PySem.W.exmOne K (.ref (gaK K (clsN j))) (.ref (gaK K (clsN k))) = some (subK j k)
  kit : PySem.W.kitOne K (.ref (gaK K (clsN j))) (.ref (gaK K (clsN k))) = some (subK j k)
structure CFs (K : PySem.W.Frag) : Prop where
  one : ∀ k, Kn K k → CF K k
  two : ∀ j k, Kn K j → Kn K k → CF2 K j k
section
variable {X : Cx} {K : PySem.W.Frag} {H : Hp} {S : Sto}
inductive TyA (K : PySem.W.Frag) (H : Hp) : V → Value → Prop where
  | b {x : V} {t : Value} (h : TyX K H x t) : TyA K H x t
  | e {a C : Addr} {d : Option Addr} (h : H a = some (ExV (.ref C) d a)) (hd : d = none ∨ ∃ dd fs, d = some dd ∧ H dd = some (.xd fs)) (c : ExcC K C) : TyA K H (.ref a) (.ref C)
theorem kit_ofA {pins : List (Addr × Obj)} {σ : L2.St} {s : Shared} {x : V} {u t : Value} (I : L2.Inv X pins σ H s) (rx : RelV x u) (ty : TyA X.K H x t) :
    ∃ P : Heap → Prop, PySem.W.KitX X.K u t P ∧ P s.heap ∧ u ≠ .builtin "__main__.__loader__#opaque" := by
  cases ty with
  | b h => exact kit_of I rx h
  | @e a C d h hd c =>
    cases (show u = Value.ref a from rx)
    obtain ⟨⟨oe, vs, hg, hz, hdd⟩, _, _⟩ := I.hok a _ h
    have hcl : (PySem.W.clsIn X.K C).isSome = true := by
      obtain ⟨cd, hc, _⟩ := PySem.W.any_some c.hd
      rw [hc]; rfl
    rcases hd with rfl | ⟨dd, fs, rfl, ed⟩
    · have J : PySem.W.InstAt s.heap a oe C none := ⟨hg, hz.1, by unfold PySem.W.notCls; rw [hdd] <;> rfl, by rw [hz.2]; trivial⟩
      exact ⟨_, PySem.W.kitx_exc hcl c.hg c.hk c.hs c.ha c.hn c.ht c.hm, J, fun z => nomatch z⟩
    · obtain ⟨mA, hns, _⟩ : ObjOk X.prog X.w H s.heap dd (.xd fs) := I.hok dd _ ed
      obtain ⟨od, ho, _⟩ := lookIn_ns hns
      have J : PySem.W.InstAt s.heap a oe C (some od) := ⟨hg, hz.1, by unfold PySem.W.notCls; rw [hdd] <;> rfl, by rw [hz.2]; exact ho⟩
      exact ⟨_, PySem.W.kitx_exc hcl c.hg c.hk c.hs c.ha c.hn c.ht c.hm, J, fun z => nomatch z⟩
def rIsA (K : PySem.W.Frag) : List V → Hp → VK → Prop := fun xs H Q => ∃ (x c : V) (t u : Value) (b : Bool), xs = [x, c] ∧ ClsV c u ∧ TyA K H x t ∧ PySem.W.kitOne K t u = some b ∧ Q (.bl b) H
def rIsAT (K : PySem.W.Frag) : List V → Hp → VK → Prop := fun xs H Q => ∃ (x : V) (tp : Addr) (cs : List V) (t : Value) (us : List Value) (b : Bool), xs = [x, .ref tp] ∧ H tp = some (.tup cs) ∧ Paired ClsV cs us ∧ TyA K H x t ∧ PySem.W.kitAny K t us = some b ∧ Q (.bl b) H
theorem cr_isA : CallR X (.builtin "isinstance") (rIsA X.K) := by
  intro pins s σ H xs us Q I r h
  obtain ⟨x, c, t, u, b, rfl, k, ty, e, q⟩ := h
  obtain ⟨w1, w2, rfl, r1, r2⟩ := vals2 r
  cases k.eq r2
  obtain ⟨P, Z, p, hx⟩ := kit_ofA I r1 ty
  exact PySem.W.kia_one Z I.kIn p e hx fun tk => ⟨.bl b, H, I.tok tk, rfl, q⟩
theorem cr_isAT : CallR X (.builtin "isinstance") (rIsAT X.K) := by
  intro pins s σ H xs us Q I r h
  obtain ⟨x, tp, cs, t, ws, b, rfl, hT, k, ty, e, q⟩ := h
  obtain ⟨w1, w2, rfl, r1, r2⟩ := vals2 r
  cases (show w2 = Value.ref tp from r2)
  obtain ⟨P, Z, p, hx⟩ := kit_ofA I r1 ty
  obtain ⟨_, its, rv, o, g1, g2, n, g3⟩ := (show ObjOk X.prog X.w H s.heap tp (.tup cs) from I.hok tp _ hT)
  cases ClsV.all k rv
  obtain ⟨oc, od, dt, sl⟩ := o
  simp only at g2 g3
  subst g2 g3
  exact PySem.W.kia_tup Z I.kIn p g1 e hx fun tk => ⟨.bl b, H, I.tok tk, rfl, q⟩
def TyF (K : PySem.W.Frag) (t : TyN) (c : V) (u : Value) : Prop := match t with
  | .bt n => n ∈ btNames ∧ c = .ty n ∧ u = .type n
  | .cl k => Kn K k ∧ c = .ref (gaK K (clsN k)) ∧ u = .ref (gaK K (clsN k))
theorem TyF.cls {t : TyN} {c : V} {u : Value} (h : TyF K t c u) : ClsV c u := by
  cases t with
  | bt n => obtain ⟨_, rfl, rfl⟩ := h; exact .ty n
  | cl k => obtain ⟨_, rfl, rfl⟩ := h; exact .own _
theorem bt_ty {d : D} {v : V} {b : String} (s : StoOk K H S) (r : Rp K H d v) (e : btOf S d = some b) : TyX K H v (.type b) ∧ b ∈ btKinds := by
  cases d with
  | non => cases r; cases e; exact ⟨.base .non, by decide⟩
  | bl c => cases r; cases e; exact ⟨.base (.bl c), by decide⟩
  | int i => cases r; cases e; exact ⟨.base (.int i), by decide⟩
  | str x => cases r; cases e; exact ⟨.base (.str x), by decide⟩
  | ty n => cases e
  | tup l =>
    cases e
    obtain ⟨a, vs, rfl, q, _⟩ := r
    refine ⟨?_, by decide⟩
    rcases q with (q | ⟨o, q⟩) | ⟨o, its, n, q, hc, _⟩
    · exact .base (.tup q)
    · exact .fTuple q
    · exact .kTuple q hc
  | ref a =>
    cases r
    simp only [btOf] at e
    split at e
    · rename_i w l q
      cases e
      refine ⟨?_, by decide⟩
      have z := s a _ q
      cases w with
      | true => obtain ⟨vs, h, _⟩ := z; exact .base (.lst h)
      | false => obtain ⟨o, vs, h, _⟩ := z; exact .base (.frz h)
    · cases e
theorem kb_all : ∀ b, b ∈ btKinds → ∀ n, n ∈ btNames → kitB b n = some (btSub b n) := by decide +kernel
theorem isi_one {d : D} {v : V} {t : TyN} {c : V} {u : Value} {b : Bool} (F : CFs K) (s : StoOk K H S) (r : Rp K H d v) (e : isiOne S d t = some b) (ty : TyF K t c u) : ∃ tv, (TyA K H v tv ∧ ∀ t' c' u' b', isiOne S d t' = some b' → TyF K t' c' u' → PySem.W.kitOne K tv u' = some b') ∧ PySem.W.kitOne K tv u = some b := by
  have key : ∃ tv, TyA K H v tv ∧ ∀ t' c' u' b', isiOne S d t' = some b' → TyF K t' c' u' → PySem.W.kitOne K tv u' = some b' := by
    unfold isiOne at e
    cases q : btOf S d with
    | some k =>
      obtain ⟨h1, h2⟩ := bt_ty s r q
      refine ⟨_, .b h1, fun t' c' u' b' e' ty' => ?_⟩
      unfold isiOne at e'
      rw [q] at e'
      cases t' with
      | bt n =>
        obtain ⟨hn, rfl, rfl⟩ := ty'
        rw [← e']
        exact kit_ty (kb_all k h2 n hn)
      | cl j =>
        obtain ⟨hn, rfl, rfl⟩ := ty'
        rw [← e']
        exact (F.one j hn).kin k h2
    | none =>
      rw [q] at e
      cases d <;> (try (cases e; done))
      rename_i a
      cases r
      dsimp only at e
      split at e
      · rename_i k f q2
        obtain ⟨dd, h1, h2⟩ := s a _ q2
        have kn := h2.kn
        have hdd : dd = none ∨ ∃ d' fs, dd = some d' ∧ H d' = some (.xd fs) := by
          cases f with
          | none => exact .inl h2.2
          | some x =>
            obtain ⟨_, da, v, e1, e2, _⟩ := h2
            exact .inr ⟨da, _, e1, e2⟩
        refine ⟨_, .e h1 hdd (F.one k kn).exc, fun t' c' u' b' e' ty' => ?_⟩
        unfold isiOne at e'
        rw [q] at e'
        dsimp only at e'
        rw [q2] at e'
        cases t' with
        | bt n =>
          obtain ⟨hn, rfl, rfl⟩ := ty'
          rw [← e']
          exact (F.one k kn).bts n hn
        | cl j =>
          obtain ⟨hn, rfl, rfl⟩ := ty'
          rw [← e']
          exact (F.two k j kn hn).kit
      · cases e
  obtain ⟨tv, h1, h2⟩ := key
  exact ⟨tv, ⟨h1, h2⟩, h2 t c u b e ty⟩
theorem isi_any {d : D} {v : V} (F : CFs K) (s : StoOk K H S) (r : Rp K H d v) {tv : Value} (h2 : ∀ t' c' u' b', isiOne S d t' = some b' → TyF K t' c' u' → PySem.W.kitOne K tv u' = some b') :
    ∀ {ts : List TyN} {cs : List V} {us : List Value} {b : Bool}, Paired (fun (q : TyN × V) u => TyF K q.1 q.2 u) (ts.zip cs) us → ts.length = cs.length → isiAny S d ts = some b → PySem.W.kitAny K tv us = some b
  | [], [], _, b, p, _, e => by
    cases p
    exact e
  | t :: ts, c :: cs, _, b, p, hl, e => by
    cases p with
    | cons h p =>
      simp only [isiAny] at e
      unfold PySem.W.kitAny
      cases q : isiOne S d t with
      | none => rw [q] at e; cases e
      | some k =>
        rw [q] at e
        rw [h2 t c _ k q h]
        cases k with
        | true => exact e
        | false => exact isi_any F s r h2 p (by simpa using hl) e
end
end Sd
namespace Sd
open PySem PySem.Spec PyProof.Rows L2
section
variable {X : Cx} {Wh : WX} {Γ : Gam} {A B C : AE} {As : AA} {a b c e : Expr} {es rest : List Expr} {pos : Pos} {K : PySem.W.Frag} {H : Hp} {S : Sto}
def ClsE (X : Cx) (e : Expr) (t : TyN) : Prop := ∃ c u, PE X e (tC c) ∧ TyF X.K t c u ∧ ∀ es, starEach (e :: es) X.env = (false, eval e X.env) :: starEach es X.env
theorem l_isi1 {t : TyN} {te : Expr} {p : Pos} (F : CFs X.K) (hg : Gl X "isinstance") (hm : X.mg "isinstance" = none) (ha : PE X a (LE X.K Wh A)) (ht : ClsE X te t) (hs : starEach [a, te] X.env = (false, eval a X.env) :: starEach [te] X.env) :
    PE X (.Call (.Name "isinstance" p) [a, te] [] pos) (LE X.K Wh fun ρ S P W => A ρ S (fun x S1 => match isiAny S1 x [t] with
      | some b => P (.bl b) S1
      | none => False) W) := by
  obtain ⟨c, u, hc, ty, hst⟩ := ht
  have hpl : (backTo pos (starEach [te] X.env)).any (·.1) = false := by
    rw [hst []]
    rfl
  refine PE.imp (pe_callB cr_isA hg hm (by decide +kernel) (pa_cons ha (pa_cons hc pa_nil (hst [])) hs) (by decide) (by decide) hs hpl) fun σ H Q ⟨ρ, S, W, P, se, wl, pl, h⟩ => ?_
  refine ⟨ρ, S, W, _, se, wl, fun x S1 h1 v H1 k1 s1 r1 => ?_, h⟩
  cases q : isiOne S1 x t with
  | none =>
    simp only [isiAny, q] at h1
  | some b =>
    have h2 : P (.bl b) S1 := by
      simp only [isiAny, q] at h1
      cases b <;> exact h1
    obtain ⟨tv, ⟨z1, _⟩, z2⟩ := isi_one F s1 r1 q ty
    exact ⟨v, c, tv, u, b, rfl, ty.cls, z1, z2, pl _ _ h2 _ H1 k1 s1 rfl⟩
inductive ClsEs (X : Cx) : List Expr → List TyN → List V → List Value → Prop where
  | nil : ClsEs X [] [] [] []
  | cons {e : Expr} {es : List Expr} {t : TyN} {ts : List TyN} {c : V} {cs : List V} {u : Value} {us : List Value} (h : PE X e (tC c)) (ty : TyF X.K t c u) (st : starEach (e :: es) X.env = (false, eval e X.env) :: starEach es X.env) (r : ClsEs X es ts cs us) : ClsEs X (e :: es) (t :: ts) (c :: cs) (u :: us)
theorem ClsEs.pa {ts : List TyN} {cs : List V} {us : List Value} (h : ClsEs X es ts cs us) : PA X es (fun _ H Q => Q cs H) := by
  induction h with
  | nil => exact PA.imp pa_nil fun _ _ _ q => q
  | cons h ty st r ih => exact PA.imp (pa_cons h ih st) fun _ _ _ q => q
theorem ClsEs.len {ts : List TyN} {cs : List V} {us : List Value} (h : ClsEs X es ts cs us) : ts.length = cs.length := by
  induction h with
  | nil => rfl
  | cons h ty st r ih => simp [ih]
theorem ClsEs.cls {ts : List TyN} {cs : List V} {us : List Value} (h : ClsEs X es ts cs us) : Paired ClsV cs us := by
  induction h with
  | nil => exact .nil
  | cons h ty st r ih => exact .cons ty.cls ih
theorem ClsEs.tyf {ts : List TyN} {cs : List V} {us : List Value} (h : ClsEs X es ts cs us) : Paired (fun (q : TyN × V) u => TyF X.K q.1 q.2 u) (ts.zip cs) us := by
  induction h with
  | nil => exact .nil
  | cons h ty st r ih => exact .cons ty ih
theorem l_isiT {t : TyN} {ts : List TyN} {cs : List V} {us : List Value} {p p2 : Pos} {x1} (F : CFs X.K) (hg : Gl X "isinstance") (hm : X.mg "isinstance" = none) (ha : PE X a (LE X.K Wh A)) (ht : ClsEs X es (t :: ts) cs us) (hz : es.length ≤ 100)
    (hs : starEach [a, .Tuple es x1 p2] X.env = (false, eval a X.env) :: starEach [.Tuple es x1 p2] X.env) :
    PE X (.Call (.Name "isinstance" p) [a, .Tuple es x1 p2] [] pos) (LE X.K Wh fun ρ S P W => A ρ S (fun x S1 => match isiAny S1 x (t :: ts) with
      | some b => P (.bl b) S1
      | none => False) W) := by
  have hcl : cs.length ≤ sizeLine := by
    have h1 : ∀ {es ts cs us}, ClsEs X es ts cs us → cs.length = es.length := fun h => by
      induction h with
      | nil => rfl
      | cons _ _ _ _ ih => simp [ih]
    rw [h1 ht, sizeLine_eq]
    omega
  refine PE.imp (pe_callB cr_isAT hg hm (by decide +kernel) (pa_cons ha (pa_cons (pe_tup ht.pa) pa_nil rfl) hs) (by decide) (by decide) hs rfl) fun σ H Q ⟨ρ, S, W, P, se, wl, pl, h⟩ => ?_
  refine ⟨ρ, S, W, _, se, wl, fun x S1 h1 v H1 k1 s1 r1 => ?_, h⟩
  refine ⟨hcl, fun tp htp => ?_⟩
  have k2 := Kp.new (o := HO.tup cs) htp
  have s2 := s1.sm (Sm.new (o := HO.tup cs) htp)
  have r2 := Rp.kp k2 _ r1
  split at h1
  · rename_i b eb
    have hp2 := ht
    cases ht with
    | cons hp ty st r =>
      have q0 : ∃ b0, isiOne S1 x t = some b0 := by
        simp only [isiAny] at eb
        cases z : isiOne S1 x t with
        | none => rw [z] at eb; cases eb
        | some k => exact ⟨k, rfl⟩
      obtain ⟨b1, q1⟩ := q0
      obtain ⟨tv, ⟨z1, z2⟩, _⟩ := isi_one F s2 r2 q1 ty
      exact ⟨v, tp, _, tv, _, b, rfl, upd_same, hp2.cls, z1, isi_any F s2 r2 z2 hp2.tyf hp2.len eb, pl _ _ h1 _ _ (k1.trans k2) s2 rfl⟩
  · exact h1.elim
def meId : ME → String
  | .append => "list.append" | .pop0 => "list.pop" | .pop1 => "list.pop" | .reverse => "list.reverse" | .clear => "list.clear" | .extend => "list.extend" | .insert => "list.insert" | .count => "list.count" | .index => "list.index" | .remove => "list.remove"
def MeAbs (K : PySem.W.Frag) (r : V → List V → Hp → VK → Prop) (f : D → List D → Sto → PD → Prop) : Prop := ∀ x ds S P, f x ds S P → ∀ H v vs Q, StoOk K H S → Rp K H x v → Rps K H ds vs → PLe K H P Q → r v vs H Q
theorem me_lst {m : ME} {x : D} {ds : List D} {P : PD} (h : meS m x ds S P) : ∃ a l, x = .ref a ∧ S a = some (.lst true l) := by
  cases x <;> (try exact (show False from h).elim)
  rename_i a
  unfold meS at h
  dsimp only at h
  split at h
  · rename_i l e
    exact ⟨a, l, rfl, e⟩
  · exact h.elim
theorem PLe.put {P : PD} {Q : VK} {p : Addr} {l' : List D} {xs ys : List V} {d : D} {v : V} (h : PLe K H P Q) (s : StoOk K H S) (hp : H p = some (.lst xs)) (hr : Rps K H l' ys) (q : P d (S.up p (.lst true l'))) (r : Rp K H d v) : Q v (upd H p (.lst ys)) :=
  h _ _ q _ _ (Kp.lst hp) (s.lst (l := l') hp hr) (Rp.kp (Kp.lst hp) _ r)
theorem me_append : MeAbs K rAppend (meS .append) := by
  intro x ds S P h H v vs Q s rx rs pl
  obtain ⟨a, l, rfl, e⟩ := me_lst h
  cases rx
  simp only [meS, e] at h
  match ds, h with
  | [y], h =>
    obtain ⟨u, rfl, ru⟩ := rs.one'
    obtain ⟨xs, h1, h2⟩ := s a _ e
    exact ⟨a, xs, u, rfl, rfl, h1, by rw [h2.length]; exact h.1, pl.put s h1 (h2.append (Rps.one ru)) h.2 rfl⟩
theorem me_pop0 : MeAbs K rPop (meS .pop0) := by
  intro x ds S P h H v vs Q s rx rs pl
  obtain ⟨a, l, rfl, e⟩ := me_lst h
  cases rx
  simp only [meS, e] at h
  match ds, h with
  | [], h =>
    cases rs.nil'
    obtain ⟨xs, h1, h2⟩ := s a _ e
    dsimp only at h
    split at h
    · rename_i y ey
      obtain ⟨u, e2, ru⟩ := h2.get ey
      refine ⟨a, xs, u, rfl, rfl, h1, by rw [h2.length]; exact e2, pl.put s h1 ?_ h ru⟩
      rw [List.dropLast_eq_take, List.dropLast_eq_take, h2.length]
      exact h2.take _
    · exact h.elim
theorem Rps.era : ∀ {l : List D} {vs : List V} (k : Nat), Rps K H l vs → Rps K H (l.eraseIdx k) (vs.eraseIdx k)
  | [], _, _, h => by rw [h.nil', List.eraseIdx_nil, List.eraseIdx_nil]; exact rfl
  | d :: l, _, 0, h => by
    obtain ⟨v, r, rfl, a, t⟩ := h
    exact t
  | d :: l, _, k + 1, h => by
    obtain ⟨v, r, rfl, a, t⟩ := h
    exact ⟨v, _, rfl, a, Rps.era k t⟩
theorem me_pop1 : MeAbs K rPopAt (meS .pop1) := by
  intro x ds S P h H v vs Q s rx rs pl
  obtain ⟨a, l, rfl, e⟩ := me_lst h
  cases rx
  simp only [meS, e] at h
  match ds, h with
  | [.int i], h =>
    obtain ⟨u, rfl, ru⟩ := rs.one'
    cases ru
    obtain ⟨xs, h1, h2⟩ := s a _ e
    have hl := h2.length
    obtain ⟨h0, h⟩ := h
    split at h
    · rename_i y ey
      unfold atI at ey
      cases q : ixN l.length i with
      | none => rw [q] at ey; cases ey
      | some k =>
        rw [q] at ey h
        have ey : l[k]? = some y := ey
        obtain ⟨z1, z2, z3, z4⟩ := ixN_seq q
        obtain ⟨u, e2, ru⟩ := h2.get ey
        refine ⟨a, xs, i, k, u, rfl, rfl, h1, h0.1, h0.2, by rw [hl]; exact z1, e2, pl.put s h1 (h2.era k) h ru⟩
    · exact h.elim
def rCountF (K : PySem.W.Frag) : V → List V → Hp → VK → Prop := fun x xs H Q => ∃ (a : Addr) (ys : List V) (y : V), x = V.ref a ∧ xs = [y] ∧ SqL K H a ys ∧ flatV y = true ∧ ys.all flatV = true ∧ Q (.int (ys.countP fun z => eqV z y : Nat)) H
theorem count_eqU {y : V} : ∀ {ys : List V} {us : List Value}, Vals ys us → ys.all flatV = true → us.countP (eqU y) = ys.countP fun z => eqV z y
  | _, _, .nil, _ => rfl
  | z :: ys, u :: us, .cons r t, f => by
    rw [List.all_cons, Bool.and_eq_true] at f
    rw [List.countP_cons, List.countP_cons, eqU_of r f.1, count_eqU t f.2]
theorem mt_countF {X : Cx} : MtR X "list.count" (rCountF X.K) := by
  intro pins s σ H x xs v us Q I rx rxs h
  obtain ⟨a, ys, y, rfl, rfl, hs, fy, fys, q⟩ := h
  cases rx
  cases rxs with
  | cons ry rt =>
    rename_i uy ut
    cases rt
    obtain ⟨its, rv, ⟨⟨cls, dd, data, sl⟩, n, ho, hc, hdn, hd⟩, hlen⟩ := I.list hs
    simp only at hc hd
    subst hc hd
    refine call_meets PySem.F.slot_list_count ⟨_, ho, rfl⟩ PySem.F.entry_list_count (PySem.F.args_list_count_2 _ _)
      (SeqAt.list_countAt a its.toArray n dd sl uy (eqU y)) ⟨ho, fun u' hu' => mem_eqAt ry fy rv fys u' (by simpa using hu'), ?_⟩
    have ec : its.toArray.toList.countP (eqU y) = ys.countP fun z => eqV z y := by simpa using count_eqU rv fys
    refine ⟨.int (ys.countP fun z => eqV z y : Nat), H, I.tok _, ⟨s.toks, ?_⟩, q⟩
    show Value.int ((its.toArray.toList.countP (eqU y) : Nat) : Int) s.toks = _
    rw [ec]
theorem count_fl {y : D} (hy : flD y = true) : ∀ {l : List D}, l.all flD = true → ((l.map flVal).countP fun z => eqV z (flVal y)) = l.countP fun z => eqFl z y
  | [], _ => rfl
  | d :: l, h => by
    rw [List.all_cons, Bool.and_eq_true] at h
    rw [List.map_cons, List.countP_cons, List.countP_cons, eq_fl h.1 hy, count_fl hy h.2]
theorem me_count : MeAbs K (rCountF K) (meS .count) := by
  intro x ds S P h H v vs Q s rx rs pl
  obtain ⟨a, l, rfl, e⟩ := me_lst h
  cases rx
  simp only [meS, e] at h
  match ds, h with
  | [y], h =>
    obtain ⟨u, rfl, ru⟩ := rs.one'
    obtain ⟨xs, h1, h2⟩ := s a _ e
    obtain ⟨h3, h4, h5⟩ := h
    obtain ⟨e1, f1⟩ := fl_rp ru h3
    obtain ⟨e2, f2⟩ := fl_rps h2 h4
    refine ⟨a, xs, u, rfl, rfl, SqL.of h1, f1, f2, ?_⟩
    rw [e1, e2, count_fl h3 h4]
    exact pl.now h5 s rfl
theorem me_index : MeAbs K (fun x xs H Q => rIndex K x xs H Q ∨ rIndexD K x xs H Q) (meS .index) := by
  intro x ds S P h H v vs Q s rx rs pl
  obtain ⟨a, l, rfl, e⟩ := me_lst h
  cases rx
  simp only [meS, e] at h
  match ds, h with
  | [], h => exact (show False from h).elim
  | y1 :: _ :: _, h => cases y1 <;> exact (show False from h).elim
  | [y], h =>
    obtain ⟨u, rfl, ru⟩ := rs.one'
    obtain ⟨xs, h1, h2⟩ := s a _ e
    by_cases hy : ∃ yd, y = .tup yd
    · obtain ⟨yd, rfl⟩ := hy
      dsimp only at h
      split at h
      · rename_i p ps e1 e2
        obtain ⟨j, q, h3, h4, h5, h6⟩ := h
        exact .inr ⟨a, u, p, ps, j, q, rfl, rfl, pdS_dp s e2 rfl, pdS_dp s e1 ru, pdS_sh e2, pdS_sh e1, h3, h4, h5, pl.now h6 s rfl⟩
      · exact h.elim
    refine .inl ?_
    have h : flD y = true ∧ l.all flD = true ∧ ∃ (j : Nat) (z : D), l[j]? = some z ∧ eqFl z y = true ∧ (∀ (m : Nat) (z' : D), m < j → l[m]? = some z' → eqFl z' y = false) ∧ P (.int (j : Nat)) S := by
      cases y <;> first | exact h | exact (hy ⟨_, rfl⟩).elim
    obtain ⟨h3, h4, j, z, h5, h6, h7, h8⟩ := h
    obtain ⟨e1, f1⟩ := fl_rp ru h3
    obtain ⟨e2, f2⟩ := fl_rps h2 h4
    have fz : ∀ {m : Nat} {z : D}, l[m]? = some z → flD z = true := fun hz => List.all_eq_true.mp h4 _ (List.mem_of_getElem? hz)
    refine ⟨a, xs, u, j, flVal z, rfl, rfl, SqL.of h1, f1, f2, by rw [e2, List.getElem?_map, h5]; rfl, by rw [e1, eq_fl (fz h5) h3]; exact h6, fun m z' hm hz' => ?_, pl.now h8 s rfl⟩
    rw [e2, List.getElem?_map] at hz'
    cases q : l[m]? with
    | none => rw [q] at hz'; cases hz'
    | some w =>
      rw [q] at hz'
      cases hz'
      rw [e1, eq_fl (fz q) h3]
      exact h7 m w hm q
def rRemD (K : PySem.W.Frag) : V → List V → Hp → VK → Prop := fun x xs H Q => ∃ (a : Addr) (ws : List V) (y : V) (d : PyData) (ds : List PyData) (j : Nat) (z : PyData), x = V.ref a ∧ xs = [y] ∧ H a = some (.lst ws) ∧ Dp K H (V.ref a) (.list ds) ∧ Dp K H y d ∧
  SeqAt.shaped (.list ds) = true ∧ SeqAt.shaped d = true ∧ ds[j]? = some z ∧ PyData.eqv z d = true ∧ (∀ (m : Nat) (z' : PyData), m < j → ds[m]? = some z' → PyData.eqv z' d = false) ∧ Q .non (upd H a (.lst (ws.eraseIdx j)))
theorem mt_removeD {X : Cx} (hu : X.A.units + 65 < cLine) : MtR X "list.remove" (rRemD X.K) := by
  intro pins s σ H x xs v us Q I rx rxs h
  obtain ⟨a, ws, y, d, ds, j, z, rfl, rfl, hH, hl, hy, sl, sd, hz, hzj, hno, q⟩ := h
  cases rx
  cases rxs with
  | cons ry rt =>
    rename_i uy ut
    cases rt
    obtain ⟨bs, r1⟩ := Dp.reads I d y uy hy ry
    have hxs : PyData.canLayAll0 ds = true := SeqAt.canLay_of_shaped sl
    have hroom : X.A.units + 1 + min (PyData.depthAll ds) d.depth < cLine := room_in_shaped sd hu
    cases hl with
    | lst hs ha =>
      obtain ⟨its, rv, ⟨⟨cls, dd, data, sls⟩, n, ho, hc, hdn, hdt⟩, hlen⟩ := I.list hs
      simp only at hc hdt
      subst hc hdt
      obtain ⟨zw, its2, n2, r2, hl2, e0⟩ := I.lstM hH
      have ee := Option.some.inj (ho.symm.trans e0)
      have ei : its = its2 := by
        injection ee with _ _ e3 _
        injection e3 with e4 _
        simpa using e4
      subst ei
      obtain ⟨as, h4⟩ := Dp.readsAll I ds _ its ha rv
      have hn : its.length = ds.length := SeqAt.ReadsAll.length ds its as h4
      have hmap : its.map (SeqAt.readOf s.heap) = ds := SeqAt.readsAll_map ds its as hxs h4
      have hvl := r2.length
      obtain ⟨hjd, _⟩ := List.getElem?_eq_some_iff.mp hz
      have hjl : j < its.length := by omega
      have hj : j < its.toArray.size := by simpa using hjl
      have at_ : ∀ (m : Nat) (hm : m < its.toArray.size) (z' : PyData), ds[m]? = some z' → SeqAt.readOf s.heap its.toArray[m] = z' := by
        intro m hm z' hz'
        have hml : m < its.length := by simpa using hm
        rw [← hmap, List.getElem?_map, List.getElem?_eq_getElem hml] at hz'
        have e1 : SeqAt.readOf s.heap its[m] = z' := Option.some.inj (show some (SeqAt.readOf s.heap its[m]) = some z' from hz')
        simpa using e1
      refine call_meets PySem.F.slot_list_remove ⟨_, e0, rfl⟩ PySem.F.entry_list_remove (PySem.F.args_list_remove_2 _ _)
        (SeqAt.list_removeAt a its.toArray n2 none #[] uy (fun u => PyData.eqv (SeqAt.readOf s.heap u) d) j hj ?_ ?_ (by rw [List.size_toArray]; omega)) ⟨e0, SeqAt.items_eqAt (vs := its.toArray) (show ReadsAll s.heap its.toArray.toList ds as from h4) r1 hxs (SeqAt.canLay_of_shaped sd) hroom, ?_⟩
      · show PyData.eqv (SeqAt.readOf s.heap its.toArray[j]) d = true
        rw [at_ j hj z hz]
        exact hzj
      · intro m hm hmj
        have hmd : m < ds.length := by omega
        have hz' : ds[m]? = some ds[m] := List.getElem?_eq_getElem hmd
        show PyData.eqv (SeqAt.readOf s.heap its.toArray[m]) d = false
        rw [at_ m hm _ hz']
        exact hno m _ hmj hz'
      · refine ⟨.non, _, I.lset (its' := its.eraseIdx j) hH e0 ?_ (r2.eraseIdx j) ?_, rfl, q⟩
        · show its.toArray.eraseIdxIfInBounds j = (its.eraseIdx j).toArray
          rw [List.eraseIdxIfInBounds_toArray]
        · have := len_erase ws j
          omega
theorem me_remove : MeAbs K (rRemD K) (meS .remove) := by
  intro x ds S P h H v vs Q s rx rs pl
  obtain ⟨a, l, rfl, e⟩ := me_lst h
  cases rx
  simp only [meS, e] at h
  match ds, h with
  | [y], h =>
    obtain ⟨u, rfl, ru⟩ := rs.one'
    obtain ⟨xs, h1, h2⟩ := s a _ e
    dsimp only at h
    split at h
    · rename_i p ps e1 e2
      obtain ⟨j, q, h3, h4, h5, h6⟩ := h
      exact ⟨a, xs, u, p, ps, j, q, rfl, rfl, h1, pdS_dp s e2 rfl, pdS_dp s e1 ru, pdS_sh e2, pdS_sh e1, h3, h4, h5, pl.put s h1 (h2.era j) h6 rfl⟩
    · exact h.elim
theorem Rps.rev : ∀ {l : List D} {vs : List V}, Rps K H l vs → Rps K H l.reverse vs.reverse
  | [], _, h => by rw [h.nil']; rfl
  | d :: l, _, h => by
    obtain ⟨v, r, rfl, a, t⟩ := h
    rw [List.reverse_cons, List.reverse_cons]
    exact (Rps.rev t).append (Rps.one a)
theorem me_reverse : MeAbs K rReverse (meS .reverse) := by
  intro x ds S P h H v vs Q s rx rs pl
  obtain ⟨a, l, rfl, e⟩ := me_lst h
  cases rx
  simp only [meS, e] at h
  match ds, h with
  | [], h =>
    cases rs.nil'
    obtain ⟨xs, h1, h2⟩ := s a _ e
    exact ⟨a, xs, rfl, rfl, h1, pl.put s h1 h2.rev h rfl⟩
theorem me_clear : MeAbs K rClear (meS .clear) := by
  intro x ds S P h H v vs Q s rx rs pl
  obtain ⟨a, l, rfl, e⟩ := me_lst h
  cases rx
  simp only [meS, e] at h
  match ds, h with
  | [], h =>
    cases rs.nil'
    obtain ⟨xs, h1, h2⟩ := s a _ e
    exact ⟨a, xs, rfl, rfl, h1, pl.put s h1 (show Rps K H [] [] from rfl) h rfl⟩
def rInsert : V → List V → Hp → VK → Prop := fun x vs H Q => ∃ (l : Addr) (xs : List V) (i : Int) (y : V), x = .ref l ∧ vs = [.int i, y] ∧ H l = some (.lst xs) ∧ xs.length < sizeLine ∧ 0 ≤ i ∧ i < 2 ^ 63 ∧
    Q .non (upd H l (.lst (xs.take i.toNat ++ [y] ++ xs.drop i.toNat)))
theorem me_insert : MeAbs K rInsert (meS .insert) := by
  intro x ds S P h H v vs Q s rx rs pl
  obtain ⟨a, l, rfl, e⟩ := me_lst h
  cases rx
  simp only [meS, e] at h
  match ds, h with
  | [.int i, y], h =>
    obtain ⟨u, w, rfl, ru, rw'⟩ := rs.two'
    cases ru
    obtain ⟨xs, h1, h2⟩ := s a _ e
    exact ⟨a, xs, i, w, rfl, rfl, h1, by rw [h2.length]; exact h.1, h.2.1, h.2.2.1, pl.put s h1 (((h2.take _).append (Rps.one rw')).append (h2.drop _)) h.2.2.2 rfl⟩
theorem me_extend : MeAbs K rExtend (meS .extend) := by
  intro x ds S P h H v vs Q s rx rs pl
  obtain ⟨a, l, rfl, e⟩ := me_lst h
  cases rx
  simp only [meS, e] at h
  match ds, h with
  | [.ref b], h =>
    obtain ⟨u, rfl, ru⟩ := rs.one'
    cases ru
    obtain ⟨xs, h1, h2⟩ := s a _ e
    dsimp only at h
    split at h
    · rename_i m eb
      obtain ⟨ys, h3, h4⟩ := s b _ eb
      exact ⟨a, b, xs, ys, rfl, rfl, h1, h3, by rw [h2.length, h4.length]; exact h.1, pl.put s h1 (h2.append h4) h.2 rfl⟩
    · exact h.elim
end
section
variable {X : Cx} {Wh : WX} {A : AE} {e : Expr} {n : Str} {pos : Pos}
theorem l_fld (F : CFs X.K) (he : PE X e (LE X.K Wh A)) (hb : attributeBase e n X.env (eval e X.env) = eval e X.env) : PE X (.Attribute e n pos) (LE X.K Wh fun ρ S P W => A ρ S (fun x S1 => match x with
    | .ref a => (match S1 a with
      | some (.exc k (some d)) => fldN k = n ∧ P d S1
      | _ => False)
    | _ => False) W) := by
  refine ⟨fun pins s σ H Q I h => ?_⟩
  obtain ⟨ρ, S, W, P, se, wl, pl, h⟩ := h
  let Q1 : VK := fun x H1 => ∃ (a C dd : Addr) (fs : List (Str × V)) (v : V), x = .ref a ∧ ExcC X.K C ∧ PySem.W.findIn X.K (.ref C) n = some none ∧ H1 a = some (ExV (.ref C) (some dd) a) ∧ H1 dd = some (.xd fs) ∧ fs.lookup n = some v ∧ Q v H1
  have hrun := he.run pins s σ H Q1 I ⟨ρ, S, W, _, se, wl, fun x S1 h1 v H1 k1 s1 r1 => by
    cases x <;> (try exact (show False from h1).elim)
    rename_i a
    cases r1
    dsimp only at h1
    split at h1
    · rename_i k d q
      obtain ⟨e1, p1⟩ := h1
      subst e1
      obtain ⟨dd, g1, kn, da, v, rfl, g2, g3⟩ := s1 a _ q
      exact ⟨a, _, da, _, v, rfl, (F.one k kn).exc, (F.one k kn).nof, g1, g2, by simp [List.lookup], pl _ _ p1 _ H1 k1 s1 g3⟩
    · exact h1.elim, h⟩
  refine attr_of hb (thn hrun fun u s1 hh => ?_)
  obtain ⟨x, H1, I1, rx, a, C, dd, fs, v, ex, T, hno, ea, ed, l, q⟩ := hh
  subst ex
  obtain rfl : u = Value.ref a := rx
  obtain ⟨⟨oe, vs, hg, hz, hdd⟩, _, _⟩ := I1.hok a _ ea
  obtain ⟨mA, hns, hr⟩ : ObjOk X.prog X.w H1 s1.heap dd (.xd fs) := I1.hok dd _ ed
  obtain ⟨od, ho, hl⟩ := lookIn_ns hns
  obtain ⟨u2, hu, ru⟩ := RelO.some_of (v := v) (o := mA n) (by rw [← l]; exact hr n)
  have J : PySem.W.InstAt s1.heap a oe C (some od) := ⟨hg, hz.1, by unfold PySem.W.notCls; rw [hdd] <;> rfl, by rw [hz.2]; exact ho⟩
  exact HandSPX.exc_get I1.kIn J T.hg T.hk T.hs (PySem.W.findObj_own T.hd hno rfl (by rw [hl, hu])) (handed_of ru) ⟨v, H1, I1.tok _, ru, q⟩
end
theorem fm_spec {f : Nat → Int} : ∀ n, (firstMet f n).Nodup ∧ ∀ x, x ∈ firstMet f n ↔ ∃ j, j < n ∧ f j = x
  | 0 => ⟨by rw [firstMet_zero]; exact List.nodup_nil, fun x => by rw [firstMet_zero]; simp⟩
  | n + 1 => by
    obtain ⟨h1, h2⟩ := fm_spec (f := f) n
    rw [firstMet_succ]
    unfold step_dedup
    have hx : ∀ x, (∃ j, j < n + 1 ∧ f j = x) ↔ ((∃ j, j < n ∧ f j = x) ∨ f n = x) := fun x =>
      ⟨fun ⟨j, hj, e⟩ => by
        rcases Nat.lt_or_ge j n with l | l
        · exact .inl ⟨j, l, e⟩
        · have : j = n := by omega
          exact .inr (this ▸ e), fun h => by
        rcases h with ⟨j, hj, e⟩ | e
        · exact ⟨j, by omega, e⟩
        · exact ⟨n, by omega, e⟩⟩
    split
    · rename_i ha
      obtain ⟨y, hy, ey⟩ := List.any_eq_true.mp ha
      have ey : y = f n := eq_of_beq ey
      subst ey
      refine ⟨h1, fun x => ?_⟩
      rw [hx, h2]
      exact ⟨.inl, fun h => h.elim id fun e => by rw [← e]; exact (h2 _).mp hy⟩
    · rename_i ha
      have hno : f n ∉ firstMet f n := fun z => ha (List.any_eq_true.mpr ⟨_, z, beq_self_eq_true _⟩)
      refine ⟨List.nodup_append.mpr ⟨h1, by simp, fun a ha b hb e => hno (by rw [List.mem_singleton] at hb; subst hb; subst e; exact ha)⟩, fun x => ?_⟩
      rw [List.mem_append, h2, hx, List.mem_singleton]
      exact ⟨fun h => h.imp id Eq.symm, fun h => h.imp id Eq.symm⟩
theorem fm_list {ns : List Int} : (firstMet (fun i => ns.getD i 0) ns.length).Nodup ∧ ∀ x, x ∈ firstMet (fun i => ns.getD i 0) ns.length ↔ x ∈ ns := by
  obtain ⟨h1, h2⟩ := fm_spec (f := fun i => ns.getD i 0) ns.length
  refine ⟨h1, fun x => ?_⟩
  rw [h2, List.mem_iff_getElem]
  constructor
  · rintro ⟨j, hj, e⟩
    refine ⟨j, hj, ?_⟩
    rw [← e]
    simp [hj]
  · rintro ⟨j, hj, e⟩
    refine ⟨j, hj, ?_⟩
    rw [← e]
    simp [hj]
section
variable {X : Cx} {Wh : WX} {A : AE} {e : Expr} {p p2 q pos : Pos}
theorem l_sz (kc : X.calm = true) (gl : Gl X "len") (ml : X.mg "len" = none) (gs : Gl X "set") (ms : X.mg "set" = none) (he : PE X e (LE X.K Wh A)) (hst : starEach [e] X.env = (false, eval e X.env) :: starEach [] X.env) :
    PE X (.Call (.Name "len" p) [.Call (.Name "set" p2) [e] [] q] [] pos) (LE X.K Wh fun ρ S P W => A ρ S (fun d S1 => lensS d S1 P) W) := by
  refine ⟨fun pins s σ H Q I h => ?_⟩
  obtain ⟨ρ, S, W, P, se, wl, pl, h⟩ := h
  let Q1 : VK := fun x H1 => ∃ (l : Addr) (ns : List Int), x = .ref l ∧ (SqL X.K H1 l (ns.map V.int) ∨ SqT X.K H1 l (ns.map V.int)) ∧ ns.length ≤ 4000 ∧ ∀ ks : List Int, ks.Nodup → (∀ i, i ∈ ks ↔ i ∈ ns) → Q (.int ks.length) H1
  have hrun := he.run pins s σ H Q1 I ⟨ρ, S, W, _, se, wl, fun x S1 h1 v H1 k1 s1 r1 => by
    unfold lensS at h1
    split at h1
    · rename_i l el
      obtain ⟨a, us, rfl, hq, rs⟩ := seqD_rd s1 r1 el
      split at h1
      · rename_i ns en
        exact ⟨a, ns, rfl, by rw [← intL_rps rs en]; exact hq, h1.1, fun ks hk hm => pl _ _ (h1.2 ks hk hm) _ H1 k1 s1 rfl⟩
      · exact h1.elim
    · exact h1.elim, h⟩
  refine Call_ (ld_blt I gl ml boot_len (callWith_builtin1 (args_cons (Call_ (ld_blt I gs ms boot_set ?_)) rfl) rfl rfl))
  refine callWith_type1 (args_cons (thn hrun fun v s1 hh => args_nil ?_) hst) hst rfl
  obtain ⟨x, H1, I1, r1, l, ns, rfl, hq, hl, hQ⟩ := hh
  cases r1
  rcases hq with hq | hq
  · obtain ⟨its, rv, pt, hz⟩ := I1.list hq
    have hsz : its.toArray.size = ns.length := by
      rw [List.size_toArray, ← rv.length, List.length_map]
    have hin : IntsAre its.toArray.toList ns := by simpa using RZ.intsAre_vals rv
    refine call_set_list (I1.ok.hd kc) pt.isList hin (by rw [hsz]; unfold scanBound; omega) fun h2 tk hS hk => args_nil ?_
    rw [hsz] at hS
    have hle := firstMet_length_le (fun i => ns.getD i 0) ns.length
    obtain ⟨f1, f2⟩ := fm_list (ns := ns)
    obtain ⟨o, es, ep, t, ho, hex, hd, _, _, _, hf, hn⟩ := hS
    have J : Inv X pins σ H1 { s1 with heap := h2, toks := tk } := I1.kept fun b o eb => hk b o (Heap.lt_size eb) eb
    refine call_len_set ho hex hd hf (by rw [hn]; omega) ⟨.int (firstMet (fun i => ns.getD i 0) ns.length).length, H1, J.tok _, ⟨_, by rw [hn]⟩, hQ _ f1 f2⟩
  · obtain ⟨its, rv, pt, hz⟩ := I1.tuple hq
    have hin : IntsAre its.toArray.toList ns := by simpa using RZ.intsAre_vals rv
    refine call_set_tupI ns (I1.ok.hd kc) pt hin (by unfold scanBound; omega) fun h2 tk c hS hc hk => args_nil ?_
    obtain ⟨o, es, ep, t, ho, hex, hd, _, hnd, hmem, hsz, hf, hn, _, _⟩ := hS
    have J : Inv X pins σ H1 { s1 with heap := h2, toks := tk } := I1.kept hk
    have hlen : (es.toList.map keyOf).length = c := by rw [List.length_map, Array.length_toList, hn]
    refine call_len_set ho hex hd hf (by rw [hn]; omega) ⟨.int (es.toList.map keyOf).length, H1, J.tok _, ⟨_, by rw [hlen, hn]⟩, hQ _ hnd fun i => ?_⟩
    rw [← hmem]
    exact decide_eq_true_iff
end
section
variable {P : Program} {w : World} {A : Around} {E : Value → Shared → Prop} {s : Shared}
abbrev set0 (w : World) : Obj := { cls := .type "set", dict := none, data := .set #[] 0 (.fresh 0 0 (!w.params.followText "set-order")) }
theorem setI_of_list {l : Addr} {xs : Array Value} (ns : List Int) {Q : Value → Shared → Prop} (calm : A.handled = none) (hl : s.heap.IsList l xs) (hxs : IntsAre xs.toList ns) (few : ns.length + 1 < scanBound)
    (told : ∀ (h2 : Heap) (tk c : Nat), SetR w h2 s.heap.objs.size (fun j => decide (j ∈ ns)) c → c ≤ ns.length → (∀ b o, s.heap.get? b = some o → h2.get? b = some o) → Q (.ref s.heap.objs.size) { s with heap := h2, toks := tk }) :
    wpAny (model P w) A (call (.type "set") [.ref l]) Q E s := by
  have len : xs.size = ns.length := (Array.length_toList (xs := xs)).symm.trans (IntsAre.length hxs)
  obtain ⟨cc, tl, mm⟩ := F.called_set.mro
  have made := F.called_set.made
  have sub := F.called_set.sub
  refine wpAny_call (codeAny_of_tree ?_); show wpAny _ _ (callAny (.type "set") _) _ _ _
  refine wpAny_pure ⟨Code.quiet_builtin _ (by decide +kernel), codeAny_builtin F.entry_type_call ?_⟩; rw [Around.under_plain (weight_type_call_type "set" [.ref l] []) rfl]
  have n1 := F.called_set.notType; have n2 := F.called_set.canCreate; have n3 := F.typeCall_set_1 (.ref l)
  repeat (any_goals (first | assumption | wp_step))
  refine codeAny_mono (code_set_led1 (.ref l) (E := E) (Q₁ := fun ob s1 => ob = .ref s.heap.objs.size ∧ s1 = { s with heap := s.heap.push (set0 w) }) ⟨rfl, rfl⟩) fun r s1 hr => ?_
  match r, hr with
  | .error e, hr => exact hr
  | .ok (.ret ob), hr =>
    obtain ⟨rfl, rfl⟩ := hr
    have at0 : (s.heap.push (set0 w)).get? s.heap.objs.size = some (set0 w) := Heap.get?_push_size _ rfl
    have ty : Shared.TypeIs { s with heap := s.heap.push (set0 w) } (.ref s.heap.objs.size) "set" := ⟨_, at0, rfl⟩
    have il := F.called_set.init.lookup; have ib := F.called_set.init.bind (.ref s.heap.objs.size)
    repeat (any_goals (first | assumption | wp_step))
    refine codeAny_mono (codeAny_call_builtin (R := wants (fun r s2 => r = .none ∧ ∃ h2 tk c, s2 = { s with heap := h2, toks := tk } ∧ SetR w h2 s.heap.objs.size (fun j => decide (j ∈ ns)) c ∧ c ≤ ns.length ∧ (∀ b o, s.heap.get? b = some o → h2.get? b = some o)) E) F.called_set.init.plain F.entry_set_init (check_set_init_1 ty ?_)) fun r2 s2 hr2 => ?_
    · obtain ⟨⟨k1, k2, k3, k4⟩, hob, c1, n, c2⟩ := hl
      dsimp only at c1 c2; subst c1; subst c2
      have hob2 : (s.heap.push (set0 w)).get? l = some { cls := .type "list", dict := k2, data := .seq xs n, slots := k4 } := Heap.get?_push_of_some _ hob
      have ss := F.sub_list_set; have sf := F.sub_list_frozenset
      have nd : (Value.type "list" == Value.type "dict") = false := by decide
      have isl : (s.heap.push (set0 w)).IsList l xs := ⟨_, hob2, rfl, n, rfl⟩
      unfold Builtin.«set.__init__» noKeywords Builtin.Frozenset.updateFrom
      generalize hI : pyIter = I0
      wp_walk
      subst hI
      refine wpAny_pyIter_list isl (wpAny_bind (wpAny_runValue ?_))
      have lt : l < s.heap.objs.size := Heap.lt_size hob
      have cm : A.in1.in1.in1.handled = none := by simp [calm]
      have z1 : (s.heap.push (set0 w)).objs.size = s.heap.objs.size + 1 := Heap.size_push ..
      have ne1 : l ≠ (s.heap.push (set0 w)).objs.size := z1 ▸ Nat.ne_of_lt (Nat.lt_succ_of_lt lt)
      have out : s.heap.objs.size ∉ [(s.heap.push (set0 w)).objs.size, l] := by
        rw [z1]; intro z
        rcases List.mem_cons.mp z with z | z
        · exact Nat.ne_of_lt (Nat.lt_succ_self _) z
        · exact Nat.ne_of_gt lt (List.mem_singleton.mp z)
      have vals : ∀ (i : Nat) (v : Value), xs[i]? = some v → ∃ k t, ns[i]? = some k ∧ v = .int k t := fun i v hv => by
        have hi : i < ns.length := len ▸ (Array.getElem?_eq_some_iff.mp hv).1
        obtain ⟨t, e⟩ := PyProof.Rows.IntsAre.int_at hxs i v (Array.getElem?_toList.trans hv)
        refine ⟨ns[i], t, List.getElem?_eq_getElem hi, e.trans ?_⟩
        rw [List.getD_eq_getElem?_getD, List.getElem?_eq_getElem hi]; rfl
      refine set_update_ints ((Walks.list cm _ l ne1 xs).toS) s.heap.objs.size out ns len few vals (xs.size - 0) 0 _ (by omega) (Nat.zero_le _) ⟨⟨_, Heap.get?_push_size _ rfl, rfl, rfl⟩, (isl.push _)⟩ ⟨0, Nat.le_refl 0, setR_new_at (Heap.get?_push_of_some _ at0)⟩ fun s2 c mv hc hS => ?_
      obtain ⟨h2, g2, d2, tk, os2⟩ := s2
      have e1 : g2 = s.gens := mv.gens; have e2 : d2 = s.drawn := mv.drawn; have e3 : os2 = s.os := mv.os
      subst e1 e2 e3
      show wpAny _ _ _ _ _ _
      refine wpAny_pure ?_
      show wpAny _ _ (ret Value.none) _ _ _
      refine wpAny_pure ⟨rfl, h2, tk, c, rfl, hS, by omega, fun b o e => ?_⟩
      have hb := Heap.lt_size e
      refine mv.heap b o ?_ (Heap.get?_push_of_some _ (Heap.get?_push_of_some _ e))
      rw [z1]; intro z
      rcases List.mem_cons.mp z with z | z
      · exact Nat.ne_of_lt hb z
      · exact Nat.ne_of_lt (Nat.lt_succ_of_lt hb) (List.mem_singleton.mp z)
    · match r2, hr2 with
      | .error e, hr2 => exact hr2
      | .ok (.ret r3), hr2 =>
        obtain ⟨rfl, h2, tk, c, rfl, hS, hc, kp⟩ := hr2
        repeat (any_goals (first | assumption | wp_step))
        exact told _ _ _ hS hc kp
      | .ok .next, hr2 => exact hr2.elim
      | .ok .brk, hr2 => exact hr2.elim
      | .ok .cont, hr2 => exact hr2.elim
  | .ok .next, hr => exact hr.elim
  | .ok .brk, hr => exact hr.elim
  | .ok .cont, hr => exact hr.elim
theorem sorted_setI {a : Addr} {S : Int → Bool} {c : Nat} {Q : Value → Shared → Prop} (R : SetR w s.heap a S c) (calm : A.handled = none) (few : c ≤ 4000)
    (told : ∀ s2 p (out : List Value) (n : Nat), (∀ b o, s.heap.get? b = some o → s2.heap.get? b = some o) → s2.gens = s.gens → s2.os = s.os → s.heap.objs.size ≤ p →
      s2.heap.get? p = some (seqObj "list" out.toArray n) → IntsAre out (out.map SrtO.iv) → (out.map SrtO.iv).Pairwise (· < ·) → (∀ i, i ∈ out.map SrtO.iv ↔ S i = true) → out.length = c → Q (.ref p) s2) :
    wpAny (model P w) A (call (.builtin "sorted") [.ref a]) Q E s := by
  obtain ⟨o, es, ep, t, ho, hex, hd, good, nd, mem, sb, fit, hn, ris, led⟩ := R
  refine Calls.call_function_entry kind_sorted plain_sorted entry_sorted (args_sorted1 _) ?_
  unfold Builtin.«sorted»
  refine wpAny_bind (m := checkCount "sorted" 1 1 _) (wpAny_pure (wpAny_bind (collect_set (A := A.in1) calm ⟨o, ho, hex.1, hd⟩ fit sb ris led fun s1 vs kp sz g1 o1 pm => ?_)))
  have allI : ∀ v ∈ vs, ∃ i t, v = Value.int i t := fun v hv => by
    obtain ⟨e, he, rfl⟩ := List.mem_map.mp (pm.mem_iff.mp hv)
    obtain ⟨k, tk, h1, _⟩ := good e he
    exact ⟨k, tk, h1⟩
  have key : ∀ e ∈ es.toList, SrtO.iv e.2 = keyOf e := fun e he => by
    obtain ⟨k, tk, h1, _⟩ := good e he
    unfold keyOf
    rw [h1]
    rfl
  have pk : (vs.map SrtO.iv).Perm (es.toList.map keyOf) := by
    have := pm.map SrtO.iv
    rw [List.map_map, List.map_congr_left (f := SrtO.iv ∘ Prod.snd) (g := keyOf) fun e he => key e he] at this
    exact this
  have hv := SrtO.ints_iv allI
  have len : vs.length = c := by rw [pm.length_eq, List.length_map, Array.length_toList, hn]
  refine wpAny_bind (wpAny_newList ?_ (by rw [sizeLine_eq]; omega))
  have hob : (s1.heap.push (seqObj "list" vs.toArray 0)).get? s1.heap.objs.size = some (seqObj "list" vs.toArray 0) := Heap.get?_push_size _ rfl
  refine wpAny_bind (wpAny_holding (wpAny_call_entry slot_list_sort ⟨_, hob, rfl⟩ entry_list_sort (SrtO.list_sort_ord (s := { s1 with heap := s1.heap.push (seqObj "list" vs.toArray 0) }) SrtO.swo_int hob (by rw [sizeLine_eq]; omega) (fun h2 => SrtO.ints_sortable hv h2) fun out h1 h2 => ⟨.none, rfl, ?_⟩) (args_list_sort _)))
  obtain ⟨n, hc⟩ := sortedHeap_at (vs := vs) (out := out.toArray) hob
  obtain ⟨k1, k2, k3⟩ := SrtO.ints_out hv h1 h2
  have nd2 : (out.map SrtO.iv).Nodup := (k2.trans pk).nodup_iff.mpr nd
  refine wpAny_pure ⟨_, rfl, told _ s1.heap.objs.size out n (fun b u e => ?_) g1 o1 sz hc k1 ?_ (fun i => ?_) (h2.perm.length_eq.trans len)⟩
  · have q := kp b u e
    have lt := Heap.lt_size q
    show (sortedHeap (s1.heap.push (seqObj "list" vs.toArray 0)) s1.heap.objs.size vs out.toArray).get? b = some u
    rw [sortedHeap_old (Nat.ne_of_lt lt) (by rw [size_push']; exact Nat.lt_succ_of_lt lt)]
    exact Heap.get?_push_of_some _ q
  · exact (k3.and nd2).imp fun ⟨x, y⟩ => by omega
  · rw [(k2.trans pk).mem_iff, ← mem]
end
section
variable {X : Cx} {Wh : WX} {A : AE} {e : Expr} {p p2 q pos : Pos}
theorem vals_iv : ∀ {vs : List Value}, IntsAre vs (vs.map SrtO.iv) → Vals ((vs.map SrtO.iv).map V.int) vs := fun h => vals_of_ints h
theorem l_ss (kc : X.calm = true) (gl : Gl X "sorted") (ml : X.mg "sorted" = none) (gs : Gl X "set") (ms : X.mg "set" = none) (he : PE X e (LE X.K Wh A)) (hst : starEach [e] X.env = (false, eval e X.env) :: starEach [] X.env) :
    PE X (.Call (.Name "sorted" p) [.Call (.Name "set" p2) [e] [] q] [] pos) (LE X.K Wh fun ρ S P W => A ρ S (fun d S1 => ssetS d S1 P) W) := by
  refine ⟨fun pins s σ H Q I h => ?_⟩
  obtain ⟨ρ, S, W, P, se, wl, pl, h⟩ := h
  let Q1 : VK := fun x H1 => ∃ (l : Addr) (ns : List Int), x = .ref l ∧ SqL X.K H1 l (ns.map V.int) ∧ ns.length ≤ 4000 ∧ ∀ (ks : List Int) (b : Addr), ks.Pairwise (· < ·) → (∀ i, i ∈ ks ↔ i ∈ ns) → H1 b = none → Q (.ref b) (upd H1 b (.lst (ks.map V.int)))
  have hrun := he.run pins s σ H Q1 I ⟨ρ, S, W, _, se, wl, fun x S1 h1 v H1 k1 s1 r1 => by
    unfold ssetS at h1
    split at h1
    · rename_i a
      split at h1
      · rename_i wr l el
        split at h1
        · rename_i ns en
          obtain ⟨a', us, e1, hq, rs⟩ := lstD_rd (d := .ref a) (l := l) s1 r1 (by simp only [lstD, el])
          subst e1
          exact ⟨a', ns, rfl, by rw [← intL_rps rs en]; exact hq, h1.1, fun ks b hk hm hb => (PLe.at pl k1).newL s1 (rps_ints ks) hb fun p2 hp2 => h1.2 ks p2 hk hm hp2⟩
        · exact h1.elim
      · exact h1.elim
    · exact h1.elim, h⟩
  refine Call_ (ld_blt I gl ml (by decide +kernel : bootBuiltins "sorted" = some (.builtin "sorted")) (callWith_builtin1 (args_cons (Call_ (ld_blt I gs ms boot_set ?_)) rfl) rfl rfl))
  refine callWith_type1 (args_cons (thn hrun fun v s1 hh => args_nil ?_) hst) hst rfl
  obtain ⟨x, H1, I1, r1, l, ns, rfl, hq, hl, hQ⟩ := hh
  cases r1
  obtain ⟨its, rv, pt, hz⟩ := I1.list hq
  have hin : IntsAre its.toArray.toList ns := by simpa using RZ.intsAre_vals rv
  refine setI_of_list ns (I1.ok.hd kc) pt.isList hin (by unfold scanBound; omega) fun h2 tk c hS hc hk => args_nil ?_
  have J : Inv X pins σ H1 { s1 with heap := h2, toks := tk } := I1.kept hk
  refine sorted_setI hS (J.ok.hd kc) (by omega) fun s2 b out n kp g o sz hob hi ho hm hlen => ?_
  have free : H1 b = none := J.hok.fresh sz
  have small : ((out.map SrtO.iv).map V.int).length ≤ sizeLine := by
    rw [List.length_map, List.length_map, sizeLine_eq]
    omega
  have J2 : Inv X pins σ (upd H1 b (.lst ((out.map SrtO.iv).map V.int))) { s1 with heap := s2.heap, gens := s2.gens, drawn := s2.drawn, toks := s2.toks } :=
    Inv.call (s := { s1 with heap := h2, toks := tk }) J (ch := []) (Un.laid kp sz free) (J.hok.laid kp sz ⟨small, out, n, vals_iv hi, hob⟩) (by rw [g]; exact J.bare) (fun _ z => nomatch z)
  have same : s2 = { s1 with heap := s2.heap, gens := s2.gens, drawn := s2.drawn, toks := s2.toks } := by
    obtain ⟨_, _, _, _, _⟩ := s2
    dsimp only at o
    subst o
    rfl
  rw [same]
  exact ⟨.ref b, _, J2, rfl, hQ _ b ho (fun i => (hm i).trans decide_eq_true_iff) free⟩
end
end Sd
namespace Sd
open PySem PySem.Spec PyProof.Rows L2
def smX : SM → Str
  | .join => "join"
  | .split => "split"
  | .starts => "startswith"
  | .part => "partition"
  | .lstr => "lstrip"
section
variable {X : Cx} {Wh : WX} {Γ : Gam} {A B C : AE} {As : AA} {a b c e : Expr} {es rest : List Expr} {pos apos : Pos} {K : PySem.W.Frag} {H : Hp} {S : Sto}
theorem tyL {x : D} {v : V} (s : StoOk K H S) (e : isL S x) (r : Rp K H x v) : tyV K "list" v H := by
  cases x <;> (try exact (show False from e).elim)
  rename_i p
  cases r
  simp only [isL] at e
  split at e
  · rename_i l q
    obtain ⟨xs, h, _⟩ := s p _ q
    exact .inl ⟨rfl, xs, .inl (.inl h)⟩
  · exact e.elim
theorem l_me {m : ME} {name : Str} {r : V → List V → Hp → VK → Prop} (slot : Slot "list" name (meId m)) (hty : typeOf (.builtin (meId m)) = pure (.type "method_descriptor")) (hm : MtR X (meId m) r) (hab : MeAbs X.K r (meS m)) (ho : PE X a (LE X.K Wh A)) (ha : PA X (e :: es) (LA X.K Wh As))
    (hbase : attributeBase a name X.env (eval a X.env) = eval a X.env) (hs : starEach (e :: es) X.env = (false, eval e X.env) :: starEach es X.env) (hpl : (backTo pos (starEach es X.env)).any (·.1) = false) (hl : (e :: es).length < 20) (hline : (apos.endLine == pos.line) = true)
    (hall : (backTo pos (starEach (e :: es) X.env)).all (fun x => !x.1) = true) :
    PE X (.Call (.Attribute a name apos) (e :: es) [] pos) (LE X.K Wh fun ρ S P W => A ρ S (fun x S1 => isL S1 x ∧ As ρ S1 (fun ds S2 => meS m x ds S2 P) W) W) := by
  have hfew : ((backTo pos (starEach (e :: es) X.env)).all (fun x => !x.1) && (backToKw pos (keywordEach [] X.env)).all (fun x => x.1.isSome) && decide ((e :: es).length + ([] : List Keyword).length + (if ([] : List Keyword).isEmpty then 0 else 1) < 30)) = true := by
    rw [hall, Bool.true_and]
    have z : decide ((e :: es).length + ([] : List Keyword).length + (if ([] : List Keyword).isEmpty then 0 else 1) < 30) = true := decide_eq_true (by simp only [List.isEmpty_nil, if_true, List.length_nil]; omega)
    rw [z]
    rfl
  refine PE.imp (pe_bm PySem.F.plainAttrs_list slot hty hm ho ha hbase hfew hline hs hpl) fun σ H Q ⟨ρ, S, W, P, se, wl, pl, h⟩ => ?_
  exact ⟨ρ, S, W, _, se, wl, fun x S1 h1 v H1 k1 s1 r1 => ⟨tyL s1 h1.1 r1, ρ, S1, W, _, se.at k1 s1, wl.at k1, fun ds S2 h2 vs H2 k2 s2 r2 => hab _ _ _ _ h2 _ _ _ _ s2 (Rp.kp k2 _ r1) r2 (pl.at (k1.trans k2)), h1.2⟩, h⟩
theorem l_me0 {m : ME} {name : Str} {r : V → List V → Hp → VK → Prop} (slot : Slot "list" name (meId m)) (hty : typeOf (.builtin (meId m)) = pure (.type "method_descriptor")) (hm : MtR X (meId m) r) (hab : MeAbs X.K r (meS m)) (ho : PE X a (LE X.K Wh A))
    (hbase : attributeBase a name X.env (eval a X.env) = eval a X.env) (hline : (apos.endLine == pos.line) = true) :
    PE X (.Call (.Attribute a name apos) [] [] pos) (LE X.K Wh fun ρ S P W => A ρ S (fun x S1 => isL S1 x ∧ meS m x [] S1 P) W) := by
  refine PE.imp (pe_bm0 PySem.F.plainAttrs_list slot hty hm ho hbase hline) fun σ H Q ⟨ρ, S, W, P, se, wl, pl, h⟩ => ?_
  exact ⟨ρ, S, W, _, se, wl, fun x S1 h1 v H1 k1 s1 r1 => ⟨tyL s1 h1.1 r1, hab _ _ _ _ h1.2 _ _ _ _ s1 r1 (show Rps X.K H1 [] [] from rfl) (pl.at k1)⟩, h⟩
def Agr (sl : List Nat) (σ σ' : L2.St) : Prop := σ'.length = σ.length ∧ ∀ i, i ∉ sl → σ'[i]? = σ[i]?
theorem Agr.refl (sl : List Nat) (σ : L2.St) : Agr sl σ σ := ⟨rfl, fun _ _ => rfl⟩
theorem Agr.trans {sl : List Nat} {σ σ1 σ2 : L2.St} (a : Agr sl σ σ1) (b : Agr sl σ1 σ2) : Agr sl σ σ2 := ⟨b.1.trans a.1, fun i h => (b.2 i h).trans (a.2 i h)⟩
theorem Agr.mono {sl sl' : List Nat} {σ σ' : L2.St} (a : Agr sl σ σ') (h : ∀ i, i ∈ sl → i ∈ sl') : Agr sl' σ σ' := ⟨a.1, fun i n => a.2 i fun z => n (h i z)⟩
theorem wipe_get {σ : L2.St} {i : Nat} : ∀ (vs : List Nat), i ∈ vs → (wipe σ vs)[i]? = if i < σ.length then some none else none
  | [], h => by simp at h
  | v :: vs, h => by
    unfold wipe
    by_cases e : v = i
    · subst e
      by_cases hl : v < σ.length
      · rw [List.getElem?_set_self (by rw [wipe_length]; exact hl), if_pos hl]
      · rw [if_neg hl, List.getElem?_eq_none (by rw [List.length_set, wipe_length]; omega)]
    · rw [List.getElem?_set_ne e]
      exact wipe_get vs (by rcases List.mem_cons.mp h with z | z; exact absurd z.symm e; exact z)
theorem wipe_not {σ : L2.St} {i : Nat} : ∀ (vs : List Nat), i ∉ vs → (wipe σ vs)[i]? = σ[i]?
  | [], _ => rfl
  | v :: vs, h => by
    unfold wipe
    rw [List.getElem?_set_ne (fun e => h (by rw [e]; exact List.mem_cons_self))]
    exact wipe_not vs fun z => h (List.mem_cons_of_mem _ z)
theorem Agr.wipe {sl vs : List Nat} {σ σ' : L2.St} (a : Agr sl σ σ') (h : ∀ i, i ∈ sl → i ∈ vs) : L2.wipe σ' vs = L2.wipe σ vs := by
  apply List.ext_getElem?
  intro i
  by_cases hi : i ∈ vs
  · rw [wipe_get vs hi, wipe_get vs hi, a.1]
  · rw [wipe_not vs hi, wipe_not vs hi]
    exact a.2 i fun z => hi (h i z)
theorem wipe_idem {σ : L2.St} {vs : List Nat} : L2.wipe (L2.wipe σ vs) vs = L2.wipe σ vs := by
  apply List.ext_getElem?
  intro i
  by_cases hi : i ∈ vs
  · rw [wipe_get vs hi, wipe_get vs hi, wipe_length]
  · rw [wipe_not vs hi]
def GLe (K : PySem.W.Frag) (H : Hp) (sl : List Nat) (σ : L2.St) (P : DSt → Sto → Prop) (Q : L2.St → Hp → Prop) : Prop := ∀ ρ' S', P ρ' S' → ∀ σ' H', Kp H H' → Sees K H' σ' ρ' S' → Agr sl σ σ' → Q σ' H'
def LG (K : PySem.W.Frag) (Wh : WX) (sl : List Nat) (A : ATg) : TG := fun v σ H Q => ∃ d ρ S W P, Rp K H d v ∧ Sees K H σ ρ S ∧ WLe K H W Wh ∧ GLe K H sl σ P Q ∧ A d ρ S P W
def LGs (K : PySem.W.Frag) (Wh : WX) (sl : List Nat) (A : ATgs) : TGs := fun vs σ H Q => ∃ ds ρ S W P, Rps K H ds vs ∧ Sees K H σ ρ S ∧ WLe K H W Wh ∧ GLe K H sl σ P Q ∧ A ds ρ S P W
theorem PG.imp {tg : Expr} {t t' : TG} (h : PG X tg t) (i : ∀ v σ H Q, t' v σ H Q → t v σ H Q) : PG X tg t' := ⟨fun pins s σ H v u Q I r hw => h.run pins s σ H v u Q I r (i v σ H Q hw)⟩
theorem PG.or {tg : Expr} {t t' : TG} (h : PG X tg t) (h' : PG X tg t') : PG X tg (fun v σ H Q => t v σ H Q ∨ t' v σ H Q) := ⟨fun pins s σ H v u Q I r hw => hw.elim (h.run pins s σ H v u Q I r) (h'.run pins s σ H v u Q I r)⟩
theorem PGs.imp {tg : List Expr} {t t' : TGs} (h : PGs X tg t) (i : ∀ v σ H Q, t' v σ H Q → t v σ H Q) : PGs X tg t' := ⟨fun pins s σ H v u Q I r hw => h.run pins s σ H v u Q I r (i v σ H Q hw)⟩
theorem g_nm {i : Nat} {x : Str} {sl : List Nat} (hN : X.N.Nodup) (hi : X.N[i]? = some x) (hx : Loc X.env.scope x) (hf : X.fn x = true ∨ X.env.scope.names.lookup x = some .local) (hm : i ∈ sl) : PG X (.Name x pos) (LG X.K Wh sl fun d ρ S P _ => P (ρ.set i (some d)) S) :=
  PG.imp (pg_name hN hi hx hf) fun v σ H Q ⟨d, ρ, S, W, P, r, se, wl, gl, h⟩ => gl _ _ h _ H (Kp.refl H) (se.set i r) ⟨by simp, fun j hj => by rw [List.getElem?_set_ne (fun e => hj (by rw [← e]; exact hm))]⟩
theorem gs_nil {sl : List Nat} : PGs X [] (LGs X.K Wh sl fun ds ρ S P _ => match ds with
    | [] => P ρ S
    | _ => False) :=
  PGs.imp pgs_nil fun v σ H Q ⟨ds, ρ, S, W, P, r, se, wl, gl, h⟩ => by
    cases ds with
    | nil => exact ⟨r.nil', gl _ _ h _ H (Kp.refl H) se (Agr.refl _ _)⟩
    | cons d ds => exact h.elim
theorem gs_cons {sl : List Nat} {G : ATg} {Gs : ATgs} (h1 : PG X e (LG X.K Wh sl G)) (h2 : PGs X es (LGs X.K Wh sl Gs)) (hs : (assignEach (e :: es) X.env).map (·.2) = assign e X.env :: (assignEach es X.env).map (·.2)) : PGs X (e :: es) (LGs X.K Wh sl fun ds ρ S P W => match ds with
    | d :: r => G d ρ S (fun ρ1 S1 => Gs r ρ1 S1 P W) W
    | _ => False) :=
  PGs.imp (pgs_cons h1 h2 hs) fun v σ H Q ⟨ds, ρ, S, W, P, r, se, wl, gl, h⟩ => by
    cases ds with
    | nil => exact h.elim
    | cons d ds =>
      obtain ⟨u, us, rfl, r1, r2⟩ := r
      exact ⟨u, us, rfl, d, ρ, S, W, _, r1, se, wl, fun ρ1 S1 q1 σ1 H1 k1 se1 ag1 => ⟨ds, ρ1, S1, W, P, Rps.kp k1 _ r2, se1, wl.at k1, fun ρ2 S2 q2 σ2 H2 k2 se2 ag2 => gl _ _ q2 σ2 H2 (k1.trans k2) se2 (ag1.trans ag2), q1⟩, h⟩
theorem g_tp {sl : List Nat} {Gs : ATgs} {k n : Nat} (hc : X.calm = true) (h : PGs X es (LGs X.K Wh sl Gs)) (hn : (assignEach es X.env).length = n) (hst : (assignEach es X.env).findIdx? (·.1) = none) : PG X (.Tuple es k pos) (LG X.K Wh sl fun d ρ S P W => match d with
    | .tup l => l.length = n ∧ Gs l ρ S P W
    | .ref a => (match S a with
      | some (.lst _ l) => l.length = n ∧ Gs l ρ S P W
      | _ => False)
    | _ => False) :=
  PG.imp (PG.or (pg_tup hc h hn hst) (pg_lst hc h hn hst)) fun v σ H Q ⟨d, ρ, S, W, P, r, se, wl, gl, h⟩ => by
    cases d <;> (try exact (show False from h).elim)
    · rename_i a
      cases r
      have h' : (match S a with
        | some (.lst _ l) => l.length = n ∧ Gs l ρ S P W
        | _ => False) := h
      split at h'
      · rename_i w l e
        obtain ⟨vs, q, rs⟩ := se.sto.rd e
        exact .inr ⟨a, vs, rfl, q, by rw [rs.length]; exact h'.1, _, ρ, S, W, P, rs, se, wl, gl, h'.2⟩
      · exact h'.elim
    · obtain ⟨p, vs, rfl, q, rs⟩ := r
      exact .inl ⟨p, vs, rfl, q, by rw [rs.length]; exact h.1, _, ρ, S, W, P, rs, se, wl, gl, h.2⟩
theorem Kp.dct {H : Hp} {p : Addr} {o : HO} {xs : List (NestedKey × Addr × Value)} (h : H p = some (DctV p xs)) : Kp H (upd H p o) :=
  ⟨fun b ys e => by rw [upd_ne (ne_of e h (by intro z; cases z))]; exact e, fun b o' u e => by rw [upd_ne (ne_of e h (by intro z; cases z))]; exact e⟩
theorem FldOk.dct {H : Hp} {k : Nat} {d : Option Addr} {f : Option D} {p : Addr} {xs : List (NestedKey × Addr × Value)} {o : HO} (hp : H p = some (DctV p xs)) (h : FldOk K H k d f) : FldOk K (upd H p o) k d f := by
  cases f with
  | none => exact h
  | some x =>
    obtain ⟨kn, da, v, e, q, r⟩ := h
    exact ⟨kn, da, v, e, by rw [upd_ne (ne_of q hp (by intro z; cases z))]; exact q, Rp.kp (Kp.dct hp) x r⟩
theorem StoOk.dct {H : Hp} {S : Sto} {p : Addr} {o : O} {u : HO} {xs : List (NestedKey × Addr × Value)} (h : StoOk K H S) (hp : H p = some (DctV p xs)) (hr : OkO K (upd H p u) p o) : StoOk K (upd H p u) (S.up p o) := fun a o' e => by
  by_cases ha : a = p
  · subst ha; rw [up_same] at e; cases e
    exact hr
  · rw [up_ne ha] at e
    have q := h a o' e
    cases o' with
    | lst w l =>
      cases w with
      | true => obtain ⟨vs, e1, q1⟩ := q; exact ⟨vs, by rw [upd_ne ha]; exact e1, Rps.kp (Kp.dct hp) l q1⟩
      | false => obtain ⟨ob, vs, e1, q1⟩ := q; exact ⟨ob, vs, by rw [upd_ne ha]; exact e1, Rps.kp (Kp.dct hp) l q1⟩
    | exc k f => obtain ⟨d, e1, q1⟩ := q; exact ⟨d, by rw [upd_ne ha]; exact e1, q1.dct hp⟩
    | dct l2 => obtain ⟨h1, h2, h3, xs2, e1, q1⟩ := q; exact ⟨h1, h2, h3, xs2, by rw [upd_ne ha]; exact e1, q1.kp (Kp.dct hp)⟩
    | dci l2 => obtain ⟨xs2, e1, q1⟩ := q; exact ⟨xs2, by rw [upd_ne ha]; exact e1, q1.kp (Kp.dct hp)⟩
theorem Kp.dci {H : Hp} {p : Addr} {o : HO} {xs : List (L2.Key × V)} (h : H p = some (.dK xs)) : Kp H (upd H p o) :=
  ⟨fun b ys e => by rw [upd_ne (ne_of e h (by intro z; cases z))]; exact e, fun b o' u e => by rw [upd_ne (ne_of e h (by intro z; cases z))]; exact e⟩
theorem FldOk.dci {H : Hp} {k : Nat} {d : Option Addr} {f : Option D} {p : Addr} {xs : List (L2.Key × V)} {o : HO} (hp : H p = some (.dK xs)) (h : FldOk K H k d f) : FldOk K (upd H p o) k d f := by
  cases f with
  | none => exact h
  | some x =>
    obtain ⟨kn, da, v, e, q, r⟩ := h
    exact ⟨kn, da, v, e, by rw [upd_ne (ne_of q hp (by intro z; cases z))]; exact q, Rp.kp (Kp.dci hp) x r⟩
theorem StoOk.dci {H : Hp} {S : Sto} {p : Addr} {o : O} {u : HO} {xs : List (L2.Key × V)} (h : StoOk K H S) (hp : H p = some (.dK xs)) (hr : OkO K (upd H p u) p o) : StoOk K (upd H p u) (S.up p o) := fun a o' e => by
  by_cases ha : a = p
  · subst ha; rw [up_same] at e; cases e
    exact hr
  · rw [up_ne ha] at e
    have q := h a o' e
    cases o' with
    | lst w l =>
      cases w with
      | true => obtain ⟨vs, e1, q1⟩ := q; exact ⟨vs, by rw [upd_ne ha]; exact e1, Rps.kp (Kp.dci hp) l q1⟩
      | false => obtain ⟨ob, vs, e1, q1⟩ := q; exact ⟨ob, vs, by rw [upd_ne ha]; exact e1, Rps.kp (Kp.dci hp) l q1⟩
    | exc k f => obtain ⟨d, e1, q1⟩ := q; exact ⟨d, by rw [upd_ne ha]; exact e1, q1.dci hp⟩
    | dct l2 => obtain ⟨h1, h2, h3, xs2, e1, q1⟩ := q; exact ⟨h1, h2, h3, xs2, by rw [upd_ne ha]; exact e1, q1.kp (Kp.dci hp)⟩
    | dci l2 => obtain ⟨xs2, e1, q1⟩ := q; exact ⟨xs2, by rw [upd_ne ha]; exact e1, q1.kp (Kp.dci hp)⟩
def rSetI (K : PySem.W.Frag) : TSet := fun o i v H Q => ∃ (a : Addr) (k : Int) (xs : List (L2.Key × V)), o = .ref a ∧ i = .int k ∧ H a = some (.dK xs) ∧ xs.length < sizeLine ∧ Q (upd H a (.dK (putK xs (.inl k) v)))
theorem set_int (hu : X.A.units + 9 < cLine) : PSet X (rSetI X.K) := by
  intro pins s σ H o i v ov iv u Q I ro ri rv h
  obtain ⟨a, k, xs, rfl, rfl, e, hl, q⟩ := h
  cases ro
  exact d_setItem (by omega) I (DPut.k (k := .inl k) e hl) ri rv fun s' I' => ⟨_, I', q⟩
def rSetN (K : PySem.W.Frag) : TSet := fun o i v H Q => ∃ (a b : Addr) (xs : List (NestedKey × Addr × Value)) (l : List (NestedKey × D × D)) (kd d : D) (k : NestedKey), o = .ref a ∧ i = .ref b ∧ H a = some (DctV a xs) ∧ (a == sysModules) = false ∧ l.length < sizeLine ∧ (l.map (·.1)).Nodup ∧ DRel K H l xs ∧ ky kd = some k ∧ Rp K H kd (.ref b) ∧ Rp K H d v ∧
  ∀ u, RelV v u → Q (upd H a (DctV a (storedH xs k b u)))
theorem set_dct (hu : X.A.units + 9 < cLine) : PSet X (rSetN X.K) := by
  intro pins s σ H o i v ov iv u Q I ro ri rv h
  obtain ⟨a, b, xs, l, kd, d, k, rfl, rfl, e, hd, hl, nd, r, hk, rk, rd, q⟩ := h
  cases ro
  cases ri
  exact d_setN hu I e hd hl nd r hk rk rd rv fun s' I' => ⟨_, I', q u rv⟩
theorem set_or {t t' : TSet} (h : PSet X t) (h' : PSet X t') : PSet X (fun o i v H Q => t o i v H Q ∨ t' o i v H Q) := fun pins s σ H o i v ov iv u Q I ro ri rv q => q.elim (h pins s σ H o i v ov iv u Q I ro ri rv) (h' pins s σ H o i v ov iv u Q I ro ri rv)
theorem g_ix {sl : List Nat} (hu : X.A.units + 65 < cLine) (ho : PE X a (LE X.K Wh A)) (hi : PE X b (LE X.K Wh B)) (hs : ∀ v, assign (.Subscript a b pos) X.env v = (do
      let ov ← holding [v] (eval a X.env)
      let iv ← holding [v, ov] (eval b X.env)
      standAt pos
      holding [v, ov, iv] (setItem ov iv v)
      release [v, ov, iv] [])) : PG X (.Subscript a b pos) (LG X.K Wh sl fun d ρ S P W => A ρ S (fun x S1 => B ρ S1 (fun y S2 => match x, y with
    | .ref a, .int k => (match S2 a with
      | some (.lst true l) => (match ixN l.length k with
        | some j => P ρ (S2.up a (.lst true (l.set j d)))
        | none => False)
      | some (.dci l) => l.length < sizeLine ∧ P ρ (S2.up a (.dci (iput l k d)))
      | _ => False)
    | .ref a, .tup ds => (match S2 a with
      | some (.dct l) => (match ky (.tup ds) with
        | some k => l.length < sizeLine ∧ P ρ (S2.up a (.dct (dput l k (.tup ds) d)))
        | none => False)
      | _ => False)
    | _, _ => False) W) W) :=
  PG.imp (pg_sub ho hi (set_or set_list (set_or (set_dct (by omega)) (set_int (by omega)))) hs) fun v σ H Q ⟨d, ρ, S, W, P, r, se, wl, gl, h⟩ => by
    refine ⟨ρ, S, W, _, se, wl, fun x S1 h1 xv H1 k1 s1 r1 => ⟨ρ, S1, W, _, se.at k1 s1, wl.at k1, fun y S2 h2 yv H2 k2 s2 r2 => ?_, h1⟩, h⟩
    cases x <;> cases y <;> (try exact (show False from h2).elim)
    · rename_i p k
      cases r1; cases r2
      dsimp only at h2
      split at h2
      · rename_i l e
        refine .inl ?_
        obtain ⟨xs, q1, q2⟩ := s2 p _ e
        split at h2
        · rename_i j ej
          have k12 := k1.trans k2
          exact ⟨p, xs, k, j, rfl, rfl, q1, by rw [q2.length]; exact ej, gl _ _ h2 σ _ (k12.trans (Kp.lst q1)) (se.at (k12.trans (Kp.lst q1)) (s2.lst (l := l) q1 (q2.set (Rp.kp k12 _ r) j))) (Agr.refl _ _)⟩
        · exact h2.elim
      · rename_i l e
        refine .inr (.inr ?_)
        obtain ⟨hl, h2⟩ := h2
        obtain ⟨xs, q1, q2⟩ := (show ∃ xs, H2 p = some (.dK xs) ∧ KRel X.K H2 l xs from s2 p _ e)
        have k12 := k1.trans k2
        have kk : Kp H2 (upd H2 p (.dK (putK xs (.inl k) v))) := Kp.dci q1
        exact ⟨p, k, xs, rfl, rfl, q1, by rw [q2.len]; exact hl, gl _ _ h2 σ _ (k12.trans kk) (se.at (k12.trans kk) (s2.dci q1 ⟨_, upd_same, (q2.put (Rp.kp k12 _ r)).kp kk⟩)) (Agr.refl _ _)⟩
      · exact h2.elim
    · rename_i p ds
      refine .inr (.inl ?_)
      cases r1
      dsimp only at h2
      split at h2
      · rename_i l e
        split at h2
        · rename_i k ek
          obtain ⟨hl, h2⟩ := h2
          have r2' := r2
          obtain ⟨b, vs, rfl, _⟩ := r2
          obtain ⟨h3, h4, h5, xs, h6, h7⟩ := (show l.length ≤ sizeLine ∧ (p == sysModules) = false ∧ (l.map (·.1)).Nodup ∧ ∃ xs, H2 p = some (DctV p xs) ∧ DRel X.K H2 l xs from s2 p _ e)
          have k12 := k1.trans k2
          refine ⟨p, b, xs, l, .tup ds, d, k, rfl, rfl, h6, h4, hl, h5, h7, ek, r2', Rp.kp k12 _ r, fun u ru => ?_⟩
          have kk : Kp H2 (upd H2 p (DctV p (storedH xs k b u))) := Kp.dct h6
          exact gl _ _ h2 σ _ (k12.trans kk) (se.at (k12.trans kk) (s2.dct h6 ⟨Nat.le_trans dput_len hl, h4, dput_nd h5, _, upd_same, (h7.put ek r2' (Rp.kp k12 _ r) ru).kp kk⟩)) (Agr.refl _ _)
        · exact h2.elim
      · exact h2.elim
theorem strL_rps {l : List D} {vs : List V} : Rps K H l vs → ∀ {ys : List Str}, strL l = some ys → vs = ys.map V.str := by
  induction l generalizing vs with
  | nil =>
    intro r ys e
    cases e
    exact r.nil'
  | cons d l ih =>
    intro r ys e
    obtain ⟨v, rs, rfl, r1, r2⟩ := r
    cases d <;> (try (exact nomatch (show (none : Option (List Str)) = some ys from e)))
    rename_i z
    have e' : (match strL l with
      | some l => some (z :: l)
      | none => none) = some ys := e
    split at e'
    · rename_i zs ez
      cases e'
      cases r1
      rw [ih r2 ez]
      rfl
    · cases e'
theorem rps_strs : ∀ {ys : List Str}, Rps K H (ys.map D.str) (ys.map V.str)
  | [] => rfl
  | y :: ys => ⟨.str y, ys.map V.str, rfl, rfl, rps_strs⟩
theorem l_sm {k : Expr} {apos : Pos} {m : SM} (ha : PE X a (LE X.K Wh A)) (hk : PE X k (LE X.K Wh B)) (hbase : attributeBase a (smX m) X.env (eval a X.env) = eval a X.env) (hs : starEach [k] X.env = [(false, eval k X.env)]) (hline : (apos.endLine == pos.line) = true) :
    PE X (.Call (.Attribute a (smX m) apos) [k] [] pos) (LE X.K Wh fun ρ S P W => A ρ S (fun x S1 => isS x ∧ B ρ S1 (fun y S2 => smS m x y S2 P) W) W) := by
  have key : ∀ (r : V → List V → Hp → VK → Prop), PE X (.Call (.Attribute a (smX m) apos) [k] [] pos) (tM1 r (LE X.K Wh A) (LE X.K Wh B)) →
      (∀ z y S2 P Q H2 u, smS m (.str z) y S2 P → StoOk X.K H2 S2 → Rp X.K H2 y u → PLe X.K H2 P Q → r (.str z) [u] H2 Q) →
      PE X (.Call (.Attribute a (smX m) apos) [k] [] pos) (LE X.K Wh fun ρ S P W => A ρ S (fun x S1 => isS x ∧ B ρ S1 (fun y S2 => smS m x y S2 P) W) W) := fun r hr hab =>
    PE.imp hr fun σ H Q ⟨ρ, S, W, P, se, wl, pl, h⟩ => ⟨ρ, S, W, _, se, wl, fun x S1 h1 v H1 k1 s1 r1 => by
      obtain ⟨hx, hB⟩ := h1
      cases x <;> (try exact (show False from hx).elim)
      cases r1
      exact ⟨⟨_, rfl⟩, ρ, S1, W, _, se.at k1 s1, wl.at k1, fun y S2 h2 u H2 k2 s2 r2 => hab _ y S2 P Q H2 u h2 s2 r2 (pl.at (k1.trans k2)), hB⟩, h⟩
  cases m with
  | join =>
    refine key _ (pe_join ha hk hs hbase hline) fun z y S2 P Q H2 u h s r pl => ?_
    cases y <;> (try exact (show False from h).elim)
    rename_i p
    cases r
    have h' : (match S2 p with
      | some (.lst _ l) => (match strL l with
        | some ys => (ys.map (·.length)).sum + ys.length * z.length ≤ 16777216 ∧ P (.str (Txt.join z ys)) S2
        | none => False)
      | _ => False) := h
    split at h'
    · rename_i w l e
      split at h'
      · rename_i ys ey
        obtain ⟨vs, q1, r1⟩ := s.rd e
        have ev := strL_rps r1 ey
        subst ev
        exact ⟨z, p, ys, rfl, rfl, .inl q1, h'.1, pl.now h'.2 s rfl⟩
      · exact h'.elim
    · exact h'.elim
  | split =>
    refine key _ (pe_split ha hk hs hbase hline) fun z y S2 P Q H2 u h s r pl => ?_
    cases y <;> (try exact (show False from h).elim)
    cases r
    obtain ⟨⟨h1, h2⟩, h3⟩ := (show (_ ∧ _) ∧ _ from h)
    exact ⟨z, _, rfl, rfl, h1, h2, fun p hp => pl.newL s rps_strs hp h3⟩
  | starts =>
    refine key _ (pe_m1 PySem.F.slot_str_startswith PySem.F.type_str_startswith mt_startswith ha hk hs hbase hline) fun z y S2 P Q H2 u h s r pl => ?_
    cases y <;> (try exact (show False from h).elim)
    cases r
    exact ⟨z, _, rfl, rfl, pl.now h s rfl⟩
  | lstr =>
    refine key _ (pe_m1 PySem.F.slot_str_lstrip PySem.F.type_str_lstrip mt_lstripChars ha hk hs hbase hline) fun z y S2 P Q H2 u h s r pl => ?_
    cases y <;> (try exact (show False from h).elim)
    rename_i b
    cases r
    obtain ⟨h1, h2⟩ := (show _ ∧ _ from h)
    exact ⟨z, b, rfl, rfl, h1, pl.now h2 s rfl⟩
  | part =>
    refine key _ (pe_partition ha hk hs hbase hline) fun z y S2 P Q H2 u h s r pl => ?_
    cases y <;> (try exact (show False from h).elim)
    rename_i b
    cases r
    obtain ⟨⟨h1, h2⟩, h3⟩ := (show (_ ∧ _) ∧ _ from h)
    exact ⟨z, b, rfl, rfl, h1, h2, fun p hp => pl.newT s (l := [.str (Txt.partition z b).1, .str (Txt.partition z b).2.1, .str (Txt.partition z b).2.2]) ⟨_, _, rfl, rfl, _, _, rfl, rfl, _, _, rfl, rfl, rfl⟩ hp h3⟩
theorem pe_dnewN : PE X (.Dict [] [] pos) (fun _ H Q => ∀ p, H p = none → (p == sysModules) = false → Q (.ref p) (upd H p (DctV p []))) := ⟨fun pins s σ H Q I h =>
  wpAny_Dict_empty ⟨.ref s.heap.objs.size, _, I.laid (a := s.heap.objs.size) (o := DctV s.heap.objs.size []) (t' := s.toks) (fun _ _ q => Heap.get?_push_of_some _ q) (Nat.le_refl _)
    ⟨⟨_, #[], 0, Heap.get?_push_size _ rfl, ⟨rfl, rfl, rfl⟩, rfl, rfl⟩, ⟨_, Heap.get?_push_size _ rfl⟩, fun h1' h2' ⟨o, es', ep', g1, g2, g3, g4⟩ hh => ⟨o, es', ep', hh _ g1, g2, g3, g4⟩⟩, rfl,
    h _ (I.hok.fresh (Nat.le_refl _)) (beq_eq_false_iff_ne.mpr (Ne.symm (Nat.ne_of_lt I.big)))⟩⟩
theorem l_dc : PE X (.Dict [] [] pos) (LE X.K Wh fun _ S P _ => ∀ p, S p = none → P (.ref p) (S.up p (.dct []))) :=
  PE.imp pe_dnewN fun σ H Q ⟨ρ, S, W, P, se, wl, pl, h⟩ => fun p hp hs => pl _ _ (h p (se.sto.free hp)) _ _ (Kp.new hp) (se.sto.new hp ⟨by simp, hs, by simp, [], upd_same, rfl⟩) rfl
theorem isD_at {x : D} (h : isD S x) : ∃ a l, x = .ref a ∧ S a = some (.dct l) := by
  cases x <;> (try exact (show False from h).elim)
  rename_i a
  have h' : (match S a with
    | some (.dct _) => True
    | _ => False) := h
  split at h'
  · rename_i l e
    exact ⟨a, l, rfl, e⟩
  · exact h'.elim
theorem l_dgt {k : Expr} {apos : Pos} (hu : X.A.units + 65 < cLine) (ha : PE X a (LE X.K Wh A)) (hk : PE X k (LE X.K Wh B)) (hbase : attributeBase a "get" X.env (eval a X.env) = eval a X.env) (hs : starEach [k] X.env = (false, eval k X.env) :: starEach [] X.env) (hline : (apos.endLine == pos.line) = true) :
    PE X (.Call (.Attribute a "get" apos) [k] [] pos) (LE X.K Wh fun ρ S P W => A ρ S (fun x S1 => isD S1 x ∧ B ρ S1 (fun y S2 => dgtS x y S2 P) W) W) := by
  have hall : (backTo pos (starEach [k] X.env)).all (fun x => !x.1) = true := by rw [hs]; rfl
  have hfew : ((backTo pos (starEach [k] X.env)).all (fun x => !x.1) && (backToKw pos (keywordEach [] X.env)).all (fun x => x.1.isSome) && decide (([k] : List Expr).length + ([] : List Keyword).length + (if ([] : List Keyword).isEmpty then 0 else 1) < 30)) = true := by
    rw [hall]; rfl
  refine ⟨fun pins s σ H Q I hw => ?_⟩
  obtain ⟨ρ, S, W, P, se, wl, pl, hw⟩ := hw
  refine wpAny_Call_method_late hbase hfew hline rfl (thn (ha.run pins s σ H (fun v H1 => ∃ x S1, Kp H H1 ∧ StoOk X.K H1 S1 ∧ Rp X.K H1 x v ∧ isD S1 x ∧ B ρ S1 (fun y S2 => dgtS x y S2 P) W) I ⟨ρ, S, W, _, se, wl, fun x S1 h1 v H1 k1 s1 r1 => ⟨x, S1, k1, s1, r1, h1⟩, hw⟩) fun v s1 ⟨xv, H1, I1, r1, x, S1, k1, s1', rx, hd, hB⟩ => ?_)
  obtain ⟨p, l, rfl, e⟩ := isD_at hd
  cases rx
  cases r1
  obtain ⟨h3, h4, h5, xs, h6, h7⟩ := (show l.length ≤ sizeLine ∧ (p == sysModules) = false ∧ (l.map (·.1)).Nodup ∧ ∃ xs, H1 p = some (DctV p xs) ∧ DRel X.K H1 l xs from s1' p _ e)
  have dd := dct_of I1 h6 h7 h5
  refine ⟨"dict", _, PySem.F.plainAttrs_dict, PySem.F.slot_dict_get, PySem.F.type_dict_get, dd.typeIs, dictOfH_noDict dd, ?_⟩
  rw [hs]
  refine Calls.callWith_builtin rfl (Calls.evalArgs_plain ?_)
  show wpAny _ _ (spliced ((false, eval k X.env) :: backTo pos (starEach [] X.env))) _ _ s1
  refine Calls.spliced_cons (thn (hk.run pins s1 σ H1 (fun y H2 => ∃ d S2, Kp H1 H2 ∧ StoOk X.K H2 S2 ∧ Rp X.K H2 d y ∧ dgtS (.ref p) d S2 P) I1 ⟨ρ, S1, W, _, se.at k1 s1', wl.at k1, fun y S2 h2 u H2 k2 s2 r2 => ⟨y, S2, k2, s2, r2, h2⟩, hB⟩) fun u s2 ⟨yv, H2, I2, ry, y, S2, k2, s2', r2, h2⟩ => ?_)
  refine Calls.spliced_nil ?_
  cases y <;> (try exact (show False from h2).elim)
  rename_i ds
  have h2' : (match S2 p with
    | some (.dct l) => (match ky (.tup ds) with
      | some k => P ((dfind l k).getD .non) S2
      | none => False)
    | _ => False) := h2
  split at h2'
  · rename_i l2 e2
    split at h2'
    · rename_i kk ek
      exact d_getN (by omega) I2 (dget_abs s2' e2 ek r2) rfl ry fun v r => (pl.at (k1.trans k2)) _ _ h2' _ _ (Kp.refl H2) s2' r
    · exact h2'.elim
  · exact h2'.elim
theorem l_d1 {k : Int} {nb : Nat} {p2 : Pos} {v : Expr} (hk : PE X (.Constant (.int k) nb p2) (LE X.K Wh fun _ S P _ => P (.int k) S)) (hv : PE X v (LE X.K Wh A)) :
    PE X (.Dict [some (.Constant (.int k) nb p2)] [v] pos) (LE X.K Wh fun ρ S P W => ∀ p, S p = none → A ρ (S.up p (.dci [])) (fun d S2 => S2 p = some (.dci []) ∧ P (.ref p) (S2.up p (.dci [(k, d)]))) W) := by
  refine PE.imp (pe_disp (pps_cons hk (hv) pps_nil) rfl rfl (by simp) (by simp)) fun σ H Q ⟨ρ, S, W, P, se, wl, pl, h⟩ => ?_
  intro p hp
  have s1 : StoOk X.K (upd H p (.dK [])) (S.up p (.dci [])) := se.sto.new hp ⟨[], upd_same, rfl⟩
  have k1 : Kp H (upd H p (.dK [])) := Kp.new hp
  refine ⟨ρ, S.up p (.dci []), W, fun d S1 => d = .int k ∧ S1 = S.up p (.dci []), se.at k1 s1, wl.at k1, fun x S1 h1 xv H1 k2 s2 r1 => ?_, rfl, rfl⟩
  obtain ⟨rfl, rfl⟩ := h1
  cases r1
  refine ⟨ρ, _, W, _, (se.at k1 s1).at k2 s2, (wl.at k1).at k2, fun d S2 h2 v H2 k3 s3 r2 => ?_, h p (se.sto.free hp)⟩
  obtain ⟨e2, h2⟩ := h2
  obtain ⟨xs, q1, q2⟩ := (show ∃ xs, H2 p = some (.dK xs) ∧ KRel X.K H2 [] xs from s3 p _ e2)
  cases (show xs = [] from q2)
  have kk : Kp H2 (upd H2 p (.dK [(.inl k, v)])) := Kp.dci q1
  exact ⟨q1, [(.inl k, v)], rfl, by simp, pl _ _ h2 _ _ (((k1.trans k2).trans k3).trans kk) (s3.dci q1 ⟨_, upd_same, v, [], rfl, Rp.kp kk _ r2, rfl⟩) rfl⟩
theorem isDi_at {x : D} (h : isDi S x) : ∃ a l, x = .ref a ∧ S a = some (.dci l) := by
  cases x <;> (try exact (show False from h).elim)
  rename_i a
  have h' : (match S a with
    | some (.dci _) => True
    | _ => False) := h
  split at h'
  · rename_i l e
    exact ⟨a, l, rfl, e⟩
  · exact h'.elim
def rSetdI (K : PySem.W.Frag) : V → List V → Hp → VK → Prop := fun x xs H Q => ∃ (a : Addr) (k : Int) (kvs : List (L2.Key × V)) (z : V), x = .ref a ∧ xs = [.int k, z] ∧ H a = some (.dK kvs) ∧ kvs.length < sizeLine ∧ (∀ v, valV kvs (.inl k) = some v → Q v H) ∧ (valV kvs (.inl k) = none → Q z (upd H a (.dK (putK kvs (.inl k) z))))
theorem mt_setdI : MtR X "dict.setdefault" (rSetdI X.K) := by
  intro pins s σ H x xs v us Q I rx rxs h
  obtain ⟨a, k, kvs, z, rfl, rfl, e, hl, q1, q2⟩ := h
  cases rx
  cases rxs with
  | cons r1 rt =>
    cases rt with
    | cons r2 rt =>
      cases rt
      exact d_setd (k := .inl k) I e r1 r2 hl (fun v hv w' s' I' rw' => ⟨v, _, I', rw', q1 v hv⟩) fun hn w' s' I' rw' => ⟨z, _, I', rw', q2 hn⟩
theorem me_setdI : MeAbs X.K (rSetdI X.K) dsdS := by
  intro x ds S P h H v vs Q s rx rs pl
  unfold dsdS at h
  split at h
  · rename_i a i z
    cases rx
    obtain ⟨v1, r1, rfl, h1, v2, r2, rfl, h2, h3⟩ := rs
    cases (show r2 = [] from h3)
    cases h1
    split at h
    · rename_i l e
      obtain ⟨hl, h⟩ := h
      obtain ⟨xs, q1, q2⟩ := (show ∃ xs, H a = some (.dK xs) ∧ KRel X.K H l xs from s a _ e)
      refine ⟨a, i, xs, v2, rfl, rfl, q1, by rw [q2.len]; exact hl, fun v hv => ?_, fun hn => ?_⟩
      · rcases q2.find (k := i) with ⟨z1, z2⟩ | ⟨d, v', z1, z2, z3⟩
        · rw [z2] at hv; cases hv
        · rw [z2] at hv
          cases hv
          rw [z1] at h
          exact pl.now h s z3
      · rcases q2.find (k := i) with ⟨z1, z2⟩ | ⟨d, v', z1, z2, z3⟩
        · rw [z1] at h
          have kk : Kp H (upd H a (.dK (putK xs (.inl i) v2))) := Kp.dci q1
          exact pl _ _ h _ _ kk (s.dci q1 ⟨_, upd_same, (q2.put h2).kp kk⟩) (Rp.kp kk _ h2)
        · rw [z2] at hn; cases hn
    · exact h.elim
  · exact h.elim
theorem tyDi {x : D} {v : V} {H : Hp} {S : Sto} (s : StoOk K H S) (e : isDi S x) (r : Rp K H x v) : tyV K "dict" v H := by
  obtain ⟨a, l, rfl, e2⟩ := isDi_at e
  cases r
  obtain ⟨xs, h, _⟩ := (show ∃ xs, H a = some (.dK xs) ∧ KRel K H l xs from s a _ e2)
  exact .inr (.inr (.inl ⟨rfl, .inl ⟨xs, h⟩⟩))
theorem l_dsd {e : Expr} {es : List Expr} {As : AA} {apos : Pos} (ho : PE X a (LE X.K Wh A)) (ha : PA X (e :: es) (LA X.K Wh As))
    (hbase : attributeBase a "setdefault" X.env (eval a X.env) = eval a X.env) (hs : starEach (e :: es) X.env = (false, eval e X.env) :: starEach es X.env) (hpl : (backTo pos (starEach es X.env)).any (·.1) = false) (hl : (e :: es).length < 20) (hline : (apos.endLine == pos.line) = true)
    (hall : (backTo pos (starEach (e :: es) X.env)).all (fun x => !x.1) = true) :
    PE X (.Call (.Attribute a "setdefault" apos) (e :: es) [] pos) (LE X.K Wh fun ρ S P W => A ρ S (fun x S1 => isDi S1 x ∧ As ρ S1 (fun ds S2 => dsdS x ds S2 P) W) W) := by
  have hfew : ((backTo pos (starEach (e :: es) X.env)).all (fun x => !x.1) && (backToKw pos (keywordEach [] X.env)).all (fun x => x.1.isSome) && decide ((e :: es).length + ([] : List Keyword).length + (if ([] : List Keyword).isEmpty then 0 else 1) < 30)) = true := by
    rw [hall, Bool.true_and]
    have z : decide ((e :: es).length + ([] : List Keyword).length + (if ([] : List Keyword).isEmpty then 0 else 1) < 30) = true := decide_eq_true (by simp only [List.isEmpty_nil, if_true, List.length_nil]; omega)
    rw [z]
    rfl
  refine PE.imp (pe_bm PySem.F.plainAttrs_dict PySem.F.slot_dict_setdefault PySem.F.type_dict_setdefault mt_setdI ho ha hbase hfew hline hs hpl) fun σ H Q ⟨ρ, S, W, P, se, wl, pl, h⟩ => ?_
  exact ⟨ρ, S, W, _, se, wl, fun x S1 h1 v H1 k1 s1 r1 => ⟨tyDi s1 h1.1 r1, ρ, S1, W, _, se.at k1 s1, wl.at k1, fun ds S2 h2 vs H2 k2 s2 r2 => me_setdI _ _ _ _ h2 _ _ _ _ s2 (Rp.kp k2 _ r1) r2 (pl.at (k1.trans k2)), h1.2⟩, h⟩
def rMinK (K : PySem.W.Frag) : List V → List V → Hp → VK → Prop := fun vs zs H Q => ∃ (a : Addr) (ns : List Int) (j : Int), vs = [V.ref a] ∧ zs = [V.int j] ∧ SqL K H a (ns.map V.int) ∧ (ns = [] → Q (.int j) H) ∧ ∀ m, m ∈ ns → (∀ y, y ∈ ns → m ≤ y) → Q (.int m) H
theorem fold_min : ∀ (ns : List Int) (n : Int), ns.foldl min n ∈ n :: ns ∧ ∀ y ∈ n :: ns, ns.foldl min n ≤ y
  | [], n => ⟨by simp, fun y hy => by simp at hy; subst hy; exact Int.le_refl _⟩
  | k :: ns, n => by
    obtain ⟨h1, h2⟩ := fold_min ns (min n k)
    rw [List.foldl_cons]
    have hm : ns.foldl min (min n k) ≤ min n k := h2 _ (by simp)
    have e1 : min n k ≤ n := Int.min_le_left _ _
    have e2 : min n k ≤ k := Int.min_le_right _ _
    constructor
    · rcases List.mem_cons.mp h1 with z | z
      · rw [z]
        by_cases c : n ≤ k
        · rw [Int.min_eq_left c]; simp
        · rw [Int.min_eq_right (by omega)]; simp
      · simp [z]
    · intro y hy
      rcases List.mem_cons.mp hy with z | z
      · omega
      · rcases List.mem_cons.mp z with z | z
        · omega
        · exact h2 y (by simp [z])
theorem cr_minK (hc : X.calm = true) (hu : X.A.units + 65 < cLine) : CallRK X (.builtin "min") [Str.ofString "default"] (rMinK X.K) := by
  intro pins s σ H vs zs us ws Q I r rz h
  obtain ⟨a, ns, j, rfl, rfl, hs, q0, q1⟩ := h
  obtain ⟨its, rv, hl, _⟩ := I.list hs
  rw [Vals.ref1 r]
  cases rz with
  | cons rj rt =>
    cases rt
    obtain ⟨t, rfl⟩ := (show ∃ t, _ = Value.int j t from rj)
    have hr := rv.ints.reads s.heap
    refine PySem.W.min_list_default (I.ok.hd hc) hl.isList (by simpa using hr) ⟨fun x hx y hy => ?_, fun x hx => ?_⟩ ?_ ?_ ?_
    · obtain ⟨n, _, rfl⟩ := List.mem_map.mp hx
      obtain ⟨m, _, rfl⟩ := List.mem_map.mp hy
      rfl
    · obtain ⟨n, _, rfl⟩ := List.mem_map.mp hx
      simp
    · rw [depthAll_ints]
      omega
    · intro e0 h' tk hk
      have : ns = [] := by
        cases ns with
        | nil => rfl
        | cons _ _ => cases e0
      exact ⟨.int j, H, I.kept hk, ⟨t, rfl⟩, q0 this⟩
    · intro y ys i v h' tk bs e0 _ hv hk
      cases ns with
      | nil => cases e0
      | cons n ns =>
        injection e0 with e1 e2
        subst e1 e2
        rw [PySem.W.minD_ints] at hv
        obtain ⟨f1, f2⟩ := fold_min ns n
        cases hv
        exact ⟨.int _, H, I.kept hk, ⟨_, rfl⟩, q1 _ f1 f2⟩
theorem l_mnd {b : Expr} {p kp : Pos} (kc : X.calm = true) (hu : X.A.units + 65 < cLine) (gl : Gl X "min") (ml : X.mg "min" = none) (ha : PE X a (LE X.K Wh A)) (hb : PE X b (LE X.K Wh B)) (hst : starEach [a] X.env = (false, eval a X.env) :: starEach [] X.env) :
    PE X (.Call (.Name "min" p) [a] [⟨some "default", b, kp⟩] pos) (LE X.K Wh fun ρ S P W => A ρ S (fun x S1 => B ρ S1 (fun y S2 => mndS x y S2 P) W) W) := by
  refine PE.imp (pe_callBK (ks := [Str.ofString "default"]) (cr_minK kc hu) gl ml (by decide +kernel) (pa_cons ha pa_nil hst) (pk_cons hb pk_nil) (by decide) (by decide) (by rw [hst]; rfl) (by rw [hst]; rfl) rfl rfl rfl) fun σ H Q ⟨ρ, S, W, P, se, wl, pl, h⟩ => ?_
  refine ⟨ρ, S, W, _, se, wl, fun x S1 h1 v H1 k1 s1 r1 => ⟨ρ, S1, W, _, se.at k1 s1, wl.at k1, fun y S2 h2 u H2 k2 s2 r2 => ?_, h1⟩, h⟩
  unfold mndS at h2
  split at h2
  · rename_i l j el
    cases r2
    obtain ⟨a', us, e1, hq, rs⟩ := lstD_rd s2 (Rp.kp k2 _ r1) el
    subst e1
    split at h2
    · rename_i ns en
      exact ⟨a', ns, j, rfl, rfl, by rw [← intL_rps rs en]; exact hq, fun h0 => pl _ _ (h2.1 h0) _ _ (k1.trans k2) s2 rfl, fun m hm hm2 => pl _ _ (h2.2 m hm hm2) _ _ (k1.trans k2) s2 rfl⟩
    · exact h2.elim
  · exact h2.elim
end
end Sd
namespace Sd
open PySem PySem.Spec PyProof.Rows L2
section
variable {X : Cx} {Wh : WX} {Γ : Gam} {A B C : AE} {As : AA} {a b c e tg iter : Expr} {es rest : List Expr} {pos : Pos} {K : PySem.W.Frag} {H : Hp} {S : Sto}
structure Wk (K : PySem.W.Frag) (J : It) (ds : List D) (src : Src) (H1 : Hp) : Prop where
  go : ∀ i H S, i < ds.length → Kp H1 H → StoOk K H S → src.ok S → J.go i H
  yld : ∀ i H S x H', i < ds.length → Kp H1 H → StoOk K H S → src.ok S → J.yld i H x H' → Sm H H' ∧ ∃ d, ds[i]? = some d ∧ Rp K H' d x
  stop : ∀ H S, Kp H1 H → StoOk K H S → src.ok S → J.stop ds.length H
def LI (K : PySem.W.Frag) (Wh : WX) (A : AI) : TI := fun σ H R => ∃ ρ S W P, Sees K H σ ρ S ∧ WLe K H W Wh ∧ (∀ ds src S1, P ds src S1 → ∀ J H1, Kp H H1 → StoOk K H1 S1 → Wk K J ds src H1 → R J H1) ∧ A ρ S P W
theorem PI.imp {t t' : TI} (h : PI X tg iter t) (i : ∀ σ H R, t' σ H R → t σ H R) : PI X tg iter t' := ⟨fun pins s σ H R I hw => h.run pins s σ H R I (i σ H R hw)⟩
theorem pi_seq {l : Expr} {tl : TE} (hl : PE X l tl) : PI X tg l (fun σ H R => tl σ H fun x H1 => (∃ a, x = .ref a ∧ (((∃ xs, SqL X.K H1 a xs) ∧ R (Itl X.K a) H1) ∨ ((∃ xs, SqT X.K H1 a xs) ∧ R (Itt X.K a) H1))) ∨ ∃ z, x = .str z ∧ R (Its z) H1) := by
  refine ⟨fun pins s σ H R I h => ?_⟩
  refine thn (hl.run pins s σ H _ I h) fun v s1 ⟨x, H1, I1, r1, qq⟩ => ?_
  rcases qq with ⟨p, ex, q1⟩ | ⟨z, ex, qz⟩
  rotate_left
  · subst ex
    obtain ⟨tz, rfl⟩ := r1
    by_cases low : z.cps.all (· < 128) = true
    · exact wpAny_pyIter_ascii low (pi_one (tk := s1.toks) I1 _ (turn_str _ z tz "str_ascii_iterator" (Or.inl rfl)) ⟨_, Heap.get?_push_size _ rfl, rfl, rfl⟩ qz)
    · exact wpAny_pyIter_wide (by simpa using low) (pi_one (tk := s1.toks) I1 _ (turn_str _ z tz "str_iterator" (Or.inr rfl)) ⟨_, Heap.get?_push_size _ rfl, rfl, rfl⟩ qz)
  subst ex
  cases r1
  rcases q1 with ⟨⟨xs, hq⟩, q⟩ | ⟨⟨xs, hq⟩, q⟩
  · obtain ⟨its, rv, pl, hz⟩ := I1.list hq
    refine wpAny_pyIter_list pl.isList ⟨_, [s1.heap.objs.size], _, _, H1, rfl, I1.kept (t' := s1.toks) fun z o ez => Heap.get?_push_of_some _ ez, turn_list p _, ⟨_, Heap.get?_push_size _ rfl, rfl, rfl⟩, fun z hz => ?_, q⟩
    cases (show z = s1.heap.objs.size by simpa using hz)
    exact I1.fpOk (Nat.le_refl _) I1.fresh
  · obtain ⟨its, rv, pl, hz⟩ := I1.tuple hq
    refine wpAny_pyIter_tuple (show s1.heap.IsTuple p its.toArray from pl) ⟨_, [s1.heap.objs.size], _, _, H1, rfl, I1.kept (t' := s1.toks) fun z o ez => Heap.get?_push_of_some _ ez, turn_tuple p _, ⟨_, Heap.get?_push_size _ rfl, rfl, rfl⟩, fun z hz => ?_, q⟩
    cases (show z = s1.heap.objs.size by simpa using hz)
    exact I1.fpOk (Nat.le_refl _) I1.fresh
theorem wk_list {a : Addr} {w : Bool} {l : List D} {H1 : Hp} : Wk K (Itl K a) l (.lst a w l) H1 where
  go := fun i H S hi _ s e => by
    obtain ⟨vs, q, r⟩ := s.rd e
    have hl := r.length
    exact ⟨vs, vs[i], q, List.getElem?_eq_getElem (by omega)⟩
  yld := fun i H S x H' hi _ s e y => by
    obtain ⟨vs, q, r⟩ := s.rd e
    obtain ⟨rfl, y⟩ := y
    obtain ⟨d, e1, e2⟩ := r.getV (y vs q)
    exact ⟨fun _ _ z => z, d, e1, e2⟩
  stop := fun H S _ s e => by
    obtain ⟨vs, q, r⟩ := s.rd e
    exact ⟨vs, q, by rw [r.length]; exact Nat.le_refl _⟩
theorem SqT.inj {H : Hp} {a : Addr} {xs ys : List V} (hk : ∀ o, K.lookup a = some o → H a = none) (h : SqT K H a xs) (h' : SqT K H a ys) : xs = ys := by
  rcases h with (h | ⟨o, h⟩) | ⟨o, its, n, h, _, hd, _, hv⟩ <;> rcases h' with (h' | ⟨o', h'⟩) | ⟨o', its', n', h', _, hd', _, hv'⟩
  · rw [h] at h'; cases h'; rfl
  · rw [h] at h'; cases h'
  · have := hk _ h'; rw [h] at this; cases this
  · rw [h] at h'; cases h'
  · rw [h] at h'; cases h'; rfl
  · have := hk _ h'; rw [h] at this; cases this
  · have := hk _ h; rw [h'] at this; cases this
  · have := hk _ h; rw [h'] at this; cases this
  · rw [h] at h'
    cases h'
    rw [hd] at hd'
    cases hd'
    exact Vals.inj hv hv'
theorem wk_tup {a : Addr} {l : List D} {vs : List V} {H1 : Hp} (q : SqT K H1 a vs) (r : Rps K H1 l vs) : Wk K (Itt K a) l .free H1 where
  go := fun i H S hi k s _ => by
    have hl := r.length
    exact ⟨vs, vs[i], SqT.kp k q, List.getElem?_eq_getElem (by omega)⟩
  yld := fun i H S x H' hi k s _ y => by
    obtain ⟨rfl, y⟩ := y
    obtain ⟨d, e1, e2⟩ := r.getV (y vs (SqT.kp k q))
    exact ⟨fun _ _ z => z, d, e1, Rp.kp k _ e2⟩
  stop := fun H S k s _ => ⟨vs, SqT.kp k q, by rw [r.length]; exact Nat.le_refl _⟩
theorem rng_len {lo : Int} {n : Nat} : (rngItems lo n).length = n := by simp [rngItems]
theorem rng_get {lo : Int} {n i : Nat} (h : i < n) : (rngItems lo n)[i]? = some (D.int (lo + (i : Int))) := by
  unfold rngItems
  rw [List.getElem?_map, List.getElem?_range h]
  rfl
theorem wk_rng {lo : Int} {n : Nat} {H1 : Hp} : Wk K (Itr lo n) (rngItems lo n) .free H1 where
  go := fun i H S hi _ _ _ => by rw [rng_len] at hi; exact hi
  yld := fun i H S x H' hi _ _ _ y => by
    rw [rng_len] at hi
    obtain ⟨rfl, rfl⟩ := y
    exact ⟨fun _ _ z => z, _, rng_get hi, rfl⟩
  stop := fun H S _ _ _ => by rw [rng_len]; exact Nat.le_refl _
theorem wk_str {z : Str} {H1 : Hp} : Wk K (Its z) (signs z) .free H1 where
  go := fun i H S hi _ _ _ => by
    unfold signs at hi
    rw [List.length_map, Array.length_toList] at hi
    exact hi
  yld := fun i H S x H' hi _ _ _ y => by
    obtain ⟨rfl, c, hc, rfl⟩ := y
    refine ⟨fun _ _ z => z, .str ⟨#[c]⟩, ?_, rfl⟩
    unfold signs
    rw [List.getElem?_map, Array.getElem?_toList, hc]
    rfl
  stop := fun H S _ _ _ => by
    unfold signs
    rw [List.length_map, Array.length_toList]
    exact Nat.le_refl _
theorem i_seq (hl : PE X e (LE X.K Wh A)) : PI X tg e (LI X.K Wh fun ρ S P W => A ρ S (fun d S1 => match d with
    | .tup l => P l .free S1
    | .str z => P (signs z) .free S1
    | .ref a => (match S1 a with
      | some (.lst w l) => P l (.lst a w l) S1
      | _ => False)
    | _ => False) W) :=
  PI.imp (pi_seq hl) fun σ H R ⟨ρ, S, W, P, se, wl, il, h⟩ => ⟨ρ, S, W, _, se, wl, fun d S1 h1 v H1 k1 s1 r1 => by
    by_cases hst : ∃ z, d = .str z
    · obtain ⟨z, rfl⟩ := hst
      cases r1
      exact .inr ⟨z, rfl, il _ _ _ h1 _ H1 k1 s1 wk_str⟩
    cases d <;> (try exact (hst ⟨_, rfl⟩).elim) <;> (try exact (show False from h1).elim)
    · rename_i p
      cases r1
      dsimp only at h1
      split at h1
      · rename_i w l ep
        obtain ⟨vs, q, r⟩ := s1.rd ep
        exact .inl ⟨p, rfl, .inl ⟨⟨vs, q⟩, il _ _ _ h1 _ H1 k1 s1 wk_list⟩⟩
      · exact h1.elim
    · rename_i l
      obtain ⟨p, vs, rfl, q, r⟩ := r1
      exact .inl ⟨p, rfl, .inr ⟨⟨vs, q⟩, il _ _ _ h1 _ H1 k1 s1 (wk_tup q r)⟩⟩, h⟩
theorem i_rng1 {p : Pos} (hg : Gl X "range") (hm : X.mg "range" = none) (ha : PE X a (LE X.K Wh A)) (hs : starEach [a] X.env = [(false, eval a X.env)]) : PI X tg (.Call (.Name "range" p) [a] [] pos) (LI X.K Wh fun ρ S P W => A ρ S (fun d S1 => match d with
    | .int j => (-(2 ^ 62) ≤ j ∧ j < 2 ^ 62) ∧ P (rngItems 0 j.toNat) .free S1
    | _ => False) W) :=
  PI.imp (pi_range1 hg hm (pa_cons ha pa_nil hs) hs) fun σ H R ⟨ρ, S, W, P, se, wl, il, h⟩ => ⟨ρ, S, W, _, se, wl, fun d S1 h1 v H1 k1 s1 r1 => by
    cases d <;> (try exact (show False from h1).elim)
    rename_i j
    cases r1
    exact ⟨j, rfl, h1.1.1, h1.1.2, il _ _ _ h1.2 _ H1 k1 s1 wk_rng⟩, h⟩
theorem i_rng2 {p : Pos} (hg : Gl X "range") (hm : X.mg "range" = none) (ha : PE X a (LE X.K Wh A)) (hb : PE X b (LE X.K Wh B)) (hs2 : starEach [b] X.env = [(false, eval b X.env)]) (hs : starEach [a, b] X.env = (false, eval a X.env) :: starEach [b] X.env) : PI X tg (.Call (.Name "range" p) [a, b] [] pos) (LI X.K Wh fun ρ S P W => A ρ S (fun d S1 => B ρ S1 (fun e S2 => match d, e with
    | .int i, .int j => (-(2 ^ 62) ≤ i ∧ i < 2 ^ 62 ∧ -(2 ^ 62) ≤ j ∧ j < 2 ^ 62) ∧ P (rngItems i (j - i).toNat) .free S2
    | _, _ => False) W) W) :=
  PI.imp (pi_range2 hg hm (pa_cons ha (pa_cons hb pa_nil hs2) hs) (by rw [hs, hs2]) hs2) fun σ H R ⟨ρ, S, W, P, se, wl, il, h⟩ => ⟨ρ, S, W, _, se, wl, fun d S1 h1 v H1 k1 s1 r1 => ⟨ρ, S1, W, _, se.at k1 s1, wl.at k1, fun d2 S2 h2 v2 H2 k2 s2 r2 => by
    cases d <;> cases d2 <;> (try exact (show False from h2).elim)
    rename_i i j
    cases r1; cases r2
    exact ⟨i, j, rfl, h2.1, il _ _ _ h2.2 _ H2 (k1.trans k2) s2 wk_rng⟩, h1⟩, h⟩
def ItM (K : PySem.W.Frag) (a b : Addr) : It where
  go := fun i H => ∃ (xs ys : List V) (x y : V), SqT K H a xs ∧ SqL K H b ys ∧ xs[i]? = some x ∧ ys[i]? = some y
  yld := fun i H v H' => ∃ T x y, v = .ref T ∧ H T = none ∧ H' = upd H T (.tup [x, y]) ∧ (∀ xs, SqT K H a xs → xs[i]? = some x) ∧ ∀ ys, SqL K H b ys → ys[i]? = some y
  stop := fun i H => ∃ xs ys : List V, SqT K H a xs ∧ SqL K H b ys ∧ i ≤ xs.length ∧ i ≤ ys.length ∧ (i = xs.length ∨ i = ys.length)
theorem turn_zipM {P : Program} {w : World} {K : PySem.W.Frag} {elts : List Expr} {kk : Nat} {tpos : Pos} {a b z TI TO i1 i2 : Addr} (Z : ZipSep2 z TI TO i1 i2 [i1, a] [i2, b]) (na : a ≠ i1) (nb : b ≠ i2) :
    Turn P w K (.Tuple elts kk tpos) (ItM K a b) [z, TI, TO, i1, i2] z (fun i h => IsZip h z TI TO .none ∧ IsTupOf2 h TI (.ref i1) (.ref i2) ∧ (∃ x y, IsTupOf2 h TO x y) ∧ h.IsTupleIter i1 a i ∧ h.IsListIter i2 b i) where
  mem := by simp
  obj := fun i h ⟨hz, hI, ⟨x, y, hO⟩, ⟨o1, e1, _, d1⟩, ⟨o2, e2, _, d2⟩⟩ c hc => by
    simp only [List.mem_cons, List.not_mem_nil, or_false] at hc
    rcases hc with rfl | rfl | rfl | rfl | rfl
    · exact ⟨_, hz, fun _ q => nomatch q⟩
    · exact ⟨_, hI, fun _ q => nomatch q⟩
    · exact ⟨_, hO, fun _ q => nomatch q⟩
    · exact ⟨o1, e1, fun _ q => by rw [d1] at q; cases q⟩
    · exact ⟨o2, e2, fun _ q => by rw [d2] at q; cases q⟩
  keep := fun i h h' ⟨hz, hI, ⟨x, y, hO⟩, h1, h2⟩ k => ⟨k z (by simp) _ hz, k TI (by simp) _ hI, ⟨x, y, k TO (by simp) _ hO⟩, h1.at fun o => k i1 (by simp) o, h2.at fun o => k i2 (by simp) o⟩
  item := by
    intro X hP hw hK hc i pins s σ H E I hf ⟨hz, hI, ⟨x0, y0, hO⟩, h1, h2⟩ ⟨xs, ys, x, y, qx, qy, hx, hy⟩
    subst hP hw hK
    obtain ⟨us, rv, p, _⟩ := I.tuple qx
    obtain ⟨vs, rv2, p2, _⟩ := I.list qy
    obtain ⟨u, hu, ru⟩ := rv.get hx
    obtain ⟨u2, hu2, ru2⟩ := rv2.get hy
    have lz : z < s.heap.objs.size := Heap.lt_size hz
    have hh : X.A.in1.handled = none := I.ok.hd hc
    have li : i < us.toArray.size := by
      have := (List.getElem?_eq_some_iff.mp hu).1
      simpa using this
    have li2 : i < vs.toArray.size := by
      have := (List.getElem?_eq_some_iff.mp hu2).1
      simpa using this
    refine wpAny_pyNext_zipD2_item Z (Draws.tuple hh i1 a na us.toArray) (Draws.list hh i2 b nb vs.toArray) hz hI hO ⟨h1, p⟩ ⟨h2, p2.isList⟩ li li2 fun w1 w2 h' tk g1 g2 z' O' t1 t2 N' sz' hk => ?_
    have e1 : w1 = u := by
      have : us[i]? = some w1 := by simpa using g1
      rw [hu] at this
      exact (Option.some.inj this).symm
    have e2 : w2 = u2 := by
      have : vs[i]? = some w2 := by simpa using g2
      rw [hu2] at this
      exact (Option.some.inj this).symm
    subst e1 e2
    refine ⟨_, rfl, wpAny_letOwnedTupleGo_zip (s := { s with heap := h', toks := tk }) z' fun hB z2 sb => ?_⟩
    have hk' : ∀ c o, c ∉ [z, TI, TO, i1, i2] → s.heap.get? c = some o → hB.get? c = some o := fun c o hn e => by
      simp only [List.mem_cons, List.not_mem_nil, or_false, not_or] at hn
      exact (sb.2 c hn.1).trans (hk c o hn.1 hn.2.2.1 hn.2.2.2.1 hn.2.2.2.2 e)
    have hN : hB.get? s.heap.objs.size = some { cls := .type "tuple", data := .seq #[w1, w2] } := (sb.2 _ (Nat.ne_of_gt lz)).trans N'
    have okN : ObjOk X.prog X.w (upd H s.heap.objs.size (.tup [x, y])) hB s.heap.objs.size (.tup [x, y]) :=
      ⟨(by decide : 2 ≤ sizeLine), [w1, w2], .cons ru (.cons ru2 .nil), _, hN, rfl, _, rfl⟩
    have J := I.turnedNew (t' := tk) (ch := [z, TI, TO, i1, i2]) hk' hf (Nat.le_refl _) okN
    have hI' : hB.get? TI = _ := (sb.2 _ Z.TIz).trans (hk _ _ Z.TIz Z.TITO Z.TIi1 Z.TIi2 hI)
    refine ⟨.ref s.heap.objs.size, _, J, rfl, ⟨_, x, y, rfl, I.hok.fresh (Nat.le_refl _), rfl, fun l hl => (I.tuple_inj hl qx) ▸ hx, fun l hl => (I.list_inj hl qy) ▸ hy⟩, ⟨z2, hI', ⟨w1, w2, (sb.2 _ Z.TOz).trans O'⟩, t1.1.at fun o q => (sb.2 _ Z.zi1.symm).trans q, t2.1.at fun o q => (sb.2 _ Z.zi2.symm).trans q⟩, fun c hcm => ?_⟩
    have hlt : c < s.heap.objs.size := by
      simp only [List.mem_cons, List.not_mem_nil, or_false] at hcm
      obtain ⟨_, f1, _⟩ := h1
      obtain ⟨_, f2, _⟩ := h2
      rcases hcm with rfl | rfl | rfl | rfl | rfl
      · exact lz
      · exact Heap.lt_size hI
      · exact Heap.lt_size hO
      · exact Heap.lt_size f1
      · exact Heap.lt_size f2
    exact (upd_ne (Nat.ne_of_lt hlt)).trans (hf c hcm).1
  done := by
    intro X hP hw hK hc i pins s σ H E I hf ⟨hz, hI, ⟨x0, y0, hO⟩, h1, h2⟩ ⟨xs, ys, qx, qy, k1, k2, k3⟩
    subst hP hw hK
    obtain ⟨us, rv, p, _⟩ := I.tuple qx
    obtain ⟨vs, rv2, p2, _⟩ := I.list qy
    have hh : X.A.in1.handled = none := I.ok.hd hc
    have l1 : us.toArray.size = xs.length := by simpa using rv.length.symm
    have l2 : vs.toArray.size = ys.length := by simpa using rv2.length.symm
    exact wpAny_pyNext_zipD2_end Z (Draws.tuple hh i1 a na us.toArray) (Draws.list hh i2 b nb vs.toArray) hz hI hO ⟨h1, p⟩ ⟨h2, p2.isList⟩ (by omega) (by omega) (by omega) fun h' tk hk => ⟨rfl, I.turnedL (t' := tk) (ch := [z, TI, TO, i1, i2]) (fun c o hn e => by
      simp only [List.mem_cons, List.not_mem_nil, or_false, not_or] at hn
      exact hk c o hn.1 hn.2.2.1 hn.2.2.2.1 hn.2.2.2.2 e) hf⟩
  self := fun A i s Q E st => wpAny_pyIter_zip st.1
def iZipM (K : PySem.W.Frag) (ta : TA) : TI := fun σ H R => ta σ H fun vs H1 => ∃ a b xs ys, vs = [.ref a, .ref b] ∧ ((SqL K H1 a xs ∧ SqL K H1 b ys ∧ R (Itz K a b) H1) ∨ (SqT K H1 a xs ∧ SqL K H1 b ys ∧ R (ItM K a b) H1))
theorem pi_zipM {X : Cx} {e e2 : Expr} {ta : TA} {p pos tpos : Pos} {elts : List Expr} {kk : Nat} (hg : Gl X "zip") (hm : X.mg "zip" = none) (ha : PA X [e, e2] ta)
    (hs : starEach [e, e2] X.env = (false, eval e X.env) :: starEach [e2] X.env) (hp : (backTo pos (starEach [e2] X.env)).any (·.1) = false) :
    PI X (.Tuple elts kk tpos) (.Call (.Name "zip" p) [e, e2] [] pos) (iZipM X.K ta) := by
  refine ⟨fun pins s σ H R I h => Call_ (ld_blt I hg hm boot_zip (callWith_type1 (thn (ha.run pos pins s σ H _ I h) fun us s1 ⟨vs, H1, I1, r1, a, b, xs, ys, ex, q1⟩ => ?_) hs hp))⟩
  subst ex
  have eus : us = [.ref a, .ref b] := by
    cases r1 with
    | cons r rr =>
      cases rr with
      | cons r' rr =>
        cases rr
        cases r
        cases r'
        rfl
  subst eus
  have fr5 : ∀ c, c ∈ [s1.heap.objs.size + 4, s1.heap.objs.size + 2, s1.heap.objs.size + 3, s1.heap.objs.size, s1.heap.objs.size + 1] → FpOk X pins H1 c := fun c hcm => by
    have hle : s1.heap.objs.size ≤ c := by
      simp only [List.mem_cons, List.not_mem_nil, or_false] at hcm
      rcases hcm with rfl | rfl | rfl | rfl | rfl <;> first | exact Nat.le_add_right _ _ | exact Nat.le_refl _
    exact I1.fpOk hle (I1.hok.fresh hle)
  rcases q1 with ⟨qx, qy, q⟩ | ⟨qx, qy, q⟩
  · obtain ⟨its, rv, p1, _⟩ := I1.list qx
    obtain ⟨its2, rv2, p2, _⟩ := I1.list qy
    exact call_zip_2 p1.isList p2.isList fun h' hz hTI hTO h1 h2 hsz hk => wpAny_pyIter_zip hz ⟨s1.heap.objs.size + 4, [s1.heap.objs.size + 4, s1.heap.objs.size + 2, s1.heap.objs.size + 3, s1.heap.objs.size, s1.heap.objs.size + 1], _, _, H1, rfl, I1.kept (t' := s1.toks) hk, turn_zip (PySem.W.ktu_apart s1.heap.objs.size a b p1.lt p2.lt), ⟨hz, hTI, ⟨_, _, hTO⟩, h1, h2⟩, fr5, q⟩
  · obtain ⟨its, rv, p1, _⟩ := I1.tuple qx
    obtain ⟨its2, rv2, p2, _⟩ := I1.list qy
    have la : a < s1.heap.objs.size := by
      obtain ⟨_, f, _⟩ := id p1
      exact Heap.lt_size f
    have lb : b < s1.heap.objs.size := p2.lt
    have Z := zip_sep2 (N := s1.heap.objs.size) (fp1 := [a]) (fp2 := [b]) (by simpa using la) (by simpa using lb)
    exact zip_begins2 (begins_tuple a its.toArray) (begins_list b its2.toArray) p1 p2.isList fun h' hz hTI hTO h1 h2 hsz hk => wpAny_pyIter_zip hz ⟨s1.heap.objs.size + 4, [s1.heap.objs.size + 4, s1.heap.objs.size + 2, s1.heap.objs.size + 3, s1.heap.objs.size, s1.heap.objs.size + 1], _, _, H1, rfl, I1.kept (t' := s1.toks) hk, turn_zipM Z (Nat.ne_of_lt la) (Nat.ne_of_lt (Nat.lt_succ_of_lt lb)), ⟨hz, hTI, ⟨_, _, hTO⟩, ⟨_, h1, rfl, rfl⟩, ⟨_, h2, rfl, rfl⟩⟩, fr5, q⟩
theorem enm_get {l : List D} {i : Nat} {d : D} (h : l[i]? = some d) : (enmD l)[i]? = some (.tup [.int (i : Int), d]) := by
  have hi : i < l.length := (List.getElem?_eq_some_iff.mp h).1
  unfold enmD
  rw [List.getElem?_zipWith, h, List.getElem?_range hi]
theorem enm_len {l : List D} : (enmD l).length = l.length := by
  unfold enmD
  simp
theorem wk_enm {a : Addr} {w : Bool} {l : List D} {H1 : Hp} : Wk K (Ite K a) (enmD l) (.lst a w l) H1 where
  go := fun i H S hi _ s e => by
    obtain ⟨vs, q, r⟩ := s.rd e
    have hl := r.length
    rw [enm_len] at hi
    exact ⟨vs, vs[i], q, List.getElem?_eq_getElem (by omega)⟩
  yld := fun i H S x H' hi _ s e y => by
    obtain ⟨vs, q, r⟩ := s.rd e
    obtain ⟨T, x', rfl, hT, rfl, y⟩ := y
    obtain ⟨d, e1, e2⟩ := r.getV (y vs q)
    have sm := Sm.new (o := HO.tup [.int (i : Nat), x']) hT
    exact ⟨sm, _, enm_get e1, T, _, rfl, .inl (.inl upd_same), Rps.cons (d := .int (i : Int)) rfl (Rps.one (Rp.kp sm.kp _ e2))⟩
  stop := fun H S _ s e => by
    obtain ⟨vs, q, r⟩ := s.rd e
    exact ⟨vs, q, by rw [r.length, enm_len]; exact Nat.le_refl _⟩
theorem i_enm {p tpos : Pos} {elts : List Expr} {kk : Nat} (hg : Gl X "enumerate") (hm : X.mg "enumerate" = none) (ha : PE X a (LE X.K Wh A)) (hs : starEach [a] X.env = [(false, eval a X.env)]) :
    PI X (.Tuple elts kk tpos) (.Call (.Name "enumerate" p) [a] [] pos) (LI X.K Wh fun ρ S P W => A ρ S (fun x S1 => match x with
      | .ref p => (match S1 p with
        | some (.lst w l) => P (enmD l) (.lst p w l) S1
        | _ => False)
      | _ => False) W) :=
  PI.imp (pi_enum hg hm (l_cons ha l_nil hs) hs) fun σ H R ⟨ρ, S, W, P, se, wl, pl, h⟩ => by
    refine ⟨ρ, S, W, fun ds S1 => (match ds with
      | [x] => (match x with
        | .ref p => (match S1 p with
          | some (.lst w l) => P (enmD l) (.lst p w l) S1
          | _ => False)
        | _ => False)
      | _ => False), se, wl, fun ds S1 h1 vs H1 k1 s1 r1 => ?_, h⟩
    match ds, h1 with
    | [x], h1 =>
      obtain ⟨v, rfl, rv⟩ := r1.one'
      cases x <;> (try exact (show False from h1).elim)
      rename_i p
      cases rv
      have h1 : (match S1 p with
          | some (.lst w l) => P (enmD l) (.lst p w l) S1
          | _ => False) := h1
      split at h1
      · rename_i w l e
        obtain ⟨us, q1, r1⟩ := s1.rd e
        exact ⟨_, us, rfl, q1, pl _ _ _ h1 _ H1 k1 s1 wk_enm⟩
      · exact h1.elim
theorem zip_len {l m : List D} : (zipD l m).length = min l.length m.length := by
  unfold zipD
  rw [List.length_map, List.length_zip]
theorem wk_zip {a b : Addr} {w v : Bool} {l m : List D} {H1 : Hp} : Wk K (Itz K a b) (zipD l m) (.two a w l b v m) H1 where
  go := fun i H S hi _ s e => by
    rw [zip_len] at hi
    obtain ⟨vs, q, r⟩ := s.rd e.1
    obtain ⟨us, q2, r2⟩ := s.rd e.2
    have hl := r.length
    have hl2 := r2.length
    exact ⟨vs, us, vs[i], us[i], q, q2, List.getElem?_eq_getElem (by omega), List.getElem?_eq_getElem (by omega)⟩
  yld := fun i H S x H' hi _ s e y => by
    obtain ⟨vs, q, r⟩ := s.rd e.1
    obtain ⟨us, q2, r2⟩ := s.rd e.2
    obtain ⟨T, x1, y1, rfl, hT, rfl, f1, f2⟩ := y
    obtain ⟨d, e1, e2⟩ := r.getV (f1 vs q)
    obtain ⟨d', e3, e4⟩ := r2.getV (f2 us q2)
    refine ⟨Sm.new hT, .tup [d, d'], ?_, T, [x1, y1], rfl, .inl (.inl upd_same), ?_⟩
    · unfold zipD
      rw [List.getElem?_map, List.getElem?_zip_eq_some (z := (d, d')).mpr ⟨e1, e3⟩]
      rfl
    · exact ⟨x1, [y1], rfl, Rp.kp (Kp.new hT) _ e2, y1, [], rfl, Rp.kp (Kp.new hT) _ e4, rfl⟩
  stop := fun H S _ s e => by
    obtain ⟨vs, q, r⟩ := s.rd e.1
    obtain ⟨us, q2, r2⟩ := s.rd e.2
    have hl := r.length
    have hl2 := r2.length
    refine ⟨vs, us, q, q2, ?_⟩
    rw [zip_len]
    omega
theorem wk_zipM {a b : Addr} {v : Bool} {l m : List D} {vs : List V} {H1 : Hp} (q : SqT K H1 a vs) (r : Rps K H1 l vs) : Wk K (ItM K a b) (zipD l m) (.lst b v m) H1 where
  go := fun i H S hi k s e => by
    rw [zip_len] at hi
    obtain ⟨us, q2, r2⟩ := s.rd e
    have hl := r.length
    have hl2 := r2.length
    exact ⟨vs, us, vs[i], us[i], SqT.kp k q, q2, List.getElem?_eq_getElem (by omega), List.getElem?_eq_getElem (by omega)⟩
  yld := fun i H S x H' hi k s e y => by
    obtain ⟨us, q2, r2⟩ := s.rd e
    obtain ⟨T, x1, y1, rfl, hT, rfl, f1, f2⟩ := y
    obtain ⟨d, e1, e2⟩ := r.getV (f1 vs (SqT.kp k q))
    obtain ⟨d', e3, e4⟩ := r2.getV (f2 us q2)
    refine ⟨Sm.new hT, .tup [d, d'], ?_, T, [x1, y1], rfl, .inl (.inl upd_same), ?_⟩
    · unfold zipD
      rw [List.getElem?_map, List.getElem?_zip_eq_some (z := (d, d')).mpr ⟨e1, e3⟩]
      rfl
    · exact ⟨x1, [y1], rfl, Rp.kp (Kp.new hT) _ (Rp.kp k _ e2), y1, [], rfl, Rp.kp (Kp.new hT) _ e4, rfl⟩
  stop := fun H S k s e => by
    obtain ⟨us, q2, r2⟩ := s.rd e
    have hl := r.length
    have hl2 := r2.length
    refine ⟨vs, us, SqT.kp k q, q2, ?_, ?_, ?_⟩ <;> (rw [zip_len]; omega)
theorem i_zip {p tpos : Pos} {elts : List Expr} {kk : Nat} (hg : Gl X "zip") (hm : X.mg "zip" = none) (ha : PE X a (LE X.K Wh A)) (hb : PE X b (LE X.K Wh B)) (hs2 : starEach [b] X.env = [(false, eval b X.env)]) (hs : starEach [a, b] X.env = (false, eval a X.env) :: starEach [b] X.env) : PI X (.Tuple elts kk tpos) (.Call (.Name "zip" p) [a, b] [] pos) (LI X.K Wh fun ρ S P W => A ρ S (fun x S1 => B ρ S1 (fun y S2 => match x, y with
    | .ref p, .ref q => (match S2 p, S2 q with
      | some (.lst w l), some (.lst v m) => P (zipD l m) (.two p w l q v m) S2
      | _, _ => False)
    | .tup l, .ref q => (match S2 q with
      | some (.lst v m) => P (zipD l m) (.lst q v m) S2
      | _ => False)
    | _, _ => False) W) W) :=
  PI.imp (pi_zipM hg hm (pa_cons ha (pa_cons hb pa_nil hs2) hs) hs (by rw [hs2]; rfl)) fun σ H R ⟨ρ, S, W, P, se, wl, il, h⟩ => ⟨ρ, S, W, _, se, wl, fun d S1 h1 v H1 k1 s1 r1 => ⟨ρ, S1, W, _, se.at k1 s1, wl.at k1, fun d2 S2 h2 v2 H2 k2 s2 r2 => by
    cases d <;> cases d2 <;> (try exact (show False from h2).elim)
    · rename_i i j
      cases r1; cases r2
      dsimp only at h2
      split at h2
      · rename_i w l v' m e1 e2
        obtain ⟨vs, q, r⟩ := s2.rd e1
        obtain ⟨us, q2, r2⟩ := s2.rd e2
        exact ⟨i, j, vs, us, rfl, .inl ⟨q, q2, il _ _ _ h2 _ H2 (k1.trans k2) s2 wk_zip⟩⟩
      · exact h2.elim
    · rename_i l j
      obtain ⟨i, vs, rfl, q, r⟩ := r1
      cases r2
      dsimp only at h2
      split at h2
      · rename_i v' m e2
        obtain ⟨us, q2, r2⟩ := s2.rd e2
        exact ⟨i, j, vs, us, rfl, .inr ⟨SqT.kp k2 q, q2, il _ _ _ h2 _ H2 (k1.trans k2) s2 (wk_zipM (SqT.kp k2 q) (Rps.kp k2 _ r))⟩⟩
      · exact h2.elim, h1⟩, h⟩
theorem wipe_sees {σ : L2.St} {ρ : DSt} (se : Sees K H σ ρ S) : ∀ vs : List Nat, Sees K H (L2.wipe σ vs) (wipeD ρ vs) S
  | [] => se
  | v :: vs => by
    unfold L2.wipe wipeD
    exact (wipe_sees se vs).unset v none
theorem lc_imp {own : List Nat} {wi : AI} {g : ATg} {tt : AT} {te : AE} {σ : L2.St} {Q : VK}
    (hw : LE K Wh (fun ρ S P W => wi ρ S (fun ds src S1 => ∀ p, S1 p = none → lcS g tt te src p (wipeD ρ own) (fun S2 => P (.ref p) S2) ds (S1.up p (.lst true []))) W) σ H Q) :
    tLc (LI K Wh wi) (LG K (fun _ _ _ _ => False) own g) (LT K (fun _ _ _ _ => False) tt) (LE K (fun _ _ _ _ => False) te) own σ H Q := by
  obtain ⟨ρ, S, W, P, se, wl, pl, h⟩ := hw
  refine ⟨ρ, S, W, _, se, wl, fun ds src S1 h1 J H1 k1 s1 wk => fun p hp => ?_, h⟩
  have s1n : S1 p = none := s1.free hp
  have h2 := h1 p s1n
  have so2 : StoOk K (upd H1 p (.lst [])) (S1.up p (.lst true [])) := s1.new hp ⟨[], upd_same, rfl⟩
  refine ⟨fun i m H2 => m = ds.length - i ∧ i ≤ ds.length ∧ Kp H1 H2 ∧ ∃ S2, StoOk K H2 S2 ∧ lcS g tt te src p (wipeD ρ own) (fun S2 => P (.ref p) S2) (ds.drop i) S2, ⟨ds.length, by simp, Nat.zero_le _, Kp.new hp, _, so2, by simpa using h2⟩, ?_⟩
  rintro i m H2 ⟨rfl, hi2, k2, S2, so, hl⟩
  by_cases hlt : i < ds.length
  · rw [List.drop_eq_getElem_cons hlt] at hl
    simp only [lcS] at hl
    obtain ⟨hsrc, hl⟩ := hl
    refine .inr ⟨wk.go i H2 S2 hlt k2 so hsrc, fun H3 => Kp H1 H3 ∧ ∃ S3, StoOk K H3 S3 ∧ lcS g tt te src p (wipeD ρ own) (fun S2 => P (.ref p) S2) (ds.drop (i + 1)) S3, fun H3 ⟨k3, S3, so3, hl3⟩ => ⟨ds.length - (i + 1), by omega, rfl, by omega, k3, S3, so3, hl3⟩, fun x H3 y => ?_⟩
    obtain ⟨sm, d, ed, rd⟩ := wk.yld i H2 S2 x H3 hlt k2 so hsrc y
    have ed' : ds[i] = d := by
      rw [List.getElem?_eq_getElem hlt] at ed
      exact Option.some.inj ed
    rw [ed'] at hl
    have k3 : Kp H1 H3 := k2.trans sm.kp
    have se3 : Sees K H3 (L2.wipe σ own) (wipeD ρ own) S2 := wipe_sees (se.at (k1.trans k3) (so.sm sm)) _
    refine ⟨d, _, S2, _, _, rd, se3, fun _ _ _ _ w => w.elim, fun ρ4 S4 h4 σ4 H4 k4 se4 ag4 => ⟨(ag4.wipe fun _ z => z).trans wipe_idem, ?_⟩, hl⟩
    refine ⟨ρ4, S4, _, _, se4, fun _ _ _ _ w => w.elim, fun bb S5 h5 H5 k5 so5 => ?_, h4⟩
    have k15 : Kp H1 H5 := (k3.trans k4).trans k5
    cases bb with
    | true =>
      refine ⟨ρ4, S5, _, _, se4.at k5 so5, fun _ _ _ _ w => w.elim, fun yd S6 h6 yv H6 k6 so6 r6 => ?_, h5⟩
      split at h6
      · rename_i acc ea
        obtain ⟨vs, q1, q2⟩ := so6 p _ ea
        exact ⟨vs, q1, by rw [q2.length]; exact h6.1, (k15.trans k6).trans (Kp.lst q1), _, so6.lst (l := acc) q1 (q2.append (Rps.one r6)), h6.2⟩
      · exact h6.elim
    | false => exact ⟨k15, S5, so5, h5⟩
  · have ei : i = ds.length := by omega
    subst ei
    rw [List.drop_length] at hl
    obtain ⟨hsrc, hl⟩ := hl
    exact .inl ⟨wk.stop H2 S2 k2 so hsrc, pl _ _ hl _ _ (k1.trans k2) so rfl⟩
theorem l_lc {elt : Expr} {ifs : List Expr} {scope : Scope} {own : List (Str × Nat)} {wi : AI} {g : ATg} {tt : AT} {te : AE} (hc : X.calm = true) (hN : X.N.Nodup) (hi : PI X tg iter (LI X.K Wh wi)) (ok : BlkOk X.N X.env.scope scope own)
    (hg : ∀ (s : Shared) (H : Hp) (C : Addr) (cl : List (Str × Addr)) (fp : List Addr), PG (X.blk s H scope (compEnvC scope cl C X.env) fp) tg (LG X.K (fun _ _ _ _ => False) (own.map (·.2)) g))
    (ht : ∀ (s : Shared) (H : Hp) (C : Addr) (cl : List (Str × Addr)) (fp : List Addr), PTs (X.blk s H scope (compEnvC scope cl C X.env) fp) ifs (LT X.K (fun _ _ _ _ => False) tt))
    (he : ∀ (s : Shared) (H : Hp) (C : Addr) (cl : List (Str × Addr)) (fp : List Addr), PE (X.blk s H scope (compEnvC scope cl C X.env) fp) elt (LE X.K (fun _ _ _ _ => False) te))
    (hs : ∀ x, foldedSetIterable iter X.env x = pure x) :
    PE X (.ListComp elt [⟨tg, iter, ifs, 0⟩] scope pos) (LE X.K Wh fun ρ S P W => wi ρ S (fun ds src S1 => ∀ p, S1 p = none → lcS g tt te src p (wipeD ρ (own.map (·.2))) (fun S2 => P (.ref p) S2) ds (S1.up p (.lst true []))) W) :=
  PE.imp (pe_lc hc hN hi ok hg ht he hs) fun _ _ _ hw => lc_imp hw
theorem s_setLc {i : Nat} {y : Str} {py spos : Pos} {elt : Expr} {ifs : List Expr} {scope : Scope} {own : List (Str × Nat)} {wi : AI} {g : ATg} {tt : AT} {te : AE} (hc : X.calm = true) (hN : X.N.Nodup) (hy : X.N[i]? = some y) (hyl : X.env.scope.names.lookup y = some .local)
    (hsw : swapsWith (.ListComp elt [⟨tg, iter, ifs, 0⟩] scope pos) (some (.Name y py)) spos.line X.env = pure true) (hi : PI X tg iter (LI X.K Wh wi)) (ok : BlkOk X.N X.env.scope scope own)
    (hg : ∀ (s : Shared) (H : Hp) (C : Addr) (cl : List (Str × Addr)) (fp : List Addr), PG (X.blk s H scope (compEnvC scope cl C X.env) fp) tg (LG X.K (fun _ _ _ _ => False) (own.map (·.2)) g))
    (ht : ∀ (s : Shared) (H : Hp) (C : Addr) (cl : List (Str × Addr)) (fp : List Addr), PTs (X.blk s H scope (compEnvC scope cl C X.env) fp) ifs (LT X.K (fun _ _ _ _ => False) tt))
    (he : ∀ (s : Shared) (H : Hp) (C : Addr) (cl : List (Str × Addr)) (fp : List Addr), PE (X.blk s H scope (compEnvC scope cl C X.env) fp) elt (LE X.K (fun _ _ _ _ => False) te))
    (hs : ∀ x, foldedSetIterable iter X.env x = pure x) :
    PS X (.Assign [.Name y py] (.ListComp elt [⟨tg, iter, ifs, 0⟩] scope pos) spos) (LS X.K Wh fun N ρ S W => wi ρ S (fun ds src S1 => ∀ p, S1 p = none → lcS g tt te src p (wipeD ρ (own.map (·.2))) (fun S2 => N.nx (ρ.set i (some (.ref p))) S2) ds (S1.up p (.lst true []))) W) :=
  PS.imp (ps_setLc hc hN hy hyl hsw hi ok hg ht he hs) fun D σ H ⟨ρ, S, W, N, se, wl, sl, h⟩ =>
    lc_imp ⟨ρ, S, W, fun d S2 => N.nx (ρ.set i (some d)) S2, se, wl, fun d S2 q v H2 k2 s2 r2 => sl.nx _ _ q _ H2 k2 ((se.at k2 s2).set i r2), h⟩
end
end Sd
namespace Sd
open PySem PySem.Spec PyProof.Rows L2
def isSliceE : Expr → Bool
  | .Slice .. => true
  | _ => false
section
variable {X : Cx} {Wh : WX} {Γ : Gam} {A B C : AE} {As : AA} {a b c e tg iter : Expr} {es rest : List Expr} {pos : Pos} {K : PySem.W.Frag} {H : Hp} {S : Sto} {st : Stmt} {sts sts' : List Stmt} {Az Bz : AS}
theorem s_nil : PSs X [] (LS X.K Wh fun N ρ S _ => N.nx ρ S) := PSs.imp pss_nil fun D σ H ⟨ρ, S, W, N, se, wl, sl, h⟩ => sl.nx _ _ h _ H (Kp.refl H) se
theorem s_cons (h1 : PS X st (LS X.K Wh Az)) (h2 : PSs X sts (LS X.K Wh Bz)) : PSs X (st :: sts) (LS X.K Wh fun N ρ S W => Az { N with nx := fun ρ1 S1 => Bz N ρ1 S1 W } ρ S W) :=
  PSs.imp (pss_cons h1 h2) fun D σ H ⟨ρ, S, W, N, se, wl, sl, h⟩ =>
    ⟨ρ, S, W, { N with nx := fun ρ1 S1 => Bz N ρ1 S1 W }, se, wl, ⟨fun ρ1 S1 q σ1 H1 k1 se1 => ⟨ρ1, S1, W, N, se1, wl.at k1, sl.at k1, q⟩, sl.rt, sl.bk, sl.ct⟩, h⟩
theorem s_asg {G : ATg} {sl : List Nat} (he : PE X e (LE X.K Wh A)) (hg : PG X tg (LG X.K Wh sl G)) (hs : swapsWithSole [tg] e pos.line X.env = pure false) (hw : swappedStores [tg] e X.env = pure none) (h1 : (assignEach [tg] X.env).map (·.2) = [assign tg X.env]) :
    PS X (.Assign [tg] e pos) (LS X.K Wh fun N ρ S W => A ρ S (fun d S1 => G d ρ S1 N.nx W) W) :=
  PS.imp (ps_asg he hg hs hw h1) fun D σ H ⟨ρ, S, W, N, se, wl, sl, h⟩ =>
    ⟨ρ, S, W, _, se, wl, fun d S1 h1 v H1 k1 s1 r1 => ⟨d, ρ, S1, W, N.nx, r1, se.at k1 s1, wl.at k1, fun ρ2 S2 q σ2 H2 k2 se2 _ => sl.nx _ _ q σ2 H2 (k1.trans k2) se2, h1⟩, h⟩
theorem s_set {i : Nat} {x : Str} {pos' : Pos} (hN : X.N.Nodup) (hi : X.N[i]? = some x) (hx : Loc X.env.scope x) (he : PE X e (LE X.K Wh A)) (hs : swapsWith e (some (.Name x pos')) pos.line X.env = pure false) (hf : X.fn x = true ∨ X.env.scope.names.lookup x = some .local) :
    PS X (.Assign [.Name x pos'] e pos) (LS X.K Wh fun N ρ S W => A ρ S (fun d S1 => N.nx (ρ.set i (some d)) S1) W) :=
  PS.imp (ps_set hN hi hx he hs hf) fun D σ H ⟨ρ, S, W, N, se, wl, sl, h⟩ =>
    ⟨ρ, S, W, _, se, wl, fun d S1 h1 v H1 k1 s1 r1 => sl.nx _ _ h1 _ H1 k1 ((se.at k1 s1).set i r1), h⟩
theorem s_par {i j : Nat} {x y : Str} {a b : Expr} {px py pt : Pos} {kt k2 pt2} (hc : X.calm = true) (hN : X.N.Nodup) (hi : X.N[i]? = some x) (hj : X.N[j]? = some y) (hij : i ≠ j)
    (hx : X.env.scope.names.lookup x = some .local) (hy : X.env.scope.names.lookup y = some .local) (ha : PE X a (LE X.K Wh A)) (hb : PE X b (LE X.K Wh B)) (h1 : starEach [a, b] X.env = (false, eval a X.env) :: starEach [b] X.env) (h2 : starEach [b] X.env = (false, eval b X.env) :: starEach [] X.env)
    (hw : swappedStores [.Tuple [.Name x px, .Name y py] kt pt] (.Tuple [a, b] k2 pt2) X.env = pure (some [x, y])) :
    PS X (.Assign [.Tuple [.Name x px, .Name y py] kt pt] (.Tuple [a, b] k2 pt2) pos) (LS X.K Wh fun N ρ S W => A ρ S (fun d S1 => B ρ S1 (fun d' S2 => N.nx ((ρ.set i (some d)).set j (some d')) S2) W) W) :=
  PS.imp (ps_par hc hN hi hj hij hx hy (pa_cons ha (pa_cons hb pa_nil h2) h1) hw rfl) fun D σ H ⟨ρ, S, W, N, se, wl, sl, h⟩ =>
    ⟨ρ, S, W, _, se, wl, fun d S1 h1 v H1 k1 s1 r1 => ⟨ρ, S1, W, _, se.at k1 s1, wl.at k1, fun d2 S2 h2 v2 H2 k2 s2 r2 => ⟨v, v2, rfl, sl.nx _ _ h2 _ H2 (k1.trans k2) (((se.at (k1.trans k2) s2).set i (Rp.kp k2 _ r1)).set j r2)⟩, h1⟩, h⟩
theorem s_par3 {i j l : Nat} {x y z : Str} {a b c : Expr} {px py pz pt : Pos} {kt k2 pt2} {C : AE} (hc : X.calm = true) (hN : X.N.Nodup) (hi : X.N[i]? = some x) (hj : X.N[j]? = some y) (hl : X.N[l]? = some z) (hij : i ≠ j) (hil : i ≠ l) (hjl : j ≠ l)
    (hx : X.env.scope.names.lookup x = some .local) (hy : X.env.scope.names.lookup y = some .local) (hz : X.env.scope.names.lookup z = some .local) (ha : PE X a (LE X.K Wh A)) (hb : PE X b (LE X.K Wh B)) (hcc : PE X c (LE X.K Wh C))
    (h1 : starEach [a, b, c] X.env = (false, eval a X.env) :: starEach [b, c] X.env) (h2 : starEach [b, c] X.env = (false, eval b X.env) :: starEach [c] X.env) (h3 : starEach [c] X.env = (false, eval c X.env) :: starEach [] X.env)
    (hw : swappedStores [.Tuple [.Name x px, .Name y py, .Name z pz] kt pt] (.Tuple [a, b, c] k2 pt2) X.env = pure (some [x, y, z])) :
    PS X (.Assign [.Tuple [.Name x px, .Name y py, .Name z pz] kt pt] (.Tuple [a, b, c] k2 pt2) pos) (LS X.K Wh fun N ρ S W => A ρ S (fun d S1 => B ρ S1 (fun d' S2 => C ρ S2 (fun d'' S3 => N.nx (((ρ.set i (some d)).set j (some d')).set l (some d'')) S3) W) W) W) :=
  PS.imp (ps_par3 hc hN hi hj hl hij hil hjl hx hy hz (pa_cons ha (pa_cons hb (pa_cons hcc pa_nil h3) h2) h1) hw rfl) fun D σ H ⟨ρ, S, W, N, se, wl, sl, h⟩ =>
    ⟨ρ, S, W, _, se, wl, fun d S1 h1 v H1 k1 s1 r1 => ⟨ρ, S1, W, _, se.at k1 s1, wl.at k1, fun d2 S2 h2 v2 H2 k2 s2 r2 => ⟨ρ, S2, W, _, se.at (k1.trans k2) s2, wl.at (k1.trans k2), fun d3 S3 h3 v3 H3 k3 s3 r3 =>
      ⟨v, v2, v3, rfl, sl.nx _ _ h3 _ H3 ((k1.trans k2).trans k3) ((((se.at ((k1.trans k2).trans k3) s3).set i (Rp.kp (k2.trans k3) _ r1)).set j (Rp.kp k3 _ r2)).set l r3)⟩, h2⟩, h1⟩, h⟩
theorem s_ex (he : PE X e (LE X.K Wh A)) (hs : swapsWith e none pos.line X.env = pure false) : PS X (.Expr e pos) (LS X.K Wh fun N ρ S W => A ρ S (fun _ S1 => N.nx ρ S1) W) :=
  PS.imp (ps_expr he hs) fun D σ H ⟨ρ, S, W, N, se, wl, sl, h⟩ => ⟨ρ, S, W, _, se, wl, fun d S1 h1 v H1 k1 s1 r1 => sl.nx _ _ h1 _ H1 k1 (se.at k1 s1), h⟩
theorem s_ret (he : PE X e (LE X.K Wh A)) : PS X (.Return (some e) pos) (LS X.K Wh fun N ρ S W => A ρ S N.rt W) :=
  PS.imp (ps_ret he) fun D σ H ⟨ρ, S, W, N, se, wl, sl, h⟩ => ⟨ρ, S, W, _, se, wl, sl.rt, h⟩
theorem s_retN : PS X (.Return none pos) (LS X.K Wh fun N ρ S W => N.rt .non S) :=
  PS.imp ps_retN fun D σ H ⟨ρ, S, W, N, se, wl, sl, h⟩ => sl.rt _ _ h _ H (Kp.refl H) se.sto rfl
theorem s_if (hc : PT X c (LT X.K Wh (aTru C))) (ha : PSs X sts (LS X.K Wh Az)) (hb : PSs X sts' (LS X.K Wh Bz)) : PS X (.If c sts sts' pos) (LS X.K Wh fun N ρ S W => aTru C ρ S (fun b S1 => if b = true then Az N ρ S1 W else Bz N ρ S1 W) W) :=
  PS.imp (ps_if hc ha hb) fun D σ H ⟨ρ, S, W, N, se, wl, sl, h⟩ => ⟨ρ, S, W, _, se, wl, fun b S1 h1 H1 k1 s1 => by
    cases b with
    | true => exact ⟨ρ, S1, W, N, se.at k1 s1, wl.at k1, sl.at k1, h1⟩
    | false => exact ⟨ρ, S1, W, N, se.at k1 s1, wl.at k1, sl.at k1, h1⟩, h⟩
theorem s_while (hp : PassesOwn (model X.prog X.w) X.A X.env X.xe) (hc : PT X c (LT X.K Wh (aTru C))) (hb : PSs X sts (LS X.K Wh Az)) : PS X (.While c sts [] pos) (LS X.K Wh fun N ρ S W => ∃ J : Nat → DSt → Sto → Prop, (∃ m, J m ρ S) ∧ ∀ m ρ S, J m ρ S → aTru C ρ S (fun c S1 => if c = true then
      Az { nx := fun ρ2 S2 => ∃ m', m' < m ∧ J m' ρ2 S2, rt := N.rt, bk := N.nx, ct := fun ρ2 S2 => ∃ m', m' < m ∧ J m' ρ2 S2 } ρ S1 W else N.nx ρ S1) W) :=
  PS.imp (ps_while hp hc hb) fun D σ H ⟨ρ, S, W, N, se, wl, sl, J, ⟨m0, j0⟩, turn⟩ => by
    refine ⟨fun m σ1 H1 => Kp H H1 ∧ ∃ ρ1 S1, Sees X.K H1 σ1 ρ1 S1 ∧ J m ρ1 S1, ⟨m0, Kp.refl H, ρ, S, se, j0⟩, fun m σ1 H1 ⟨k1, ρ1, S1, se1, j1⟩ => ?_⟩
    refine ⟨ρ1, S1, W, _, se1, wl.at k1, fun bb S2 h2 H2 k2 s2 => ?_, turn m ρ1 S1 j1⟩
    cases bb with
    | true =>
      refine ⟨fun σ3 H3 => ∃ m', m' < m ∧ Kp H H3 ∧ ∃ ρ3 S3, Sees X.K H3 σ3 ρ3 S3 ∧ J m' ρ3 S3, fun σ3 H3 ⟨m', hm, q⟩ => ⟨m', hm, q⟩, ?_⟩
      exact ⟨ρ1, S2, W, { nx := fun ρ2 S2 => ∃ m', m' < m ∧ J m' ρ2 S2, rt := N.rt, bk := N.nx, ct := fun ρ2 S2 => ∃ m', m' < m ∧ J m' ρ2 S2 }, se1.at k2 s2, wl.at (k1.trans k2), ⟨fun ρ3 S3 ⟨m', hm, q⟩ σ3 H3 k3 se3 => ⟨m', hm, (k1.trans k2).trans k3, ρ3, S3, se3, q⟩, sl.rt.at (k1.trans k2), sl.nx.at (k1.trans k2), fun ρ3 S3 ⟨m', hm, q⟩ σ3 H3 k3 se3 => ⟨m', hm, (k1.trans k2).trans k3, ρ3, S3, se3, q⟩⟩, h2⟩
    | false => exact sl.nx _ _ h2 _ H2 (k1.trans k2) (se1.at k2 s2)
theorem s_for {wi : AI} {g : ATg} {sl0 : List Nat} (hp : PassesOwn (model X.prog X.w) X.A X.env X.xe) (hc : X.calm = true) (hi : PI X tg iter (LI X.K Wh wi)) (hg : PG X tg (LG X.K Wh sl0 g)) (hb : PSs X sts (LS X.K Wh Az)) (hs : ∀ x, foldedSetIterable iter X.env x = pure x) :
    PS X (.For tg iter sts [] pos) (LS X.K Wh fun N ρ S W => wi ρ S (fun ds src S1 => forS g Az src N W ds ρ S1) W) :=
  PS.imp (ps_for hp hc hi hg hb hs) fun D σ H ⟨ρ, S, W, N, se, wl, sl, h⟩ => by
    refine ⟨ρ, S, W, _, se, wl, fun ds src S1 h1 J H1 k1 s1 wk => ?_, h⟩
    refine ⟨fun i m σ2 H2 => m = ds.length - i ∧ i ≤ ds.length ∧ Kp H1 H2 ∧ ∃ ρ2 S2, Sees X.K H2 σ2 ρ2 S2 ∧ forS g Az src N W (ds.drop i) ρ2 S2, ⟨ds.length, by simp, Nat.zero_le _, Kp.refl H1, ρ, S1, se.at k1 s1, by simpa using h1⟩, ?_⟩
    rintro i m σ2 H2 ⟨rfl, hi2, k2, ρ2, S2, se2, hl⟩
    by_cases hlt : i < ds.length
    · rw [List.drop_eq_getElem_cons hlt] at hl
      simp only [forS] at hl
      obtain ⟨hsrc, hl⟩ := hl
      refine .inr ⟨wk.go i H2 S2 hlt k2 se2.sto hsrc, fun σ3 H3 => Kp H1 H3 ∧ ∃ ρ3 S3, Sees X.K H3 σ3 ρ3 S3 ∧ forS g Az src N W (ds.drop (i + 1)) ρ3 S3, fun σ3 H3 ⟨k3, q⟩ => ⟨ds.length - (i + 1), by omega, rfl, by omega, k3, q⟩, fun x H3 y => ?_⟩
      obtain ⟨sm, d, ed, rd⟩ := wk.yld i H2 S2 x H3 hlt k2 se2.sto hsrc y
      have ed' : ds[i] = d := by
        rw [List.getElem?_eq_getElem hlt] at ed
        exact Option.some.inj ed
      rw [ed'] at hl
      have k3 : Kp H1 H3 := k2.trans sm.kp
      refine ⟨d, ρ2, S2, W, _, rd, se2.at sm.kp (se2.sto.sm sm), wl.at (k1.trans k3), fun ρ4 S4 h4 σ4 H4 k4 se4 _ => ?_, hl⟩
      have k14 := k3.trans k4
      exact ⟨ρ4, S4, W, { nx := fun ρ2 S2 => forS g Az src N W (ds.drop (i + 1)) ρ2 S2, rt := N.rt, bk := N.nx, ct := fun ρ2 S2 => forS g Az src N W (ds.drop (i + 1)) ρ2 S2 }, se4, wl.at (k1.trans k14), ⟨fun ρ5 S5 q σ5 H5 k5 se5 => ⟨k14.trans k5, ρ5, S5, se5, q⟩, sl.rt.at (k1.trans k14), sl.nx.at (k1.trans k14), fun ρ5 S5 q σ5 H5 k5 se5 => ⟨k14.trans k5, ρ5, S5, se5, q⟩⟩, h4⟩
    · have ei : i = ds.length := by omega
      subst ei
      rw [List.drop_length] at hl
      obtain ⟨hsrc, hl⟩ := hl
      exact .inl ⟨wk.stop H2 S2 k2 se2.sto hsrc, sl.nx _ _ hl _ H2 (k1.trans k2) se2⟩
theorem s_aug {i : Nat} {x : Str} {o : Operator} {pos' : Pos} (ho : o = .Add ∨ o = .Sub) (hN : X.N.Nodup) (hi : X.N[i]? = some x) (hx : Loc X.env.scope x) (he : PE X e (LE X.K Wh A)) (hf : X.fn x = true ∨ X.env.scope.names.lookup x = some .local) :
    PS X (.AugAssign (.Name x pos') o e pos) (LS X.K Wh fun N ρ S W => match lk ρ i with
    | some x => A ρ S (fun y S1 => augS o x y fun d => N.nx (ρ.set i (some d)) S1) W
    | none => False) := by
  have key : ∀ (f : Int → Int → Int), PIp X o (ipI f) → (∀ d y P, augS o d y P → ∃ p q, d = .int p ∧ y = .int q ∧ P (.int (f p q))) → PS X (.AugAssign (.Name x pos') o e pos) (LS X.K Wh fun N ρ S W => match lk ρ i with
    | some x => A ρ S (fun y S1 => augS o x y fun d => N.nx (ρ.set i (some d)) S1) W
    | none => False) := fun f hf2 hk =>
    PS.imp (ps_aug hN hi hx he hf2 hf) fun D σ H ⟨ρ, S, W, N, se, wl, sl, h⟩ => by
      dsimp only at h
      split at h
      · rename_i d ed
        obtain ⟨v, h1, h2⟩ := se.loc i d (lk_some ed)
        refine ⟨v, h1, ρ, S, W, _, se, wl, fun y S1 q u H1 k1 s1 r1 => ?_, h⟩
        obtain ⟨p1, q1, rfl, rfl, z⟩ := hk _ _ _ q
        cases h2; cases r1
        exact ⟨p1, q1, rfl, rfl, sl.nx _ _ z _ H1 k1 ((se.at k1 s1).set i rfl)⟩
      · exact h.elim
  rcases ho with rfl | rfl
  · exact key _ ip_add fun d y P h => by
      cases d <;> cases y <;> first
        | exact (show False from h).elim
        | exact ⟨_, _, rfl, rfl, h⟩
  · exact key _ ip_sub fun d y P h => by
      cases d <;> cases y <;> first
        | exact (show False from h).elim
        | exact ⟨_, _, rfl, rfl, h⟩
theorem get_listS : PGet X (rIxL X.K) := by
  intro pins s σ H x y v u Q I rx ry h
  obtain ⟨p, xs, i, z, rfl, rfl, hq, he, q⟩ := h
  cases rx
  obtain ⟨t, rfl⟩ := ry
  obtain ⟨its, r, pl, hz⟩ := I.list hq
  obtain ⟨j, h1, h2, h3, h4, h5⟩ := atI_get he
  obtain ⟨w, ew, rw'⟩ := r.get h2
  have hl := r.length
  have hn := line63
  have fin : EP X pins σ Q w s := ⟨z, H, I, rw', q⟩
  by_cases h0 : 0 ≤ i
  · have hj : i.toNat = j := by
      rw [seqIndex_of h0 h5] at h1
      exact Option.some.inj h1
    exact wpAny_getItem_list pl.isList h0 (by omega) (by rw [hj]; simpa using ew) fin
  · have hj : (i + (its.toArray.size : Int)).toNat = j := by
      rw [seqIndex_neg (by omega) h4] at h1
      rw [List.size_toArray, ← hl]
      exact Option.some.inj h1
    exact wpAny_getItem_list_neg pl.isList (by omega) (by rw [List.size_toArray] <;> omega) (by omega) (by rw [hj]; simpa using ew) fin
theorem s_augx {i : Expr} {o : Operator} {tpos : Pos} (ho : o = .Add ∨ o = .Sub) (hs : isSliceE i = false) (ha : PE X a (LE X.K Wh A)) (hi : PE X i (LE X.K Wh B)) (he : PE X e (LE X.K Wh C)) :
    PS X (.AugAssign (.Subscript a i tpos) o e pos) (LS X.K Wh fun N ρ S W => A ρ S (fun x S1 => B ρ S1 (fun y S2 => augxG x y S2 fun n => C ρ S2 (fun z S3 => augS o (.int n) z fun d => augxS x y d S3 (N.nx ρ)) W) W) W) := by
  have hst : ∀ ov iv new, augStore i ov iv new = (do holding [new, ov, iv] (setItem ov iv new); release [new, ov, iv] []; pure .next) := by
    intro ov iv new
    cases i <;> first | rfl | (cases hs; done)
  have key : ∀ (f : Int → Int → Int), PIp X o (ipI f) → (∀ d y P, augS o d y P → ∃ p q, d = .int p ∧ y = .int q ∧ P (.int (f p q))) → PS X (.AugAssign (.Subscript a i tpos) o e pos) (LS X.K Wh fun N ρ S W => A ρ S (fun x S1 => B ρ S1 (fun y S2 => augxG x y S2 fun n => C ρ S2 (fun z S3 => augS o (.int n) z fun d => augxS x y d S3 (N.nx ρ)) W) W) W) := fun f hf2 hk =>
    PS.imp (ps_augS ha hi get_listS he hf2 set_list hst) fun D σ H ⟨ρ, S, W, N, se, wl, sl, h⟩ => by
      refine ⟨ρ, S, W, _, se, wl, fun x S1 h1 xv H1 k1 s1 r1 => ⟨ρ, S1, W, _, se.at k1 s1, wl.at k1, fun y S2 h2 yv H2 k2 s2 r2 => ?_, h1⟩, h⟩
      unfold augxG at h2
      split at h2
      · rename_i p k
        cases r1; cases r2
        split at h2
        · rename_i w l el
          split at h2
          · rename_i n en
            obtain ⟨vs, q1, q2⟩ := s2.rd el
            obtain ⟨v, ev, rv⟩ := atI_rps q2 en
            cases rv
            refine ⟨p, vs, k, .int n, rfl, rfl, q1, ev, ρ, S2, W, _, se.at (k1.trans k2) s2, wl.at (k1.trans k2), fun z S3 h3 zv H3 k3 s3 r3 => ?_, h2⟩
            obtain ⟨p1, q3, e1, rfl, hz⟩ := hk _ _ _ h3
            cases e1; cases r3
            refine ⟨n, q3, rfl, rfl, ?_⟩
            unfold augxS at hz
            dsimp only at hz
            split at hz
            · rename_i l3 e3
              split at hz
              · rename_i j ej
                obtain ⟨xs, q4, q5⟩ := s3 p _ e3
                have k123 := (k1.trans k2).trans k3
                exact ⟨p, xs, k, j, rfl, rfl, q4, by rw [q5.length]; exact ej, sl.nx _ _ hz σ _ (k123.trans (Kp.lst q4)) (se.at (k123.trans (Kp.lst q4)) (s3.lst (l := l3) q4 (q5.set (d := .int (f n q3)) rfl j)))⟩
              · exact hz.elim
            · exact hz.elim
          · exact h2.elim
        · exact h2.elim
      · exact h2.elim
  rcases ho with rfl | rfl
  · exact key _ ip_add fun d y P h => by
      cases d <;> cases y <;> first
        | exact (show False from h).elim
        | exact ⟨_, _, rfl, rfl, h⟩
  · exact key _ ip_sub fun d y P h => by
      cases d <;> cases y <;> first
        | exact (show False from h).elim
        | exact ⟨_, _, rfl, rfl, h⟩
theorem s_pass : PS X (.Pass pos) (LS X.K Wh fun N ρ S _ => N.nx ρ S) := PS.imp ps_pass fun D σ H ⟨ρ, S, W, N, se, wl, sl, h⟩ => sl.nx _ _ h _ H (Kp.refl H) se
theorem s_cont : PS X (.Continue pos) (LS X.K Wh fun N ρ S _ => N.ct ρ S) := PS.imp ps_continue fun D σ H ⟨ρ, S, W, N, se, wl, sl, h⟩ => sl.ct _ _ h _ H (Kp.refl H) se
theorem s_brk : PS X (.Break pos) (LS X.K Wh fun N ρ S _ => N.bk ρ S) := PS.imp ps_break fun D σ H ⟨ρ, S, W, N, se, wl, sl, h⟩ => sl.bk _ _ h _ H (Kp.refl H) se
theorem s_rz {k : Nat} {m : Str} {j : Nat} {p p2 pos2 : Pos} (hc : X.calm = true) (tk : Takes X Wh) (kn : Kn X.K k) (q : PySem.W.excIn X.K (gaK X.K (clsN k)) [.type "ValueError", .type "Exception", .type "BaseException", .type "object"] "ValueError.__new__" = true) (gC : X.mg (clsN k) = some (.ref (gaK X.K (clsN k)))) (kC : PySem.W.keepIn X.K (.ref (gaK X.K (clsN k))) = true)
    (h1 : PySem.W.subIn X.K (.ref (gaK X.K (clsN k))) (.type "BaseException") = some true) (h2 : PySem.W.typeIn X.K (.ref (gaK X.K (clsN k))) = some (.type "type")) (hg : Gl X (clsN k)) (hdb : (clsN k == ("__debug__" : Str)) = false) :
    PS X (.Raise (some (.Call (.Name (clsN k) p) [.Constant (.str m) j p2] [] pos)) none pos2) (LS X.K Wh fun _ ρ S W => W k none ρ S) :=
  PS.imp (ps_raise hc tk (pmk_own PySem.F.excBase_ValueError q gC kC (raises_own h1 h2) hg hdb)) fun D σ H ⟨ρ, S, W, N, se, wl, sl, h⟩ => wl k none ρ S h none σ H (Kp.refl H) se ⟨kn, rfl⟩
def spI (C : Addr) (f : Str) : Sp := fun vs H Q _ => ∃ (a : Addr) (y : V), vs = [.ref a, y] ∧ H a = some (exo a C none) ∧ ∀ dx, H dx = none → dx ≠ a → Q .non (upd (upd H dx (exd dx [(f, y)])) a (exo a C (some dx)))
theorem exV_ok {P : Program} {w : World} {H : Hp} {h : Heap} {a : Addr} {cls : Value} {d : Option Addr} {oe : Obj} {vs : Array Value} (e : h.get? a = some oe) (z : Zc cls d oe) (dd : oe.data = .fields vs) : ObjOk P w H h a (ExV cls d a) :=
  ⟨⟨oe, vs, e, z, dd⟩, ⟨oe, e⟩, fun _ _ ⟨o, v, q, r⟩ k => ⟨o, v, k o q, r⟩⟩
theorem PLe.newE {K : PySem.W.Frag} {H : Hp} {S : Sto} {P : PD} {Q : VK} {p : Addr} {k : Nat} (h : PLe K H P Q) (s : StoOk K H S) (kn : Kn K k) (hp : H p = none) (q : ∀ p, S p = none → P (.ref p) (S.up p (.exc k none))) : Q (.ref p) (upd H p (ExV (.ref (gaK K (clsN k))) none p)) :=
  h _ _ (q p (s.free hp)) _ _ (Kp.new hp) (s.new hp ⟨none, upd_same, kn, rfl⟩) rfl
theorem pe_excV {C : Addr} {bmB : List Value} {B newId initId : String} {x : Str} {e : Expr} {ta : TE} {p pos : Pos} (F : ExcBaseFacts B newId initId bmB) (q : PySem.W.excIn X.K C bmB newId = true) (gC : X.mg x = some (.ref C)) (kC : PySem.W.keepIn X.K (.ref C) = true) (hg : Gl X x)
    (he : PE X e ta) (hs : starEach [e] X.env = (false, eval e X.env) :: starEach [] X.env) (hdb : (x == ("__debug__" : Str)) = false) :
    PE X (.Call (.Name x p) [e] [] pos) (fun σ H Q => ta σ H fun _ H1 => ∀ a, H1 a = none → Q (.ref a) (upd H1 a (ExV (.ref C) none a))) := by
  refine ⟨fun pins s σ H Q I h => ?_⟩
  refine wpAny_Call_Name_kw (ld_glob I hg gC ?_ hdb)
  refine PySem.W.callWith_K (h₀ := X.base) I.ok.mod.kin kC ?_ hs (by rfl)
  rw [hs]
  show wpAny _ _ (spliced ((false, eval e X.env) :: backTo pos (starEach [] X.env))) _ _ s
  refine Calls.spliced_cons (thn (he.run pins s σ H _ I h) fun u s1 ⟨v, H1, I1, r1, q1⟩ => ?_)
  refine Calls.spliced_nil ⟨I1.kIn, ?_⟩
  show wpAny _ _ (call (.ref C) [u]) _ _ _
  obtain ⟨bm, N, nm, qn, bs, hdct, sn, sub, ab, col, dd, k0, k1, k2, k3, k5, mN, hC, hN, hni, T⟩ := exc_obj I1.kIn q
  refine wpAny_call_exc_subT F T hC hN hni (fun h' a hm => ?_) (by show 1 ≤ sizeLine; rw [sizeLine_eq]; omega)
  have hn : H1 a = none := I1.hok.gone hm.new
  obtain ⟨t, ht, _, _⟩ := hm.there
  exact ⟨.ref a, upd H1 a (ExV (.ref C) none a), I1.laidN hm.keeps hm.new hn (exV_ok ht ⟨rfl, rfl⟩ rfl), rfl, q1 a hn⟩
theorem l_mke {k : Nat} {e : Expr} {A : AE} {p pos : Pos} (kn : Kn X.K k) (q : PySem.W.excIn X.K (gaK X.K (clsN k)) [.type "ValueError", .type "Exception", .type "BaseException", .type "object"] "ValueError.__new__" = true) (gC : X.mg (clsN k) = some (.ref (gaK X.K (clsN k)))) (kC : PySem.W.keepIn X.K (.ref (gaK X.K (clsN k))) = true)
    (hg : Gl X (clsN k)) (hdb : (clsN k == ("__debug__" : Str)) = false) (he : PE X e (LE X.K Wh A)) (hs : starEach [e] X.env = (false, eval e X.env) :: starEach [] X.env) :
    PE X (.Call (.Name (clsN k) p) [e] [] pos) (LE X.K Wh fun ρ S P W => A ρ S (fun d S1 => ∀ p, S1 p = none → P (.ref p) (S1.up p (.exc k none))) W) :=
  PE.imp (pe_excV PySem.F.excBase_ValueError q gC kC hg he hs hdb) fun σ H Q ⟨ρ, S, W, P, se, wl, pl, h⟩ => ⟨ρ, S, W, _, se, wl, fun d S1 h1 v H1 k1 s1 r1 a ha => (PLe.at pl k1).newE s1 kn ha h1, h⟩
def tMkV (C : Addr) (sp : Sp) (dvs : List V) (ta : TA) : TE := fun σ H Q => ta σ H fun vs H1 => vs.length ≤ 1000 ∧ ∀ a, H1 a = none → sp (.ref a :: (vs ++ dvs)) (upd H1 a (exo a C none))
  (fun v H2 => v = .non ∧ ∃ (d : Addr) (fs : List (Str × V)), H2 a = some (exo a C (some d)) ∧ H2 d = some (exd d fs) ∧ H1 d = none ∧ Q (.ref a) (upd (upd (del H2 a) d (.xd fs)) a (ExV (.ref C) (some d) a))) (fun _ _ _ => False)
theorem pe_oexV {CX : CXT} {x : Str} {C fI : Addr} {k : Nat} {fd : FuncData} {ps : List Str} {sp : Sp} {ds : List Value} {dvs : List V} {e : Expr} {es : List Expr} {ta : TA} {p pos : Pos} (T : OexC X.K C) (iC : PySem.W.findIn X.K (.ref C) "__init__" = some (some (.ref fI))) (tI : PySem.W.typeIn X.K (.ref fI) = some (.type "function"))
    (F1 : FnOk X.prog X.w X.K X.mg X.base CX k fI fd ps sp) (hr : Room (k + 1) X.A) (hb : Binds X.K fd ps ds) (hd : Vals dvs ds) (hx : Passes CX X (fun _ _ _ => False)) (hg : Gl X x) (hm : X.mg x = some (.ref C)) (ha : PA X (e :: es) ta)
    (hdb : (x == ("__debug__" : Str)) = false) (he : starEach (e :: es) X.env = (false, eval e X.env) :: starEach es X.env) (hpl : (backTo pos (starEach es X.env)).any (·.1) = false) :
    PE X (.Call (.Name x p) (e :: es) [] pos) (tMkV C sp dvs ta) := by
  refine ⟨fun pins s σ H Q I h => ?_⟩
  obtain ⟨nm, q, N, bs, bm, sn, sub, ab, col, dd, k0, k1, k2, k3, k5, hC, hbm⟩ := T.cls
  refine wpAny_Call_Name_kw (ld_glob I hg hm ?_ hdb)
  refine PySem.W.callWith_K (h₀ := X.base) I.ok.mod.kin T.kC (thn (ha.run pos pins _ σ H _ I h) fun us s1 ⟨vs, H1, I1, r1, hz, q1⟩ => ⟨I1.kIn, ?_⟩) he hpl
  show wpAny _ _ (call (.ref C) us) _ _ _
  obtain ⟨hp, g, dr, tk, os⟩ := s1
  have hsz : hp.objs.size ≤ hp.objs.size + 1 := Nat.le_succ _
  have hn : H1 (hp.objs.size + 1) = none := I1.hok.fresh hsz
  have hq := q1 (hp.objs.size + 1) hn
  have kk : ∀ b o, hp.get? b = some o → ((hp.push (PySem.W.kdv_tup us)).push (PySem.HandSPX.excO C hp.objs.size)).get? b = some o := fun b o e => Heap.get?_push_of_some _ (Heap.get?_push_of_some _ e)
  have hget : ((hp.push (PySem.W.kdv_tup us)).push (PySem.HandSPX.excO C hp.objs.size)).get? (hp.objs.size + 1) = some (PySem.HandSPX.excO C hp.objs.size) := by heap_get
  have I2 : Inv X pins σ (upd H1 (hp.objs.size + 1) (exo (hp.objs.size + 1) C none)) ⟨(hp.push (PySem.W.kdv_tup us)).push (PySem.HandSPX.excO C hp.objs.size), g, dr, tk, os⟩ :=
    I1.laid (t' := tk) (a := hp.objs.size + 1) (o := exo (hp.objs.size + 1) C none) (h' := (hp.push (PySem.W.kdv_tup us)).push (PySem.HandSPX.excO C hp.objs.size)) kk hsz (exo_ok hget)
  have r2 : Vals (V.ref (hp.objs.size + 1) :: (vs ++ dvs)) (Value.ref (hp.objs.size + 1) :: (us ++ ds)) := .cons rfl (r1.append hd)
  have hl : (Value.ref (hp.objs.size + 1) :: us ++ ds).length = ps.length := by
    have e := r2.length
    rw [F1.len _ _ _ _ hq] at e
    exact e.symm
  have hus : us.length ≤ sizeLine := by
    rw [← Paired.length r1, sizeLine_eq]
    omega
  refine wpAny_call (PySem.HandSPX.call_own PySem.F.excBase_ValueError (fun Y => PySem.HandSPX.refsVE_contains Y bm hbm) (I1.kIn _ _ hC) (PySem.W.looks_findIn I1.kIn iC) (fun self => PySem.W.bind_fn I1.kIn self tI) hus
    (codeAny_mono (F1.run _ X.stack _ _ ⟨Value.ref (hp.objs.size + 1) :: us, []⟩ (Value.ref (hp.objs.size + 1) :: (us ++ ds)) _ _ (fun _ _ _ => False) (hr.make C us []) (I2.env0.make C us []) (hb _ (Value.ref (hp.objs.size + 1) :: us) I2.kIn hl) r2 hq) fun r s' hq' => ?_))
  cases r with
  | error er => exact hx pins σ _ _ er s' I2 hq'
  | ok fl =>
    cases fl with
    | ret u =>
      obtain ⟨v, H2, os2, bare2, un2, hok2, rv, ev, d, fs, ea, ed, hd1, q2⟩ := hq'
      subst ev
      obtain ⟨h2, g2, d2, t2, os'⟩ := s'
      obtain ⟨t0, G, J, kG, ge, hoe, na⟩ := mk_end0 (d2 := d2) (t2 := t2) I1 hsz kk un2 hok2 os2 bare2 ea ed hd1
      exact ⟨rv, .ref (hp.objs.size + 1), _, J.laidN (h' := h2) (t' := t2) kG ge na (exV_ok hoe ⟨rfl, rfl⟩ rfl), rfl, q2⟩
    | next => exact False.elim hq'
    | brk => exact False.elim hq'
    | cont => exact False.elim hq'
theorem l_mkf {k : Nat} {fI : Addr} {fd : FuncData} {ps : List Str} {e : Expr} {A : AE} {p pos : Pos} (tk : Takes X Wh) (kn : Kn X.K k) (T : OexC X.K (gaK X.K (clsN k))) (iC : PySem.W.findIn X.K (.ref (gaK X.K (clsN k))) "__init__" = some (some (.ref fI))) (tI : PySem.W.typeIn X.K (.ref fI) = some (.type "function"))
    (F1 : FnOk X.prog X.w X.K X.mg X.base (L2.CX X.prog X.w) 1 fI fd ps (spI (gaK X.K (clsN k)) (fldN k))) (hr : Room 2 X.A) (hb : Binds X.K fd ps []) (hg : Gl X (clsN k)) (gC : X.mg (clsN k) = some (.ref (gaK X.K (clsN k)))) (ha : PA X [e] (LA X.K Wh fun ρ S P W => A ρ S (fun d S1 => P [d] S1) W)) (hdb : (clsN k == ("__debug__" : Str)) = false) (he : starEach [e] X.env = (false, eval e X.env) :: starEach [] X.env) :
    PE X (.Call (.Name (clsN k) p) [e] [] pos) (LE X.K Wh fun ρ S P W => A ρ S (fun d S1 => ∀ p, S1 p = none → P (.ref p) (S1.up p (.exc k (some d)))) W) := by
  have hx : Passes (L2.CX X.prog X.w) X (fun _ _ _ => False) := fun pins σ H s e s' I c => tk e s' (XE.of_call I (fun _ _ _ h => (h : False).elim) c)
  refine PE.imp (pe_oexV T iC tI F1 hr hb .nil hx hg gC ha hdb he rfl) fun σ H Q ⟨ρ, S, W, P, se, wl, pl, h⟩ => ?_
  refine ⟨ρ, S, W, fun ds S1 => ∃ d, ds = [d] ∧ ∀ p, S1 p = none → P (.ref p) (S1.up p (.exc k (some d))), se, wl, fun ds S1 h1 vs H1 k1 s1 r1 => ?_, ?_⟩
  · obtain ⟨d, rfl, hw⟩ := h1
    obtain ⟨y, rfl, ry⟩ := r1.one'
    refine ⟨by simp, fun a ha' => ⟨a, y, rfl, upd_same, fun dx hdx ne => ⟨rfl, dx, [(fldN k, y)], upd_same, ?_, ?_, ?_⟩⟩⟩
    · rw [upd_ne ne, upd_same]
    · rw [upd_ne ne] at hdx; exact hdx
    · have hdx' : H1 dx = none := by rw [upd_ne ne] at hdx; exact hdx
      have sm : Sm H1 (upd (del (upd (upd (upd H1 a (exo a (gaK X.K (clsN k)) none)) dx (exd dx [(fldN k, y)])) a (exo a (gaK X.K (clsN k)) (some dx))) a) dx (.xd [(fldN k, y)])) := fun b o hb' => by
        have b1 : b ≠ a := ne_of_none hb' ha'
        have b2 : b ≠ dx := ne_of_none hb' hdx'
        rw [upd_ne b2, del_ne b1, upd_ne b1, upd_ne b2, upd_ne b1]
        exact hb'
      have na : upd (del (upd (upd (upd H1 a (exo a (gaK X.K (clsN k)) none)) dx (exd dx [(fldN k, y)])) a (exo a (gaK X.K (clsN k)) (some dx))) a) dx (.xd [(fldN k, y)]) a = none := by
        rw [upd_ne (Ne.symm ne), del_same]
      have s2 := s1.sm sm
      have kp2 := k1.trans sm.kp
      refine pl _ _ (hw a (s1.free ha')) _ _ (kp2.trans (Kp.new na)) (s2.new na ⟨some dx, upd_same, kn, dx, y, rfl, ?_, Rp.kp (sm.kp.trans (Kp.new na)) d ry⟩) rfl
      rw [upd_ne ne, upd_same]
  · have e2 : (fun (x : Sd.D) (S1 : Sto) => ∃ d, [x] = [d] ∧ ∀ p, S1 p = none → P (.ref p) (S1.up p (.exc k (some d)))) = fun d S1 => ∀ p, S1 p = none → P (.ref p) (S1.up p (.exc k (some d))) := by
      funext x S1
      exact propext ⟨fun ⟨d, e, h⟩ => by cases e; exact h, fun h => ⟨x, rfl, h⟩⟩
    show A ρ S (fun (x : Sd.D) (S1 : Sto) => ∃ d, [x] = [d] ∧ ∀ p, S1 p = none → P (.ref p) (S1.up p (.exc k (some d)))) W
    rw [e2]
    exact h
theorem s_rzf {k : Nat} {fI : Addr} {fd : FuncData} {ps : List Str} {e : Expr} {As : AA} {p pos2 : Pos} (hc : X.calm = true) (tk : Takes X Wh) (kn : Kn X.K k) (T : OexC X.K (gaK X.K (clsN k))) (iC : PySem.W.findIn X.K (.ref (gaK X.K (clsN k))) "__init__" = some (some (.ref fI))) (tI : PySem.W.typeIn X.K (.ref fI) = some (.type "function"))
    (F1 : FnOk X.prog X.w X.K X.mg X.base (L2.CX X.prog X.w) 1 fI fd ps (spI (gaK X.K (clsN k)) (fldN k))) (hr : Room 2 X.A) (hb : Binds X.K fd ps []) (hg : Gl X (clsN k)) (gC : X.mg (clsN k) = some (.ref (gaK X.K (clsN k)))) (ha : PA X [e] (LA X.K Wh As)) (hdb : (clsN k == ("__debug__" : Str)) = false) (he : starEach [e] X.env = (false, eval e X.env) :: starEach [] X.env) :
    PS X (.Raise (some (.Call (.Name (clsN k) p) [e] [] pos)) none pos2) (LS X.K Wh fun _ ρ S W => As ρ S (fun ds S1 => ∃ d, ds = [d] ∧ W k (some d) ρ S1) W) := by
  have hx : Passes (L2.CX X.prog X.w) X (fun _ _ _ => False) := fun pins σ H s e s' I c => tk e s' (XE.of_call I (fun _ _ _ h => (h : False).elim) c)
  refine PS.imp (ps_raise hc tk (pmk_oex T iC tI F1 hr hb .nil hx hg gC ha hdb he rfl)) fun D σ H ⟨ρ, S, W, N, se, wl, sl, h⟩ => ?_
  refine ⟨ρ, S, W, _, se, wl, fun ds S1 h1 vs H1 k1 s1 r1 => ?_, h⟩
  obtain ⟨d, rfl, hw⟩ := h1
  obtain ⟨y, rfl, ry⟩ := r1.one'
  refine ⟨by simp, fun a ha' => ⟨a, y, rfl, upd_same, fun dx hdx ne => ⟨rfl, dx, [(fldN k, y)], upd_same, ?_, ?_, ?_⟩⟩⟩
  · rw [upd_ne ne, upd_same]
  · rw [upd_ne ne] at hdx; exact hdx
  · have hdx' : H1 dx = none := by rw [upd_ne ne] at hdx; exact hdx
    have sm : Sm H1 (upd (del (upd (upd (upd H1 a (exo a (gaK X.K (clsN k)) none)) dx (exd dx [(fldN k, y)])) a (exo a (gaK X.K (clsN k)) (some dx))) a) dx (.xd [(fldN k, y)])) := fun b o hb' => by
      have b1 : b ≠ a := ne_of_none hb' ha'
      have b2 : b ≠ dx := ne_of_none hb' hdx'
      rw [upd_ne b2, del_ne b1, upd_ne b1, upd_ne b2, upd_ne b1]
      exact hb'
    exact wl k (some d) ρ S1 hw (some dx) σ _ (k1.trans sm.kp) (se.at (k1.trans sm.kp) (s1.sm sm)) ⟨kn, dx, y, rfl, upd_same, Rp.kp sm.kp d ry⟩
end
section
variable {X : Cx} {Wh : WX} {Γ : Gam} {A B C : AE} {As : AA} {a b c e tg : Expr} {es rest : List Expr} {pos apos : Pos} {K : PySem.W.Frag} {H : Hp} {S : Sto}
theorem rv1_bounds (n : Nat) : sliceBounds none (some 0) (some (-1)) n = ((n : Int) - 1, max (-1) (min 0 ((n : Int) - 1)), -1) := by
  simp [sliceBounds]
theorem rv1_range (n : Nat) : sliceRange ((n : Int) - 1) (max (-1) (min 0 ((n : Int) - 1))) (-1) = ((List.range (n - 1)).map (· + 1)).reverse := by
  have h1 : ¬ ((-1 : Int) > 0) := by decide
  cases n with
  | zero => rfl
  | succ m =>
    unfold sliceRange
    have e0 : max (-1) (min 0 (((m + 1 : Nat) : Int) - 1)) = 0 := by omega
    rw [e0]
    simp only [h1, if_false]
    have e : (if (((m + 1 : Nat) : Int) - 1) > 0 then (((m + 1 : Nat) : Int) - 1 - 0 - -1 - 1) / (- -1) else 0) = (m : Int) := by
      by_cases h : (((m + 1 : Nat) : Int) - 1) > 0
      · rw [if_pos h, show (- -1 : Int) = 1 by decide, Int.ediv_one]; omega
      · rw [if_neg h]; omega
    rw [e, Int.toNat_natCast, Nat.add_sub_cancel]
    apply List.ext_getElem
    · simp
    · intro i h1 h2
      rw [List.getElem_map, List.getElem_reverse]
      simp at h1 ⊢
      omega
theorem rv1_all {α : Type} : ∀ (xs : List α), ((List.range (xs.length - 1)).map (· + 1)).filterMap (xs[·]?) = xs.drop 1
  | [] => rfl
  | x :: r => by
    rw [List.filterMap_map]
    show (List.range r.length).filterMap (fun i => (x :: r)[i + 1]?) = r
    have e : (List.range r.length).filterMap (fun i => (x :: r)[i + 1]?) = (List.range r.toArray.size).filterMap (r.toArray[·]?) := by
      rw [List.size_toArray]
      congr 1
      funext i
      simp
    rw [e, PySem.W.krv_all]
theorem rv1_pick (its : List Value) : slicePick its.toArray none (some 0) (some (-1)) = ((its.drop 1).reverse).toArray := by
  unfold slicePick
  rw [rv1_bounds]
  show ((sliceRange ((its.toArray.size : Int) - 1) (max (-1) (min 0 ((its.toArray.size : Int) - 1))) (-1)).filterMap (its.toArray[·]?)).toArray = _
  rw [rv1_range, List.filterMap_reverse]
  congr 2
  rw [List.size_toArray, ← rv1_all its]
  congr 1
  funext i
  simp
theorem pe_rv1 {te : TE} {hx sx : Expr} {p3 : Pos} (he : PE X e te) (hhi : PO X (some hx) (tPt (some 0))) (hst : PO X (some sx) (tPt (some (-1)))) : PE X (.Subscript e (.Slice none (some hx) (some sx) p3) pos)
    (fun σ H Q => te σ H fun x H1 => ∃ a xs, x = .ref a ∧ SqL X.K H1 a xs ∧ ∀ p, H1 p = none → Q (.ref p) (upd H1 p (.lst (xs.drop 1).reverse))) := by
  refine ⟨fun pins s σ H Q I h => ?_⟩
  refine Subscript_ (thn (he.run pins s σ H _ I h) fun v s1 ⟨x, H1, I1, r1, q1⟩ => ?_)
  obtain ⟨a, xs, ex, hx, q⟩ := q1
  subst ex
  cases r1
  refine wpAny_Slice (thn (po_none.run pins s1 σ H1 (fun o H2 => o = none ∧ H2 = H1) I1 ⟨rfl, rfl⟩) fun vl s2 ⟨l, H2, I2, pl, el, e2⟩ => ?_)
  subst el e2
  refine thn (hhi.run pins s2 σ H2 (fun o H3 => o = some 0 ∧ H3 = H2) I2 ⟨rfl, rfl⟩) fun vu s3 ⟨u, H3, I3, pu, eu, e3⟩ => ?_
  subst eu e3
  refine thn (hst.run pins s3 σ H3 (fun o H4 => o = some (-1) ∧ H4 = H3) I3 ⟨rfl, rfl⟩) fun vs s4 ⟨o, H4, I4, ps, eo, e4⟩ => ?_
  subst eo e4
  have I5 : Inv X pins σ H4 { s4 with heap := s4.heap.push { cls := .type "slice", data := .fields #[vl, vu, vs] } } := I4.kept (t' := s4.toks) fun b ob q => Heap.get?_push_of_some _ q
  show wpAny (model X.prog X.w) X.A (subscriptTail e (.Slice none (some _) (some sx) p3) (.ref a) (.ref s4.heap.objs.size)) (EP X pins σ Q) X.xe { s4 with heap := s4.heap.push { cls := .type "slice", data := .fields #[vl, vu, vs] } }
  obtain ⟨its, r, ht, hz⟩ := I5.list hx
  have hlen := r.length
  refine tail_any (ops := [.ref a, .ref s4.heap.objs.size]) ht.isList.typeIs (PySem.slot_list_getitem.lookup) ?_ (by with_unfolding_all rfl)
  refine wpAny_getItem_list_slice ht.isList (Heap.IsSliceOf.new _ vl vu vs) pl pu ps (by decide) ?_ (by rw [List.size_toArray]; omega)
  rw [rv1_pick]
  refine ⟨.ref _, _, I5.laid (t' := s4.toks) (o := .lst (xs.drop 1).reverse) (fun b ob q => Heap.get?_push_of_some _ q) (Nat.le_refl _) ?_, rfl, q _ (I5.hok.fresh (Nat.le_refl _))⟩
  exact ⟨by rw [List.length_reverse, List.length_drop]; omega, _, 0, (r.drop 1).reverse, Heap.get?_push_size _ rfl⟩
theorem l_rv1 {hx sx : Expr} {p3 : Pos} (ha : PE X a (LE X.K Wh A)) (hhi : PO X (some hx) (tPt (some 0))) (hst : PO X (some sx) (tPt (some (-1)))) : PE X (.Subscript a (.Slice none (some hx) (some sx) p3) pos) (LE X.K Wh fun ρ S P W => A ρ S (fun x S1 => rv1S x S1 P) W) :=
  PE.imp (pe_rv1 ha hhi hst) fun σ H Q ⟨ρ, S, W, P, se, wl, pl, h⟩ => by
    refine ⟨ρ, S, W, _, se, wl, fun x S1 h1 v H1 k1 s1 r1 => ?_, h⟩
    cases x <;> (try exact (show False from h1).elim)
    rename_i p
    cases r1
    have h' : (match S1 p with
      | some (.lst _ l) => ∀ p, S1 p = none → P (.ref p) (S1.up p (.lst true (l.drop 1).reverse))
      | _ => False) := h1
    split at h'
    · rename_i w l e
      obtain ⟨vs, q1, r1⟩ := s1.rd e
      exact ⟨p, vs, rfl, q1, fun q hq => (pl.at k1).newL s1 (r1.drop 1).rev' hq h'⟩
    · exact h'.elim
theorem rps_rg {K : PySem.W.Frag} {H : Hp} (n : Nat) : ∀ (is : List Nat), Rps K H (is.map fun (i : Nat) => D.int (0 + (i : Int))) (is.map fun (i : Nat) => V.int (0 + (i : Int)))
  | [] => rfl
  | i :: r => ⟨_, _, rfl, rfl, rps_rg n r⟩
theorem l_lrg {p p2 pos2 : Pos} (hc : X.calm = true) (hg : Gl X "list") (hm : X.mg "list" = none) (hg2 : Gl X "range") (hm2 : X.mg "range" = none) (ha : PE X a (LE X.K Wh A)) (hs : starEach [a] X.env = (false, eval a X.env) :: starEach [] X.env)
    (hs2 : starEach [.Call (.Name "range" p2) [a] [] pos2] X.env = (false, eval (.Call (.Name "range" p2) [a] [] pos2) X.env) :: starEach [] X.env) :
    PE X (.Call (.Name "list" p) [.Call (.Name "range" p2) [a] [] pos2] [] pos) (LE X.K Wh fun ρ S P W => A ρ S (fun d S1 => match d with
      | .int j => (-(2 ^ 62) ≤ j ∧ j ≤ 2 ^ 20) ∧ ∀ p, S1 p = none → P (.ref p) (S1.up p (.lst true (rngItems 0 j.toNat)))
      | _ => False) W) :=
  PE.imp (pe_listRg hc hg hm (prg_1 hg2 hm2 ha hs) hs2) fun σ H Q ⟨ρ, S, W, P, se, wl, pl, h⟩ => by
    refine ⟨ρ, S, W, _, se, wl, fun x S1 h1 v H1 k1 s1 r1 => ?_, h⟩
    cases x <;> (try exact (show False from h1).elim)
    rename_i j
    cases r1
    obtain ⟨⟨h2, h3⟩, h4⟩ := (show (-(2 ^ 62) ≤ j ∧ j ≤ 2 ^ 20) ∧ ∀ p, S1 p = none → P (.ref p) (S1.up p (.lst true (rngItems 0 j.toNat))) from h1)
    refine ⟨j, rfl, ⟨by decide, by decide, h2, by omega, by omega⟩, fun q hq => (pl.at k1).newL s1 ?_ hq h4⟩
    unfold rngItems rgV
    rw [Int.sub_zero]
    exact rps_rg 0 _
theorem rngC_len {lo c : Int} {n : Nat} : (rngC lo c n).length = n := by simp [rngC]
theorem rngC_get {lo c : Int} {n i : Nat} (h : i < n) : (rngC lo c n)[i]? = some (D.int (lo + (i : Nat) * c)) := by
  unfold rngC
  rw [List.getElem?_map, List.getElem?_range h]
  rfl
theorem wk_rngC {lo c : Int} {n : Nat} {H1 : Hp} : Wk K (Itc lo c n) (rngC lo c n) .free H1 where
  go := fun i H S hi _ _ _ => by rw [rngC_len] at hi; exact hi
  yld := fun i H S x H' hi _ _ _ y => by
    rw [rngC_len] at hi
    obtain ⟨rfl, rfl⟩ := y
    exact ⟨fun _ _ z => z, _, rngC_get hi, rfl⟩
  stop := fun H S _ _ _ => by rw [rngC_len]; exact Nat.le_refl _
theorem i_rng3 {p : Pos} (hg : Gl X "range") (hm : X.mg "range" = none) (ha : PE X a (LE X.K Wh A)) (hb : PE X b (LE X.K Wh B)) (hc : PE X c (LE X.K Wh C)) (hs3 : starEach [c] X.env = [(false, eval c X.env)]) (hs2 : starEach [b, c] X.env = (false, eval b X.env) :: starEach [c] X.env) (hs : starEach [a, b, c] X.env = (false, eval a X.env) :: starEach [b, c] X.env) :
    PI X tg (.Call (.Name "range" p) [a, b, c] [] pos) (LI X.K Wh fun ρ S P W => A ρ S (fun d S1 => B ρ S1 (fun e S2 => C ρ S2 (fun f S3 => match d, e, f with
      | .int i, .int j, .int k => ∃ n, RgC i j k n ∧ P (rngC i k n) .free S3
      | _, _, _ => False) W) W) W) :=
  PI.imp (pi_range3 hg hm (pa_cons ha (pa_cons hb (pa_cons hc pa_nil hs3) hs2) hs) hs (by rw [hs2, hs3]; rfl)) fun σ H R ⟨ρ, S, W, P, se, wl, il, h⟩ => ⟨ρ, S, W, _, se, wl, fun d S1 h1 v H1 k1 s1 r1 => ⟨ρ, S1, W, _, se.at k1 s1, wl.at k1, fun d2 S2 h2 v2 H2 k2 s2 r2 => ⟨ρ, S2, W, _, se.at (k1.trans k2) s2, wl.at (k1.trans k2), fun d3 S3 h3 v3 H3 k3 s3 r3 => by
    cases d <;> cases d2 <;> cases d3 <;> (try exact (show False from h3).elim)
    rename_i i j k
    cases r1; cases r2; cases r3
    obtain ⟨n, hn, h4⟩ := (show ∃ n, RgC i j k n ∧ P (rngC i k n) .free S3 from h3)
    exact ⟨i, j, k, n, rfl, hn, il _ _ _ h4 _ H3 ((k1.trans k2).trans k3) s3 wk_rngC⟩, h2⟩, h1⟩, h⟩
theorem zip3_get {α β γ : Type} {l : List α} {m : List β} {n : List γ} {i : Nat} {a : α} {b : β} {c : γ} (h1 : l[i]? = some a) (h2 : m[i]? = some b) (h3 : n[i]? = some c) : (l.zip (m.zip n))[i]? = some (a, b, c) :=
  List.getElem?_zip_eq_some.mpr ⟨h1, List.getElem?_zip_eq_some.mpr ⟨h2, h3⟩⟩
theorem zipD3_len {l m n : List D} : (zipD3 l m n).length = min l.length (min m.length n.length) := by
  unfold zipD3
  rw [List.length_map, List.length_zip, List.length_zip]
def ItZ3 (K : PySem.W.Frag) (a b c : Addr) : It where
  go := fun i H => ∃ (xs ys zs : List V) (x y z : V), (SqL K H a xs ∧ SqL K H b ys ∧ SqL K H c zs) ∧ xs[i]? = some x ∧ ys[i]? = some y ∧ zs[i]? = some z
  yld := fun i H v H' => ∃ T x y z, (v = .ref T ∧ H T = none ∧ H' = upd H T (.tup [x, y, z])) ∧ (∀ xs, SqL K H a xs → xs[i]? = some x) ∧ (∀ ys, SqL K H b ys → ys[i]? = some y) ∧ ∀ zs, SqL K H c zs → zs[i]? = some z
  stop := fun i H => ∃ xs ys zs : List V, (SqL K H a xs ∧ SqL K H b ys ∧ SqL K H c zs) ∧ (i ≤ xs.length ∧ i ≤ ys.length ∧ i ≤ zs.length) ∧ (i = xs.length ∨ i = ys.length ∨ i = zs.length)
theorem turn_zip3 {P : Program} {w : World} {K : PySem.W.Frag} {elts : List Expr} {kk : Nat} {tpos : Pos} {a b c z TI TO i1 i2 i3 : Addr} (Z : ZipSep3 z TI TO i1 i2 i3 [i1, a] [i2, b] [i3, c]) (na : a ≠ i1) (nb : b ≠ i2) (nc : c ≠ i3) :
    Turn P w K (.Tuple elts kk tpos) (ItZ3 K a b c) [z, TI, TO, i1, i2, i3] z (fun i h => IsZip h z TI TO .none ∧ IsTupOf3 h TI (.ref i1) (.ref i2) (.ref i3) ∧ (∃ x y u, IsTupOf3 h TO x y u) ∧ h.IsListIter i1 a i ∧ h.IsListIter i2 b i ∧ h.IsListIter i3 c i) where
  mem := by simp
  obj := fun i h ⟨hz, hI, ⟨x, y, u, hO⟩, ⟨o1, e1, _, d1⟩, ⟨o2, e2, _, d2⟩, ⟨o3, e3, _, d3⟩⟩ q hq => by
    simp only [List.mem_cons, List.not_mem_nil, or_false] at hq
    rcases hq with rfl | rfl | rfl | rfl | rfl | rfl
    · exact ⟨_, hz, fun _ q => nomatch q⟩
    · exact ⟨_, hI, fun _ q => nomatch q⟩
    · exact ⟨_, hO, fun _ q => nomatch q⟩
    · exact ⟨o1, e1, fun _ q => by rw [d1] at q; cases q⟩
    · exact ⟨o2, e2, fun _ q => by rw [d2] at q; cases q⟩
    · exact ⟨o3, e3, fun _ q => by rw [d3] at q; cases q⟩
  keep := fun i h h' ⟨hz, hI, ⟨x, y, u, hO⟩, h1, h2, h3⟩ k => ⟨k z (by simp) _ hz, k TI (by simp) _ hI, ⟨x, y, u, k TO (by simp) _ hO⟩, h1.at fun o => k i1 (by simp) o, h2.at fun o => k i2 (by simp) o, h3.at fun o => k i3 (by simp) o⟩
  item := by
    intro X hP hw hK hc i pins s σ H E I hf ⟨hz, hI, ⟨x0, y0, u0, hO⟩, h1, h2, h3⟩ ⟨xs, ys, zs, x, y, u, ⟨qx, qy, qz⟩, hx, hy, hu⟩
    subst hP hw hK
    obtain ⟨r1, rv1, p1, _⟩ := I.list qx
    obtain ⟨r2, rv2, p2, _⟩ := I.list qy
    obtain ⟨r3, rv3, p3, _⟩ := I.list qz
    obtain ⟨v1, hv1, rw1⟩ := rv1.get hx
    obtain ⟨v2, hv2, rw2⟩ := rv2.get hy
    obtain ⟨v3, hv3, rw3⟩ := rv3.get hu
    have lz : z < s.heap.objs.size := Heap.lt_size hz
    have hh : X.A.in1.handled = none := I.ok.hd hc
    have n1 : i < r1.toArray.size := by simpa using (List.getElem?_eq_some_iff.mp hv1).1
    have n2 : i < r2.toArray.size := by simpa using (List.getElem?_eq_some_iff.mp hv2).1
    have n3 : i < r3.toArray.size := by simpa using (List.getElem?_eq_some_iff.mp hv3).1
    refine wpAny_pyNext_zipD3_item Z (Draws.list hh i1 a na r1.toArray) (Draws.list hh i2 b nb r2.toArray) (Draws.list hh i3 c nc r3.toArray) hz hI hO ⟨h1, p1.isList⟩ ⟨h2, p2.isList⟩ ⟨h3, p3.isList⟩ n1 n2 n3 fun w1 w2 w3 h' tk g1 g2 g3 z' O' t1 t2 t3 N' sz' hk => ?_
    have e1 : w1 = v1 := by
      have g : r1[i]? = some w1 := by simpa using g1
      exact Option.some.inj (g.symm.trans hv1)
    have e2 : w2 = v2 := by
      have g : r2[i]? = some w2 := by simpa using g2
      exact Option.some.inj (g.symm.trans hv2)
    have e3 : w3 = v3 := by
      have g : r3[i]? = some w3 := by simpa using g3
      exact Option.some.inj (g.symm.trans hv3)
    subst e1 e2 e3
    refine ⟨_, rfl, wpAny_letOwnedTupleGo_zip (s := { s with heap := h', toks := tk }) z' fun hB z2 sb => ?_⟩
    have hk' : ∀ q o, q ∉ [z, TI, TO, i1, i2, i3] → s.heap.get? q = some o → hB.get? q = some o := fun q o hn e => by
      simp only [List.mem_cons, List.not_mem_nil, or_false, not_or] at hn
      exact (sb.2 q hn.1).trans (hk q o hn.1 hn.2.2.1 hn.2.2.2.1 hn.2.2.2.2.1 hn.2.2.2.2.2 e)
    have hN : hB.get? s.heap.objs.size = some { cls := .type "tuple", data := .seq #[w1, w2, w3] } := (sb.2 _ (Nat.ne_of_gt lz)).trans N'
    have okN : ObjOk X.prog X.w (upd H s.heap.objs.size (.tup [x, y, u])) hB s.heap.objs.size (.tup [x, y, u]) :=
      ⟨(by decide : 3 ≤ sizeLine), [w1, w2, w3], .cons rw1 (.cons rw2 (.cons rw3 .nil)), _, hN, rfl, _, rfl⟩
    have J := I.turnedNew (t' := tk) (ch := [z, TI, TO, i1, i2, i3]) hk' hf (Nat.le_refl _) okN
    have hI' : hB.get? TI = _ := (sb.2 _ Z.TIz).trans (hk _ _ Z.TIz Z.TITO Z.TIi1 Z.TIi2 Z.TIi3 hI)
    have zi1 : i1 ≠ z := fun q => Z.zf1 (q ▸ List.mem_cons_self ..)
    have zi2 : i2 ≠ z := fun q => Z.zf2 (q ▸ List.mem_cons_self ..)
    have zi3 : i3 ≠ z := fun q => Z.zf3 (q ▸ List.mem_cons_self ..)
    refine ⟨.ref s.heap.objs.size, _, J, rfl, ⟨_, x, y, u, ⟨rfl, I.hok.fresh (Nat.le_refl _), rfl⟩, fun l hl => (I.list_inj hl qx) ▸ hx, fun l hl => (I.list_inj hl qy) ▸ hy, fun l hl => (I.list_inj hl qz) ▸ hu⟩, ⟨z2, hI', ⟨w1, w2, w3, (sb.2 _ Z.TOz).trans O'⟩, t1.1.at fun o q => (sb.2 _ zi1).trans q, t2.1.at fun o q => (sb.2 _ zi2).trans q, t3.1.at fun o q => (sb.2 _ zi3).trans q⟩, fun q hq => ?_⟩
    have hlt : q < s.heap.objs.size := by
      simp only [List.mem_cons, List.not_mem_nil, or_false] at hq
      obtain ⟨_, f1, _⟩ := h1
      obtain ⟨_, f2, _⟩ := h2
      obtain ⟨_, f3, _⟩ := h3
      rcases hq with rfl | rfl | rfl | rfl | rfl | rfl
      · exact lz
      · exact Heap.lt_size hI
      · exact Heap.lt_size hO
      · exact Heap.lt_size f1
      · exact Heap.lt_size f2
      · exact Heap.lt_size f3
    exact (upd_ne (Nat.ne_of_lt hlt)).trans (hf q hq).1
  done := by
    intro X hP hw hK hc i pins s σ H E I hf ⟨hz, hI, ⟨x0, y0, u0, hO⟩, h1, h2, h3⟩ ⟨xs, ys, zs, ⟨qx, qy, qz⟩, ⟨k1, k2, k3⟩, k4⟩
    subst hP hw hK
    obtain ⟨r1, rv1, p1, _⟩ := I.list qx
    obtain ⟨r2, rv2, p2, _⟩ := I.list qy
    obtain ⟨r3, rv3, p3, _⟩ := I.list qz
    have hh : X.A.in1.handled = none := I.ok.hd hc
    have n1 : r1.toArray.size = xs.length := by simpa using rv1.length.symm
    have n2 : r2.toArray.size = ys.length := by simpa using rv2.length.symm
    have n3 : r3.toArray.size = zs.length := by simpa using rv3.length.symm
    exact wpAny_pyNext_zipD3_end Z (Draws.list hh i1 a na r1.toArray) (Draws.list hh i2 b nb r2.toArray) (Draws.list hh i3 c nc r3.toArray) hz hI hO ⟨h1, p1.isList⟩ ⟨h2, p2.isList⟩ ⟨h3, p3.isList⟩ (by omega) (by omega) (by omega) (by omega) fun h' tk hk => ⟨rfl, I.turnedL (t' := tk) (ch := [z, TI, TO, i1, i2, i3]) (fun q o hn e => by
      simp only [List.mem_cons, List.not_mem_nil, or_false, not_or] at hn
      exact hk q o hn.1 hn.2.2.1 hn.2.2.2.1 hn.2.2.2.2.1 hn.2.2.2.2.2 e) hf⟩
  self := fun A i s Q E st => wpAny_pyIter_zip st.1
def iZip3 (K : PySem.W.Frag) (ta : TA) : TI := fun σ H R => ta σ H fun vs H1 => ∃ a b c xs ys zs, vs = [.ref a, .ref b, .ref c] ∧ (SqL K H1 a xs ∧ SqL K H1 b ys ∧ SqL K H1 c zs) ∧ R (ItZ3 K a b c) H1
theorem pi_zip3 {X : Cx} {e e2 e3 : Expr} {ta : TA} {p pos tpos : Pos} {elts : List Expr} {kk : Nat} (hg : Gl X "zip") (hm : X.mg "zip" = none) (ha : PA X [e, e2, e3] ta)
    (hs : starEach [e, e2, e3] X.env = (false, eval e X.env) :: starEach [e2, e3] X.env) (hp : (backTo pos (starEach [e2, e3] X.env)).any (·.1) = false) :
    PI X (.Tuple elts kk tpos) (.Call (.Name "zip" p) [e, e2, e3] [] pos) (iZip3 X.K ta) := by
  refine ⟨fun pins s σ H R I h => Call_ (ld_blt I hg hm boot_zip (callWith_type1 (thn (ha.run pos pins s σ H _ I h) fun us s1 ⟨vs, H1, I1, r1, a, b, c, xs, ys, zs, ex, ⟨qx, qy, qz⟩, q⟩ => ?_) hs hp))⟩
  subst ex
  have eus : us = [.ref a, .ref b, .ref c] := by
    cases r1 with
    | cons r rr => cases rr with
      | cons r' rr => cases rr with
        | cons r'' rr =>
          cases rr
          cases r
          cases r'
          cases r''
          rfl
  subst eus
  have fr6 : ∀ q, q ∈ [s1.heap.objs.size + 5, s1.heap.objs.size + 3, s1.heap.objs.size + 4, s1.heap.objs.size, s1.heap.objs.size + 1, s1.heap.objs.size + 2] → FpOk X pins H1 q := fun q hq => by
    have hle : s1.heap.objs.size ≤ q := by
      simp only [List.mem_cons, List.not_mem_nil, or_false] at hq
      rcases hq with rfl | rfl | rfl | rfl | rfl | rfl <;> first | exact Nat.le_add_right _ _ | exact Nat.le_refl _
    exact I1.fpOk hle (I1.hok.fresh hle)
  obtain ⟨j1, rv1, p1, _⟩ := I1.list qx
  obtain ⟨j2, rv2, p2, _⟩ := I1.list qy
  obtain ⟨j3, rv3, p3, _⟩ := I1.list qz
  have la : a < s1.heap.objs.size := p1.lt
  have lb : b < s1.heap.objs.size := p2.lt
  have lc : c < s1.heap.objs.size := p3.lt
  have Z := zip_sep3 (N := s1.heap.objs.size) (fp1 := [a]) (fp2 := [b]) (fp3 := [c]) (by simpa using la) (by simpa using lb) (by simpa using lc)
  exact zip_begins3 (begins_list a j1.toArray) (begins_list b j2.toArray) (begins_list c j3.toArray) p1.isList p2.isList p3.isList fun h' hz hTI hTO h1 h2 h3 hsz hk => wpAny_pyIter_zip hz ⟨s1.heap.objs.size + 5, [s1.heap.objs.size + 5, s1.heap.objs.size + 3, s1.heap.objs.size + 4, s1.heap.objs.size, s1.heap.objs.size + 1, s1.heap.objs.size + 2], _, _, H1, rfl, I1.kept (t' := s1.toks) hk, turn_zip3 Z (Nat.ne_of_lt la) (Nat.ne_of_lt (Nat.lt_succ_of_lt lb)) (Nat.ne_of_lt (Nat.lt_succ_of_lt (Nat.lt_succ_of_lt lc))), ⟨hz, hTI, ⟨_, _, _, hTO⟩, ⟨_, h1, rfl, rfl⟩, ⟨_, h2, rfl, rfl⟩, ⟨_, h3, rfl, rfl⟩⟩, fr6, q⟩
theorem wk_zip3 {a b c : Addr} {w v u : Bool} {l m n : List D} {H1 : Hp} : Wk K (ItZ3 K a b c) (zipD3 l m n) (.thr a w l b v m c u n) H1 where
  go := fun i H S hi _ s e => by
    rw [zipD3_len] at hi
    obtain ⟨xs, q1, r1⟩ := s.rd e.1
    obtain ⟨ys, q2, r2⟩ := s.rd e.2.1
    obtain ⟨zs, q3, r3⟩ := s.rd e.2.2
    have n1 := r1.length
    have n2 := r2.length
    have n3 := r3.length
    exact ⟨xs, ys, zs, xs[i], ys[i], zs[i], ⟨q1, q2, q3⟩, List.getElem?_eq_getElem (by omega), List.getElem?_eq_getElem (by omega), List.getElem?_eq_getElem (by omega)⟩
  yld := fun i H S x H' hi _ s e y => by
    obtain ⟨xs, q1, r1⟩ := s.rd e.1
    obtain ⟨ys, q2, r2⟩ := s.rd e.2.1
    obtain ⟨zs, q3, r3⟩ := s.rd e.2.2
    obtain ⟨T, x1, y1, z1, ⟨rfl, hT, rfl⟩, f1, f2, f3⟩ := y
    obtain ⟨d1, e1, e1'⟩ := r1.getV (f1 xs q1)
    obtain ⟨d2, e2, e2'⟩ := r2.getV (f2 ys q2)
    obtain ⟨d3, e3, e3'⟩ := r3.getV (f3 zs q3)
    refine ⟨Sm.new hT, .tup [d1, d2, d3], ?_, T, [x1, y1, z1], rfl, .inl (.inl upd_same), ?_⟩
    · unfold zipD3
      rw [List.getElem?_map, zip3_get e1 e2 e3]
      rfl
    · exact ⟨x1, [y1, z1], rfl, Rp.kp (Kp.new hT) _ e1', y1, [z1], rfl, Rp.kp (Kp.new hT) _ e2', z1, [], rfl, Rp.kp (Kp.new hT) _ e3', rfl⟩
  stop := fun H S _ s e => by
    obtain ⟨xs, q1, r1⟩ := s.rd e.1
    obtain ⟨ys, q2, r2⟩ := s.rd e.2.1
    obtain ⟨zs, q3, r3⟩ := s.rd e.2.2
    have n1 := r1.length
    have n2 := r2.length
    have n3 := r3.length
    refine ⟨xs, ys, zs, ⟨q1, q2, q3⟩, ?_, ?_⟩ <;> (rw [zipD3_len]; omega)
theorem i_zip3 {p tpos : Pos} {elts : List Expr} {kk : Nat} (hg : Gl X "zip") (hm : X.mg "zip" = none) (ha : PE X a (LE X.K Wh A)) (hb : PE X b (LE X.K Wh B)) (hc : PE X c (LE X.K Wh C)) (hs3 : starEach [c] X.env = [(false, eval c X.env)]) (hs2 : starEach [b, c] X.env = (false, eval b X.env) :: starEach [c] X.env) (hs : starEach [a, b, c] X.env = (false, eval a X.env) :: starEach [b, c] X.env) :
    PI X (.Tuple elts kk tpos) (.Call (.Name "zip" p) [a, b, c] [] pos) (LI X.K Wh fun ρ S P W => A ρ S (fun x S1 => B ρ S1 (fun y S2 => C ρ S2 (fun z S3 => match x, y, z with
      | .ref p, .ref q, .ref r => (match S3 p, S3 q, S3 r with
        | some (.lst w l), some (.lst v m), some (.lst u n) => P (zipD3 l m n) (.thr p w l q v m r u n) S3
        | _, _, _ => False)
      | _, _, _ => False) W) W) W) :=
  PI.imp (pi_zip3 hg hm (pa_cons ha (pa_cons hb (pa_cons hc pa_nil hs3) hs2) hs) hs (by rw [hs2, hs3]; rfl)) fun σ H R ⟨ρ, S, W, P, se, wl, il, h⟩ => ⟨ρ, S, W, _, se, wl, fun d S1 h1 v H1 k1 s1 r1 => ⟨ρ, S1, W, _, se.at k1 s1, wl.at k1, fun d2 S2 h2 v2 H2 k2 s2 r2 => ⟨ρ, S2, W, _, se.at (k1.trans k2) s2, wl.at (k1.trans k2), fun d3 S3 h3 v3 H3 k3 s3 r3 => by
    cases d <;> cases d2 <;> cases d3 <;> (try exact (show False from h3).elim)
    rename_i i j k
    cases r1; cases r2; cases r3
    dsimp only at h3
    split at h3
    · rename_i w l v' m u n e1 e2 e3
      obtain ⟨xs, q1, t1⟩ := s3.rd e1
      obtain ⟨ys, q2, t2⟩ := s3.rd e2
      obtain ⟨zs, q3, t3⟩ := s3.rd e3
      exact ⟨i, j, k, xs, ys, zs, rfl, ⟨q1, q2, q3⟩, il _ _ _ h3 _ H3 ((k1.trans k2).trans k3) s3 wk_zip3⟩
    · exact h3.elim, h2⟩, h1⟩, h⟩
end
end Sd
namespace Sd
open PySem PySem.Spec PyProof.Rows L2
theorem inv_keep {X : Cx} {pins : List (Addr × Obj)} {σ : L2.St} {H : Hp} {s : Shared} {a : Addr} {oe : Obj} {cls : Value} {d : Option Addr} {vs : Array Value} (I : L2.Inv X ((a, oe) :: pins) σ H s) (hz : Zc cls d oe) (hd : oe.data = .fields vs)
    (h0 : X.s_0.heap.get? a = none) (hex : X.ex = []) (hp : ∀ p, p ∈ X.pn ++ pins → p.1 ≠ a) : L2.Inv X pins σ (upd H a (ExV cls d a)) s := by
  obtain ⟨ga, na, nl, nf, nc⟩ := I.pin (a, oe) (List.mem_append_right _ List.mem_cons_self)
  have ne0 : ∀ b o, X.s_0.heap.get? b = some o → b ≠ a := fun b o e z => by
    rw [z, h0] at e
    cases e
  have neH : ∀ b u, H b = some u → b ≠ a := fun b u e z => by
    rw [z] at e
    exact absurd (e.symm.trans na) (by simp)
  refine { ok := I.ok, os := I.os, bare := I.bare, base := ?_, loc := I.loc, cell := I.cell, free := ?_, freeC := ?_, pin := ?_, hok := ?_, len := I.len }
  · have B := I.base
    exact { keep := B.keep, slot := B.slot, there := B.there
            free := fun b o e n hx => by rw [upd_ne (ne0 b o e)]; exact B.free b o e n hx
            tups := fun b xs e => by rw [upd_ne (neH _ _ (B.tups b xs e))]; exact B.tups b xs e
            frzs := fun b o u e => by rw [upd_ne (neH _ _ (B.frzs b o u e))]; exact B.frzs b o u e
            tbls := fun b ps e => by
              obtain ⟨m, z⟩ := B.tbls b ps e
              exact ⟨m, by rw [upd_ne (neH _ _ z)]; exact z⟩ }
  · rw [upd_ne (Ne.symm nl)]
    exact I.free
  · intro x c e
    have z : c ≠ a := fun z => by
      obtain ⟨v, o, ho, hv⟩ := I.cell x c e
      rw [z] at ho
      rw [show s.heap.get? a = some oe from ga] at ho
      cases ho
      exact nc v hv
    rw [upd_ne z]
    exact I.freeC x c e
  · intro p hm
    obtain ⟨e1, e2, e3, e4, e5⟩ := I.pin p ((List.mem_append.mp hm).elim (fun z => List.mem_append_left _ z) fun z => List.mem_append_right _ (List.mem_cons_of_mem _ z))
    exact ⟨e1, by rw [upd_ne (hp p hm)]; exact e2, e3, e4, e5⟩
  · intro b u e
    by_cases hb : b = a
    · subst hb
      rw [upd_same] at e
      cases e
      exact ⟨⟨oe, vs, ga, hz, hd⟩, ⟨oe, ga⟩, fun h1 h2 ⟨o, v, q1, q2⟩ k => ⟨o, v, k o q1, q2⟩⟩
    · rw [upd_ne hb] at e
      exact (I.hok b u e).stay (fun _ _ _ q => q) (fun c q => by rw [upd_ne (neH _ _ q)]; exact q) fun c xs q => by rw [upd_ne (neH _ _ q)]; exact q
def wKeep (K : PySem.W.Frag) (c : Value) (n y : Nat) (Wout : WX) (D : Ends) : WX := fun cls d σ H =>
  ∃ b, PySem.W.exmOne K cls c = some b ∧ (b = true → ∀ a, H a = none → D.nx ((((σ.set n (some (.ref a))).set y (some (.ref a)))).set n none) (upd H a (ExV cls d a))) ∧ (b = false → Wout cls d σ H)
section
variable {X : Cx} {x nn yy : Str} {c : Value} {i j : Nat} {body : List Stmt} {np pos pos' p1 p2 p3 : Pos} {tb : WX → TS} {Wout : WX}
theorem ps_try_keep (hs : X.stack = X.env :: X.outer) (hf : X.env.frame = some X.env.locals) (hex : X.ex = []) (hN : X.N.Nodup) (hi : X.N[i]? = some nn) (hln : X.env.kindOf nn = some .local) (hj : X.N[j]? = some yy) (hly : Loc X.env.scope yy) (hfy : X.fn yy = true ∨ X.env.scope.names.lookup yy = some .local)
    (hd1 : (nn == ("__debug__" : Str)) = false) (hd2 : (nn == ("__classdict__" : Str)) = false) (hc : Names X x c) (tk : Takes X Wout)
    (hb : ∀ (W : WX) (pn : List (Addr × Obj)) (xe : Value → Shared → Prop), Takes (X.tr pn xe) W → PassesOwn (model X.prog X.w) X.A X.env xe → PSs (X.tr pn xe) body (tb W)) :
    PS X (.Try body [.ExceptHandler (some (.Name x np)) (some nn) [.Assign [.Name yy p1] (.Name nn p2) p3] pos'] [] [] pos) (fun D σ H => tb (wKeep X.K c i j Wout D) D σ H) := by
  refine ⟨fun pins s σ H D I h => ?_⟩
  have ok := I.ok
  have hfr : X.A.frames = some (X.env :: X.outer) := ok.frames.trans (congrArg some hs)
  let hd : List ExceptHandler := [.ExceptHandler (some (.Name x np)) (some nn) [.Assign [.Name yy p1] (.Name nn p2) p3] pos']
  let E1 : Value → Shared → Prop := fun e s1 => wpAny (model X.prog X.w) X.A (noteFrame e X.env) (fun _ s2 => wpAny (model X.prog X.w) X.A (setFlight e none) (fun _ s3 => wpAny (model X.prog X.w) X.A (handleBy e X.env hd) (SP X pins D) X.xe s3) X.xe s2) X.xe s1
  refine wpAny_Try_except ?_
  have tk1 : Takes (X.tr (X.pn ++ pins) E1) (wKeep X.K c i j Wout D) := by
    intro u s' xx
    obtain ⟨a, B, sI, pins', σ', H', cls, d, rfl, J', nb, up, sky, na, os, ag, bb, hb1, hyes, hno⟩ := xx
    have J : L2.Inv X pins σ' H' sI := J'.ofTry ok
    have sky' : Sky B (X.env :: X.outer) a (Zc cls d) X.env.locals s'.heap := by rw [← hs]; exact sky
    show wpAny (model X.prog X.w) X.A (noteFrame (.ref a) X.env) _ _ _
    refine Sky.land Zc.steady hfr hf sky' fun h3 fl3 up3 => ?_
    have J3 : L2.Inv X pins σ' H' { s' with heap := h3 } := J.landed nb fl3.1 (up.trans up3) os ag
    obtain ⟨o3, v3, he3, hz3, hd3⟩ := fl3.there
    have nfr : a ∉ frs (X.env :: X.outer) := fun hm => by
      obtain ⟨_, o', e', hnf⟩ := fl3.2.2.1.mem hm
      rw [he3] at e'
      cases e'
      exact hnf _ hd3
    have nL : a ≠ X.env.locals := fun z => nfr (List.mem_filterMap.mpr ⟨X.env, List.mem_cons_self, by rw [hf, z]⟩)
    have nF : a ∉ X.fs := fun hm => by
      obtain ⟨e, he, q⟩ := List.mem_filterMap.mp hm
      exact nfr (List.mem_filterMap.mpr ⟨e, List.mem_cons_of_mem _ he, q⟩)
    -- the error is younger than the entry
    have nI : sI.heap.get? a = none := by
      cases q : sI.heap.get? a with
      | none => rfl
      | some o =>
        have z := nb a o q (by rw [hs]; exact nfr)
        rw [fl3.2.1] at z
        cases z
    have n0 : X.s_0.heap.get? a = none := by
      cases q : X.s_0.heap.get? a with
      | none => rfl
      | some o =>
        obtain ⟨o', z⟩ := J.base.there a o q (by rw [hex]; simp)
        rw [nI] at z
        cases z
    have npin : ∀ p, p ∈ X.pn ++ pins → p.1 ≠ a := fun p hp z => by
      have := (J.pin p hp).1
      rw [z, nI] at this
      cases this
    have S3 := J3.suite he3 hd3 na nL nF
    refine wpAny_handleBy_cons (codeAny_handlers_test ?_) (by intro q; cases q)
    have LT3 : PySem.W.Looks (model X.prog X.w) h3 (typeOf (.ref a)) cls := fun A Q E s k q => wpAny_typeOf_ref (k _ _ he3) (by rw [hz3.1]; exact q)
    have LM := PySem.W.exm_one (M := model X.prog X.w) J3.kIn LT3 hb1
    have test : ∀ {Q : Value → Shared → Prop} {E : Value → Shared → Prop}, Q c { s' with heap := h3 } → wpAny (model X.prog X.w) (X.A.mark (some (.ref a))) (eval (.Name x np) X.env) Q E { s' with heap := h3 } := fun {Q E} q => by
      obtain ⟨hg, hdbg, hm | ⟨hm, hv, hnn⟩⟩ := hc
      · exact ld_glob (X := X.suite a ((a, o3) :: (X.pn ++ pins))) S3 hg hm q hdbg
      · exact ld_blt (X := X.suite a ((a, o3) :: (X.pn ++ pins))) S3 hg hm hv q hnn hdbg
    refine test (LM.here ?_)
    cases bb with
    | true =>
      refine codeAny_handlers_suite_as (HandSPX.lands_againZ fl3 fun h4 fl4 up4 => ?_)
      have J4 : L2.Inv X pins σ' H' { s' with heap := h4 } := J.landed nb fl4.1 ((up.trans up3).trans up4) os ag
      obtain ⟨o4, v4, he4, hz4, hd4⟩ := fl4.there
      have S4 := J4.suite he4 hd4 na nL nF
      refine store_ok (X := X.suite a ((a, o4) :: (X.pn ++ pins))) (v := .ref a) S4 hN hi (.inl hln) rfl (fun s5 S5 => ?_) (.inr hln)
      -- y = n, in the suite
      have suite : PSs (X.suite a ((a, o4) :: (X.pn ++ pins))) [.Assign [.Name yy p1] (.Name nn p2) p3] (tAsg (tVar i) (gName j)) :=
        pss_one (ps_set (X := X.suite a ((a, o4) :: (X.pn ++ pins))) hN hj hly (pe_var (X := X.suite a ((a, o4) :: (X.pn ++ pins))) hi (.inl hln) hd1 hd2) rfl hfy)
      have hil : i < σ'.length := by
        rw [J.len]
        exact (List.getElem?_eq_some_iff.mp hi).1
      refine wpAny_mono (suite.run [] s5 _ H' { nx := fun σ6 H6 => σ6 = (σ'.set i (some (.ref a))).set j (some (.ref a)) ∧ H6 = H', rt := fun _ _ => False } S5 ⟨.ref a, List.getElem?_set_self hil, rfl, rfl⟩) (fun f s6 hsp => ?_) (fun _ _ z => False.elim z)
      cases f with
      | next =>
        obtain ⟨σ6, H6, S6, rfl, rfl⟩ := hsp
        have J6 : L2.Inv X ((a, o4) :: pins) _ H6 s6 := (S6.unsuite ok).pins_of fun p hp => by
          rcases List.mem_cons.mp hp with rfl | hp
          · obtain ⟨q1, q2, q3, q4, q5⟩ := S6.pin (a, o4) (List.mem_append_left _ List.mem_cons_self)
            exact ⟨q1, q2, q3, q4, q5⟩
          · obtain ⟨q1, q2, q3, q4, q5⟩ := S6.pin p (List.mem_append_left _ (List.mem_cons_of_mem _ (List.mem_append_right _ hp)))
            exact ⟨q1, q2, q3, q4, q5⟩
        refine gone_ok J6 hN hi hln fun s7 J7 => ?_
        exact ⟨_, _, inv_keep J7 hz4 hd4 n0 hex npin, hyes rfl a na⟩
      | brk => obtain ⟨_, _, _, q⟩ := hsp; exact q.elim
      | cont => obtain ⟨_, _, _, q⟩ := hsp; exact q.elim
      | ret u => obtain ⟨_, _, _, _, _, q⟩ := hsp; exact q.elim
    | false =>
      show wpAny _ X.A (handleBy (.ref a) X.env []) _ _ _
      refine wpAny_handleBy_nil ?_
      obtain ⟨f1, f2, f3, oe, vs, T, oT, ts', he, hz, hdd, g1, hr⟩ := id fl3
      unfold PySem.passOn
      refine wpAny_bind (wpAny_field he hdd g1 ?_)
      rw [if_neg (show ¬ ((Value.ref T == Value.none) = true) by simp)]
      have fin : wpAny (model X.prog X.w) X.A (setFlight (.ref a) X.env.frame) (fun _ s4 => wpAny (model X.prog X.w) X.A (throw (.ref a) : Sem Flow) (SP X pins D) X.xe s4) X.xe { s' with heap := h3 } := by
        rw [hf]
        refine HandSPX.setFlight_upZ fl3 fun h4 hh4 up4 => wpAny_throw (tk _ _ ⟨a, B, sI, pins, σ', H', cls, d, rfl, J, nb, (up.trans up3).trans up4, .inr (.inr ?_), na, os, ag, hno rfl⟩)
        rw [hs]
        exact hh4
      first
        | exact wpAny_bind (wpAny_pure (wpAny_bind fin))
        | exact wpAny_bind fin
  refine wpAny_mono ((hb (wKeep X.K c i j Wout D) (X.pn ++ pins) E1 tk1 PassesOwn.looking).run [] s σ H D (I.toTry _) h) (fun f s1 hsp => ?_) (fun _ _ he => he)
  cases f with
  | next =>
    obtain ⟨σ', H', J', q⟩ := hsp
    exact wpAny_execs_nil ⟨_, _, J'.ofTry ok, q⟩
  | brk =>
    obtain ⟨σ', H', J', q⟩ := hsp
    exact ⟨_, _, J'.ofTry ok, q⟩
  | cont =>
    obtain ⟨σ', H', J', q⟩ := hsp
    exact ⟨_, _, J'.ofTry ok, q⟩
  | ret u =>
    obtain ⟨v, σ', H', J', r, q⟩ := hsp
    exact ⟨_, _, _, J'.ofTry ok, r, q⟩
end
def wKeep2 (K : PySem.W.Frag) (c : Value) (n y z : Nat) (Wout : WX) (D : Ends) : WX := fun cls d σ H =>
  ∃ b, PySem.W.exmOne K cls c = some b ∧ (b = true → ∀ a, H a = none → D.nx (((((σ.set n (some (.ref a))).set y (some (.ref a)))).set z (some .non)).set n none) (upd H a (ExV cls d a))) ∧ (b = false → Wout cls d σ H)
section
variable {X : Cx} {x nn yy zz : Str} {c : Value} {i j l : Nat} {body : List Stmt} {np pos pos' p1 p2 p3 p4 p5 p6 : Pos} {kk : Nat} {tb : WX → TS} {Wout : WX}
theorem ps_try_keep2 (hs : X.stack = X.env :: X.outer) (hf : X.env.frame = some X.env.locals) (hex : X.ex = []) (hN : X.N.Nodup) (hi : X.N[i]? = some nn) (hln : X.env.kindOf nn = some .local) (hj : X.N[j]? = some yy) (hly : Loc X.env.scope yy) (hfy : X.fn yy = true ∨ X.env.scope.names.lookup yy = some .local) (hl : X.N[l]? = some zz) (hlz : Loc X.env.scope zz) (hfz : X.fn zz = true ∨ X.env.scope.names.lookup zz = some .local)
    (hd1 : (nn == ("__debug__" : Str)) = false) (hd2 : (nn == ("__classdict__" : Str)) = false) (hc : Names X x c) (tk : Takes X Wout)
    (hb : ∀ (W : WX) (pn : List (Addr × Obj)) (xe : Value → Shared → Prop), Takes (X.tr pn xe) W → PassesOwn (model X.prog X.w) X.A X.env xe → PSs (X.tr pn xe) body (tb W)) :
    PS X (.Try body [.ExceptHandler (some (.Name x np)) (some nn) [.Assign [.Name yy p1] (.Name nn p2) p3, .Assign [.Name zz p4] (.Constant .none kk p5) p6] pos'] [] [] pos) (fun D σ H => tb (wKeep2 X.K c i j l Wout D) D σ H) := by
  refine ⟨fun pins s σ H D I h => ?_⟩
  have ok := I.ok
  have hfr : X.A.frames = some (X.env :: X.outer) := ok.frames.trans (congrArg some hs)
  let hd : List ExceptHandler := [.ExceptHandler (some (.Name x np)) (some nn) [.Assign [.Name yy p1] (.Name nn p2) p3, .Assign [.Name zz p4] (.Constant .none kk p5) p6] pos']
  let E1 : Value → Shared → Prop := fun e s1 => wpAny (model X.prog X.w) X.A (noteFrame e X.env) (fun _ s2 => wpAny (model X.prog X.w) X.A (setFlight e none) (fun _ s3 => wpAny (model X.prog X.w) X.A (handleBy e X.env hd) (SP X pins D) X.xe s3) X.xe s2) X.xe s1
  refine wpAny_Try_except ?_
  have tk1 : Takes (X.tr (X.pn ++ pins) E1) (wKeep2 X.K c i j l Wout D) := by
    intro u s' xx
    obtain ⟨a, B, sI, pins', σ', H', cls, d, rfl, J', nb, up, sky, na, os, ag, bb, hb1, hyes, hno⟩ := xx
    have J : L2.Inv X pins σ' H' sI := J'.ofTry ok
    have sky' : Sky B (X.env :: X.outer) a (Zc cls d) X.env.locals s'.heap := by rw [← hs]; exact sky
    show wpAny (model X.prog X.w) X.A (noteFrame (.ref a) X.env) _ _ _
    refine Sky.land Zc.steady hfr hf sky' fun h3 fl3 up3 => ?_
    have J3 : L2.Inv X pins σ' H' { s' with heap := h3 } := J.landed nb fl3.1 (up.trans up3) os ag
    obtain ⟨o3, v3, he3, hz3, hd3⟩ := fl3.there
    have nfr : a ∉ frs (X.env :: X.outer) := fun hm => by
      obtain ⟨_, o', e', hnf⟩ := fl3.2.2.1.mem hm
      rw [he3] at e'
      cases e'
      exact hnf _ hd3
    have nL : a ≠ X.env.locals := fun z => nfr (List.mem_filterMap.mpr ⟨X.env, List.mem_cons_self, by rw [hf, z]⟩)
    have nF : a ∉ X.fs := fun hm => by
      obtain ⟨e, he, q⟩ := List.mem_filterMap.mp hm
      exact nfr (List.mem_filterMap.mpr ⟨e, List.mem_cons_of_mem _ he, q⟩)
    -- the error is younger than the entry
    have nI : sI.heap.get? a = none := by
      cases q : sI.heap.get? a with
      | none => rfl
      | some o =>
        have z := nb a o q (by rw [hs]; exact nfr)
        rw [fl3.2.1] at z
        cases z
    have n0 : X.s_0.heap.get? a = none := by
      cases q : X.s_0.heap.get? a with
      | none => rfl
      | some o =>
        obtain ⟨o', z⟩ := J.base.there a o q (by rw [hex]; simp)
        rw [nI] at z
        cases z
    have npin : ∀ p, p ∈ X.pn ++ pins → p.1 ≠ a := fun p hp z => by
      have := (J.pin p hp).1
      rw [z, nI] at this
      cases this
    have S3 := J3.suite he3 hd3 na nL nF
    refine wpAny_handleBy_cons (codeAny_handlers_test ?_) (by intro q; cases q)
    have LT3 : PySem.W.Looks (model X.prog X.w) h3 (typeOf (.ref a)) cls := fun A Q E s k q => wpAny_typeOf_ref (k _ _ he3) (by rw [hz3.1]; exact q)
    have LM := PySem.W.exm_one (M := model X.prog X.w) J3.kIn LT3 hb1
    have test : ∀ {Q : Value → Shared → Prop} {E : Value → Shared → Prop}, Q c { s' with heap := h3 } → wpAny (model X.prog X.w) (X.A.mark (some (.ref a))) (eval (.Name x np) X.env) Q E { s' with heap := h3 } := fun {Q E} q => by
      obtain ⟨hg, hdbg, hm | ⟨hm, hv, hnn⟩⟩ := hc
      · exact ld_glob (X := X.suite a ((a, o3) :: (X.pn ++ pins))) S3 hg hm q hdbg
      · exact ld_blt (X := X.suite a ((a, o3) :: (X.pn ++ pins))) S3 hg hm hv q hnn hdbg
    refine test (LM.here ?_)
    cases bb with
    | true =>
      refine codeAny_handlers_suite_as (HandSPX.lands_againZ fl3 fun h4 fl4 up4 => ?_)
      have J4 : L2.Inv X pins σ' H' { s' with heap := h4 } := J.landed nb fl4.1 ((up.trans up3).trans up4) os ag
      obtain ⟨o4, v4, he4, hz4, hd4⟩ := fl4.there
      have S4 := J4.suite he4 hd4 na nL nF
      refine store_ok (X := X.suite a ((a, o4) :: (X.pn ++ pins))) (v := .ref a) S4 hN hi (.inl hln) rfl (fun s5 S5 => ?_) (.inr hln)
      -- y = n, in the suite
      have suite : PSs (X.suite a ((a, o4) :: (X.pn ++ pins))) [.Assign [.Name yy p1] (.Name nn p2) p3, .Assign [.Name zz p4] (.Constant .none kk p5) p6] (tSeq (tAsg (tVar i) (gName j)) (tAsg (tC .non) (gName l))) :=
        pss_cons (ps_set (X := X.suite a ((a, o4) :: (X.pn ++ pins))) hN hj hly (pe_var (X := X.suite a ((a, o4) :: (X.pn ++ pins))) hi (.inl hln) hd1 hd2) rfl hfy) (pss_one (ps_set (X := X.suite a ((a, o4) :: (X.pn ++ pins))) hN hl hlz pe_non rfl hfz))
      have hil : i < σ'.length := by
        rw [J.len]
        exact (List.getElem?_eq_some_iff.mp hi).1
      refine wpAny_mono (suite.run [] s5 _ H' { nx := fun σ6 H6 => σ6 = ((σ'.set i (some (.ref a))).set j (some (.ref a))).set l (some .non) ∧ H6 = H', rt := fun _ _ => False } S5 ⟨.ref a, List.getElem?_set_self hil, rfl, rfl⟩) (fun f s6 hsp => ?_) (fun _ _ z => False.elim z)
      cases f with
      | next =>
        obtain ⟨σ6, H6, S6, rfl, rfl⟩ := hsp
        have J6 : L2.Inv X ((a, o4) :: pins) _ H6 s6 := (S6.unsuite ok).pins_of fun p hp => by
          rcases List.mem_cons.mp hp with rfl | hp
          · obtain ⟨q1, q2, q3, q4, q5⟩ := S6.pin (a, o4) (List.mem_append_left _ List.mem_cons_self)
            exact ⟨q1, q2, q3, q4, q5⟩
          · obtain ⟨q1, q2, q3, q4, q5⟩ := S6.pin p (List.mem_append_left _ (List.mem_cons_of_mem _ (List.mem_append_right _ hp)))
            exact ⟨q1, q2, q3, q4, q5⟩
        refine gone_ok J6 hN hi hln fun s7 J7 => ?_
        exact ⟨_, _, inv_keep J7 hz4 hd4 n0 hex npin, hyes rfl a na⟩
      | brk => obtain ⟨_, _, _, q⟩ := hsp; exact q.elim
      | cont => obtain ⟨_, _, _, q⟩ := hsp; exact q.elim
      | ret u => obtain ⟨_, _, _, _, _, q⟩ := hsp; exact q.elim
    | false =>
      show wpAny _ X.A (handleBy (.ref a) X.env []) _ _ _
      refine wpAny_handleBy_nil ?_
      obtain ⟨f1, f2, f3, oe, vs, T, oT, ts', he, hz, hdd, g1, hr⟩ := id fl3
      unfold PySem.passOn
      refine wpAny_bind (wpAny_field he hdd g1 ?_)
      rw [if_neg (show ¬ ((Value.ref T == Value.none) = true) by simp)]
      have fin : wpAny (model X.prog X.w) X.A (setFlight (.ref a) X.env.frame) (fun _ s4 => wpAny (model X.prog X.w) X.A (throw (.ref a) : Sem Flow) (SP X pins D) X.xe s4) X.xe { s' with heap := h3 } := by
        rw [hf]
        refine HandSPX.setFlight_upZ fl3 fun h4 hh4 up4 => wpAny_throw (tk _ _ ⟨a, B, sI, pins, σ', H', cls, d, rfl, J, nb, (up.trans up3).trans up4, .inr (.inr ?_), na, os, ag, hno rfl⟩)
        rw [hs]
        exact hh4
      first
        | exact wpAny_bind (wpAny_pure (wpAny_bind fin))
        | exact wpAny_bind fin
  refine wpAny_mono ((hb (wKeep2 X.K c i j l Wout D) (X.pn ++ pins) E1 tk1 PassesOwn.looking).run [] s σ H D (I.toTry _) h) (fun f s1 hsp => ?_) (fun _ _ he => he)
  cases f with
  | next =>
    obtain ⟨σ', H', J', q⟩ := hsp
    exact wpAny_execs_nil ⟨_, _, J'.ofTry ok, q⟩
  | brk =>
    obtain ⟨σ', H', J', q⟩ := hsp
    exact ⟨_, _, J'.ofTry ok, q⟩
  | cont =>
    obtain ⟨σ', H', J', q⟩ := hsp
    exact ⟨_, _, J'.ofTry ok, q⟩
  | ret u =>
    obtain ⟨v, σ', H', J', r, q⟩ := hsp
    exact ⟨_, _, _, J'.ofTry ok, r, q⟩
end
def wKeepG (K : PySem.W.Frag) (c : Value) (n y z : Nat) (t2 : TE) (Wout : WX) (D : Ends) : WX := fun cls d σ H =>
  ∃ b, PySem.W.exmOne K cls c = some b ∧ (b = true → ∀ a, H a = none → t2 ((σ.set n (some (.ref a))).set y (some (.ref a))) H fun v H6 => H6 a = none → D.nx (((((σ.set n (some (.ref a))).set y (some (.ref a)))).set z (some v)).set n none) (upd H6 a (ExV cls d a))) ∧ (b = false → Wout cls d σ H)
section
variable {X : Cx} {x nn yy zz : Str} {c : Value} {i j l : Nat} {body : List Stmt} {np pos pos' p1 p2 p3 p4 p5 p6 : Pos} {e2 : Expr} {t2 : TE} {tb : WX → TS} {Wout : WX}
theorem ps_try_keepG (hs : X.stack = X.env :: X.outer) (hf : X.env.frame = some X.env.locals) (hex : X.ex = []) (hN : X.N.Nodup) (hi : X.N[i]? = some nn) (hln : X.env.kindOf nn = some .local) (hj : X.N[j]? = some yy) (hly : Loc X.env.scope yy) (hfy : X.fn yy = true ∨ X.env.scope.names.lookup yy = some .local) (hl : X.N[l]? = some zz) (hlz : Loc X.env.scope zz) (hfz : X.fn zz = true ∨ X.env.scope.names.lookup zz = some .local)
    (hd1 : (nn == ("__debug__" : Str)) = false) (hd2 : (nn == ("__classdict__" : Str)) = false) (hc : Names X x c) (tk : Takes X Wout)
    (h2 : ∀ (Y : Cx), Y.env = X.env → PE Y e2 t2) (hm2 : ∀ σ H (Q Q' : VK), (∀ v H, Q v H → Q' v H) → t2 σ H Q → t2 σ H Q') (hw2 : ∀ l : Nat, swapsWith e2 (some (.Name zz p4)) l X.env = pure false)
    (hb : ∀ (W : WX) (pn : List (Addr × Obj)) (xe : Value → Shared → Prop), Takes (X.tr pn xe) W → PassesOwn (model X.prog X.w) X.A X.env xe → PSs (X.tr pn xe) body (tb W)) :
    PS X (.Try body [.ExceptHandler (some (.Name x np)) (some nn) [.Assign [.Name yy p1] (.Name nn p2) p3, .Assign [.Name zz p4] e2 p6] pos'] [] [] pos) (fun D σ H => tb (wKeepG X.K c i j l t2 Wout D) D σ H) := by
  refine ⟨fun pins s σ H D I h => ?_⟩
  have ok := I.ok
  have hfr : X.A.frames = some (X.env :: X.outer) := ok.frames.trans (congrArg some hs)
  let hd : List ExceptHandler := [.ExceptHandler (some (.Name x np)) (some nn) [.Assign [.Name yy p1] (.Name nn p2) p3, .Assign [.Name zz p4] e2 p6] pos']
  let E1 : Value → Shared → Prop := fun e s1 => wpAny (model X.prog X.w) X.A (noteFrame e X.env) (fun _ s2 => wpAny (model X.prog X.w) X.A (setFlight e none) (fun _ s3 => wpAny (model X.prog X.w) X.A (handleBy e X.env hd) (SP X pins D) X.xe s3) X.xe s2) X.xe s1
  refine wpAny_Try_except ?_
  have tk1 : Takes (X.tr (X.pn ++ pins) E1) (wKeepG X.K c i j l t2 Wout D) := by
    intro u s' xx
    obtain ⟨a, B, sI, pins', σ', H', cls, d, rfl, J', nb, up, sky, na, os, ag, bb, hb1, hyes, hno⟩ := xx
    have J : L2.Inv X pins σ' H' sI := J'.ofTry ok
    have sky' : Sky B (X.env :: X.outer) a (Zc cls d) X.env.locals s'.heap := by rw [← hs]; exact sky
    show wpAny (model X.prog X.w) X.A (noteFrame (.ref a) X.env) _ _ _
    refine Sky.land Zc.steady hfr hf sky' fun h3 fl3 up3 => ?_
    have J3 : L2.Inv X pins σ' H' { s' with heap := h3 } := J.landed nb fl3.1 (up.trans up3) os ag
    obtain ⟨o3, v3, he3, hz3, hd3⟩ := fl3.there
    have nfr : a ∉ frs (X.env :: X.outer) := fun hm => by
      obtain ⟨_, o', e', hnf⟩ := fl3.2.2.1.mem hm
      rw [he3] at e'
      cases e'
      exact hnf _ hd3
    have nL : a ≠ X.env.locals := fun z => nfr (List.mem_filterMap.mpr ⟨X.env, List.mem_cons_self, by rw [hf, z]⟩)
    have nF : a ∉ X.fs := fun hm => by
      obtain ⟨e, he, q⟩ := List.mem_filterMap.mp hm
      exact nfr (List.mem_filterMap.mpr ⟨e, List.mem_cons_of_mem _ he, q⟩)
    -- the error is younger than the entry
    have nI : sI.heap.get? a = none := by
      cases q : sI.heap.get? a with
      | none => rfl
      | some o =>
        have z := nb a o q (by rw [hs]; exact nfr)
        rw [fl3.2.1] at z
        cases z
    have n0 : X.s_0.heap.get? a = none := by
      cases q : X.s_0.heap.get? a with
      | none => rfl
      | some o =>
        obtain ⟨o', z⟩ := J.base.there a o q (by rw [hex]; simp)
        rw [nI] at z
        cases z
    have npin : ∀ p, p ∈ X.pn ++ pins → p.1 ≠ a := fun p hp z => by
      have := (J.pin p hp).1
      rw [z, nI] at this
      cases this
    have S3 := J3.suite he3 hd3 na nL nF
    refine wpAny_handleBy_cons (codeAny_handlers_test ?_) (by intro q; cases q)
    have LT3 : PySem.W.Looks (model X.prog X.w) h3 (typeOf (.ref a)) cls := fun A Q E s k q => wpAny_typeOf_ref (k _ _ he3) (by rw [hz3.1]; exact q)
    have LM := PySem.W.exm_one (M := model X.prog X.w) J3.kIn LT3 hb1
    have test : ∀ {Q : Value → Shared → Prop} {E : Value → Shared → Prop}, Q c { s' with heap := h3 } → wpAny (model X.prog X.w) (X.A.mark (some (.ref a))) (eval (.Name x np) X.env) Q E { s' with heap := h3 } := fun {Q E} q => by
      obtain ⟨hg, hdbg, hm | ⟨hm, hv, hnn⟩⟩ := hc
      · exact ld_glob (X := X.suite a ((a, o3) :: (X.pn ++ pins))) S3 hg hm q hdbg
      · exact ld_blt (X := X.suite a ((a, o3) :: (X.pn ++ pins))) S3 hg hm hv q hnn hdbg
    refine test (LM.here ?_)
    cases bb with
    | true =>
      refine codeAny_handlers_suite_as (HandSPX.lands_againZ fl3 fun h4 fl4 up4 => ?_)
      have J4 : L2.Inv X pins σ' H' { s' with heap := h4 } := J.landed nb fl4.1 ((up.trans up3).trans up4) os ag
      obtain ⟨o4, v4, he4, hz4, hd4⟩ := fl4.there
      have S4 := J4.suite he4 hd4 na nL nF
      refine store_ok (X := X.suite a ((a, o4) :: (X.pn ++ pins))) (v := .ref a) S4 hN hi (.inl hln) rfl (fun s5 S5 => ?_) (.inr hln)
      -- y = n, in the suite
      have suite : PSs (X.suite a ((a, o4) :: (X.pn ++ pins))) [.Assign [.Name yy p1] (.Name nn p2) p3, .Assign [.Name zz p4] e2 p6] (tSeq (tAsg (tVar i) (gName j)) (tAsg t2 (gName l))) :=
        pss_cons (ps_set (X := X.suite a ((a, o4) :: (X.pn ++ pins))) hN hj hly (pe_var (X := X.suite a ((a, o4) :: (X.pn ++ pins))) hi (.inl hln) hd1 hd2) rfl hfy) (pss_one (ps_set (X := X.suite a ((a, o4) :: (X.pn ++ pins))) hN hl hlz (h2 _ rfl) (hw2 _) hfz))
      have hil : i < σ'.length := by
        rw [J.len]
        exact (List.getElem?_eq_some_iff.mp hi).1
      refine wpAny_mono (suite.run [] s5 _ H' { nx := fun σ6 H6 => ∃ v, σ6 = ((σ'.set i (some (.ref a))).set j (some (.ref a))).set l (some v) ∧ (H6 a = none → D.nx ((((σ'.set i (some (.ref a))).set j (some (.ref a))).set l (some v)).set i none) (upd H6 a (ExV cls d a))), rt := fun _ _ => False } S5 ⟨.ref a, List.getElem?_set_self hil, hm2 _ _ _ _ (fun v H6 h6 => ⟨v, rfl, h6⟩) (hyes rfl a na)⟩) (fun f s6 hsp => ?_) (fun _ _ z => False.elim z)
      cases f with
      | next =>
        obtain ⟨σ6, H6, S6, v, rfl, hnx⟩ := hsp
        have na6 : H6 a = none := (S6.pin (a, o4) (List.mem_append_left _ List.mem_cons_self)).2.1
        have J6 : L2.Inv X ((a, o4) :: pins) _ H6 s6 := (S6.unsuite ok).pins_of fun p hp => by
          rcases List.mem_cons.mp hp with rfl | hp
          · obtain ⟨q1, q2, q3, q4, q5⟩ := S6.pin (a, o4) (List.mem_append_left _ List.mem_cons_self)
            exact ⟨q1, q2, q3, q4, q5⟩
          · obtain ⟨q1, q2, q3, q4, q5⟩ := S6.pin p (List.mem_append_left _ (List.mem_cons_of_mem _ (List.mem_append_right _ hp)))
            exact ⟨q1, q2, q3, q4, q5⟩
        refine gone_ok J6 hN hi hln fun s7 J7 => ?_
        exact ⟨_, _, inv_keep J7 hz4 hd4 n0 hex npin, hnx na6⟩
      | brk => obtain ⟨_, _, _, q⟩ := hsp; exact q.elim
      | cont => obtain ⟨_, _, _, q⟩ := hsp; exact q.elim
      | ret u => obtain ⟨_, _, _, _, _, q⟩ := hsp; exact q.elim
    | false =>
      show wpAny _ X.A (handleBy (.ref a) X.env []) _ _ _
      refine wpAny_handleBy_nil ?_
      obtain ⟨f1, f2, f3, oe, vs, T, oT, ts', he, hz, hdd, g1, hr⟩ := id fl3
      unfold PySem.passOn
      refine wpAny_bind (wpAny_field he hdd g1 ?_)
      rw [if_neg (show ¬ ((Value.ref T == Value.none) = true) by simp)]
      have fin : wpAny (model X.prog X.w) X.A (setFlight (.ref a) X.env.frame) (fun _ s4 => wpAny (model X.prog X.w) X.A (throw (.ref a) : Sem Flow) (SP X pins D) X.xe s4) X.xe { s' with heap := h3 } := by
        rw [hf]
        refine HandSPX.setFlight_upZ fl3 fun h4 hh4 up4 => wpAny_throw (tk _ _ ⟨a, B, sI, pins, σ', H', cls, d, rfl, J, nb, (up.trans up3).trans up4, .inr (.inr ?_), na, os, ag, hno rfl⟩)
        rw [hs]
        exact hh4
      first
        | exact wpAny_bind (wpAny_pure (wpAny_bind fin))
        | exact wpAny_bind fin
  refine wpAny_mono ((hb (wKeepG X.K c i j l t2 Wout D) (X.pn ++ pins) E1 tk1 PassesOwn.looking).run [] s σ H D (I.toTry _) h) (fun f s1 hsp => ?_) (fun _ _ he => he)
  cases f with
  | next =>
    obtain ⟨σ', H', J', q⟩ := hsp
    exact wpAny_execs_nil ⟨_, _, J'.ofTry ok, q⟩
  | brk =>
    obtain ⟨σ', H', J', q⟩ := hsp
    exact ⟨_, _, J'.ofTry ok, q⟩
  | cont =>
    obtain ⟨σ', H', J', q⟩ := hsp
    exact ⟨_, _, J'.ofTry ok, q⟩
  | ret u =>
    obtain ⟨v, σ', H', J', r, q⟩ := hsp
    exact ⟨_, _, _, J'.ofTry ok, r, q⟩
end
end Sd
namespace Sd
open PySem PySem.Spec PyProof.Rows L2
structure SC where
  N : List Str
  sc : Scope
  st : Str → Bool
  fns : List (Str × Nat)
  css : List (Str × Nat)
  cls : List (Str × Nat)
  rzs : List (Str × Nat) := []
  cal : Bool := false
def ixOf (x : Str) : List Str → Option Nat
  | [] => none
  | y :: r => if x = y then some 0 else (match ixOf x r with
    | some i => some (i + 1)
    | none => none)
theorem ixOf_get {x : Str} : ∀ {l : List Str} {i : Nat}, ixOf x l = some i → l[i]? = some x
  | [], _, h => by cases h
  | y :: r, i, h => by
    unfold ixOf at h
    split at h
    · rename_i e
      cases h
      simp [e]
    · split at h
      · rename_i j ej
        cases h
        simpa using ixOf_get ej
      · cases h
def plainN (x : Str) : Bool := !(x == ("__debug__" : Str)) && (!(x == ("__classdict__" : Str)) && !decide (x = "__name__"))
def isVis : Option NameKind → Bool
  | some .local => true
  | some .cell => true
  | some .free => true
  | _ => false
def isGlo : Option NameKind → Bool
  | some .globalImplicit => true
  | _ => false
def SC.look (c : SC) (x : Str) : Option NameKind := c.sc.names.lookup x
def SC.can (c : SC) (x : Str) : Bool := match c.look x with
  | some .local => true
  | some .cell => c.st x
  | _ => false
def biTab : List (Str × Nat × BI) := [("abs", 1, .abs), ("len", 1, .len), ("int", 1, .int), ("min", 1, .min1), ("max", 1, .max1), ("sum", 1, .sum), ("all", 1, .all), ("any", 1, .any), ("list", 1, .list), ("tuple", 1, .tuple), ("str", 1, .str), ("sorted", 1, .sorted), ("min", 2, .min2), ("max", 2, .max2), ("divmod", 2, .divmod)]
def biOf (x : Str) (n : Nat) : Option BI := match biTab.find? fun t => decide (t.1 = x) && t.2.1 == n with
  | some t => some t.2.2
  | none => none
theorem biTab_ok : ∀ t, t ∈ biTab → biX t.2.2 = t.1 := by decide +kernel
theorem biOf_x {x : Str} {n : Nat} {b : BI} (h : biOf x n = some b) : biX b = x := by
  unfold biOf at h
  split at h
  · rename_i t e
    cases h
    have h1 := List.find?_some e
    have h2 := biTab_ok t (List.mem_of_find?_eq_some e)
    simp only [Bool.and_eq_true, decide_eq_true_eq] at h1
    rw [h2, h1.1]
  · cases h
def btX (x : Str) : Option String := if x = "int" then some "int" else if x = "bool" then some "bool" else if x = "tuple" then some "tuple" else if x = "list" then some "list" else if x = "str" then some "str" else if x = "dict" then some "dict" else if x = "ValueError" then some "ValueError" else none
def cTy (c : SC) : Expr → Option TyN
  | .Name x _ => if plainN x && isGlo (c.look x) then (match c.cls.lookup x with
    | some k => some (.cl k)
    | none => (match btX x with
      | some n => some (.bt n)
      | none => none)) else none
  | _ => none
def cTys (c : SC) : List Expr → Option (List TyN)
  | [] => some []
  | e :: es => match cTy c e, cTys c es with
    | some t, some ts => some (t :: ts)
    | _, _ => none
def meOf (x : Str) (n : Nat) : Option ME :=
  if n = 1 then (if x = "append" then some .append else if x = "extend" then some .extend else if x = "pop" then some .pop1 else if x = "count" then some .count else if x = "index" then some .index else if x = "remove" then some .remove else none)
  else if n = 2 then (if x = "insert" then some .insert else none)
  else if n = 0 then (if x = "pop" then some .pop0 else if x = "reverse" then some .reverse else if x = "clear" then some .clear else none) else none
def SC.blk (c : SC) (scope : Scope) : SC := { c with sc := relS scope c.sc, st := fun x => scope.names.lookup x == some .cell }
def ownOf (c : SC) (scope : Scope) : Option (List (Str × Nat)) := go scope.names
where
  go : List (Str × NameKind) → Option (List (Str × Nat))
    | [] => some []
    | (x, .local) :: r => (match ixOf x c.N, go r with
      | some i, some l => some ((x, i) :: l)
      | _, o => o)
    | (x, .cell) :: r => (match ixOf x c.N, go r with
      | some i, some l => some ((x, i) :: l)
      | _, o => o)
    | _ :: r => go r
def okSh : Expr → Bool
  | .Name .. | .Constant .. | .BinOp .. | .UnaryOp .. | .BoolOp .. | .IfExp .. | .Compare .. | .Tuple .. | .List .. | .Subscript .. | .Attribute .. | .ListComp .. | .Dict .. => true
  | .Call (.Name x _) [] [] _ => x != ("super" : Str)
  | .Call (.Name _ _) [] _ _ => false
  | .Call .. => true
  | _ => false
def smOf (x : Str) : Option SM := if x = "join" then some .join else if x = "split" then some .split else if x = "startswith" then some .starts else if x = "partition" then some .part else if x = "lstrip" then some .lstr else none
theorem smOf_x {x : Str} {m : SM} (h : smOf x = some m) : smX m = x := by
  unfold smOf at h
  repeat (split at h; · rename_i e; cases h; exact e.symm)
  cases h
def isFld (f : Str) : Bool := decide (f = "fault") || (decide (f = "at") || decide (f = "name"))
def isComp : Expr → Bool
  | .ListComp .. => true
  | _ => false
def isSlice : Expr → Bool
  | .Slice .. => true
  | _ => false
def isTup : Expr → Bool
  | .Tuple .. => true
  | _ => false
def tgOk : I → Expr → Bool
  | .zip _ _, e => isTup e
  | .enm _, e => isTup e
  | .zip3 _ _ _, e => isTup e
  | _, _ => true
def chkT (tg : Expr) : Option I → Option I
  | some it => if tgOk it tg then some it else none
  | none => none
def stK : Expr → Option Int
  | .UnaryOp .USub (.Constant (.int i) _ _) _ => some (-i)
  | .Constant (.int i) _ _ => some i
  | _ => none
def loK : Option Expr → Option (Option Int)
  | none => some none
  | some (.Constant (.int i) _ _) => some (some i)
  | _ => none
def stOf : Expr → Option (Option Int × Int)
  | .Slice lo none (some k) _ => (match loK lo, stK k with
    | some l, some j => some (l, j)
    | _, _ => none)
  | _ => none
def rvOf : Expr → Bool
  | .Slice none (some h) (some k) _ => decide (loK (some h) = some (some 0)) && decide (stK k = some (-1))
  | _ => false
def o2 {α β γ : Type} (f : α → β → γ) : Option α → Option β → Option γ
  | some a, some b => some (f a b)
  | _, _ => none
def o3 {α β γ δ : Type} (f : α → β → γ → δ) : Option α → Option β → Option γ → Option δ
  | some a, some b, some c => some (f a b c)
  | _, _, _ => none
def o1 {α β : Type} (f : α → β) : Option α → Option β
  | some a => some (f a)
  | none => none
def plainC (k : Nat) : Bool := !(k == 4 || (k == 15 || k == 17))
def cMk (c : SC) (x : Str) (args : List Expr) (hd : Option X) : Option X := if args.length = 1 then (match c.rzs.lookup x with
    | some k => o1 (X.mke k true) hd
    | none => (match c.cls.lookup x with
      | some k => if plainC k then o1 (X.mke k false) hd else none
      | none => none)) else none
def cCall (c : SC) (x : Str) (args : List Expr) (xs : Option (List X)) (hd : Option X) : Option X := if plainN x && isGlo (c.look x) then (match c.fns.lookup x with
    | some k => if args.isEmpty then (if x != ("super" : Str) then some (.fn k []) else none) else o1 (X.fn k) xs
    | none => if x = "isinstance" then (match args with
      | [_, t] => (match cTy c t with
        | some ty => o1 (fun y => X.isi y [ty]) hd
        | none => (match t with
          | .Tuple ts _ _ => (match cTys c ts with
            | some (t1 :: tr) => if ts.length ≤ 100 then o1 (fun y => X.isi y (t1 :: tr)) hd else none
            | _ => none)
          | _ => none))
      | _ => none) else (match biOf x args.length with
        | some b => if args.isEmpty then none else o1 (X.bi b) xs
        | none => cMk c x args hd)) else if plainN x && (isVis (c.look x) && (c.cal && !args.isEmpty)) then (match ixOf x c.N with
      | some i => o1 (X.cal i) xs
      | none => none) else none
def cSub (a : Option X) (s : Option (X × X)) (i : Option X) : Option X := match s with
  | some p => o1 (fun y => X.sl y p.1 p.2) a
  | none => o2 X.ix a i
def dKey : List (Option Expr) → Option Int
  | [some (.Constant (.int i) _ _)] => some i
  | _ => none
mutual
def cE (c : SC) : Expr → Option X
  | .Name x _ => if plainN x then (if isVis (c.look x) then (match ixOf x c.N with
      | some i => some (.var i)
      | none => none) else if isGlo (c.look x) then (match c.css.lookup x with
      | some k => some (.g k)
      | none => (match c.fns.lookup x with
        | some _ => some (.c (.ty x))
        | none => none)) else none) else none
  | .Constant v _ _ => (match v with
    | .int i => some (.c (.int i))
    | .bool b => some (.c (.bl b))
    | .none => some (.c .non)
    | .str x => some (.c (.str x))
    | _ => none)
  | .BinOp a o b _ => o2 (X.op o) (cE c a) (cE c b)
  | .UnaryOp .Not a _ => o1 X.no (cE c a)
  | .UnaryOp .USub a _ => o1 X.neg (cE c a)
  | .BoolOp o es _ => cB c o es
  | .IfExp t a b _ => o3 X.ite (cE c t) (cE c a) (cE c b)
  | .Compare a [o] [b] _ => o2 (X.cmp o) (cE c a) (cE c b)
  | .Compare a [o, o'] [b, d] _ => o3 (X.chain o o') (cE c a) (cE c b) (cE c d)
  | .Tuple es _ _ => o1 X.tp (cEs c es)
  | .List es _ => o1 X.ls (cEs c es)
  | .Subscript a i _ => (match stOf i with
    | some q => o1 (fun x => X.st x q.1 q.2) (cE c a)
    | none => if rvOf i then o1 X.rv1 (cE c a) else cSub (cE c a) (cSl c i) (cE c i))
  | .Dict ks vs _ => if ks.isEmpty && vs.isEmpty then some .dc else (match dKey ks with
    | some i => if decide (vs.length = 1) then o1 (X.d1 i) (cHd c vs) else none
    | none => none)
  | .Call (.Name x _) args [] _ => (match cSet c x args with
    | some r => some r
    | none => cCall c x args (cEs c args) (cHd c args))
  | .Call (.Attribute o m ap) args [] p => (match meOf m args.length with
    | some me => if ap.endLine == p.line then o2 (X.me me) (cE c o) (cEs c args) else none
    | none => if decide (m = "get") && (decide (args.length = 1) && (ap.endLine == p.line)) then o2 X.dgt (cE c o) (cHd c args) else if decide (m = "setdefault") && (decide (args.length = 2) && (ap.endLine == p.line)) then o2 X.dsd (cE c o) (cEs c args) else (match smOf m with
      | some sm => if decide (args.length = 1) && (ap.endLine == p.line) then o2 (X.sm sm) (cE c o) (cHd c args) else none
      | none => none))
  | .Call (.Name x _) args [⟨some nm, dv, _⟩] _ => if decide (x = "min") && (decide (nm = "default") && (decide (args.length = 1) && (plainN x && isGlo (c.look x)))) then o2 X.mnd (cHd c args) (cE c dv) else none
  | .Attribute o f _ => if isFld f then o1 (X.fld f) (cE c o) else none
  | .ListComp elt [⟨tg, iter, ifs, 0⟩] scope _ => (match ownOf c scope with
    | some own => if blkC c.N c.sc scope own then (match cE (c.blk scope) elt, cT (c.blk scope) (own.map (·.2)) tg, chkT tg (match cR c iter with
        | some it => some it
        | none => o1 I.e (cE c iter)), cIfs (c.blk scope) ifs with
      | some e, some t, some it, some cond => some (.lc e t it cond (own.map (·.2)))
      | _, _, _, _ => none) else none
    | none => none)
  | _ => none
/-- len(set(e)), list(range(e)) -/
def cSet (c : SC) (x : Str) : List Expr → Option X
  | [] => none
  | e :: es => if es.isEmpty then (if x = "len" then cSt c e else if x = "list" then cLr c e else if x = "sorted" then cSs c e else none) else none
def cSt (c : SC) : Expr → Option X
  | .Call (.Name y _) args [] _ => if y = "set" then (if isGlo (c.look "len") && isGlo (c.look y) then (match args with
      | [a] => o1 X.sz (cE c a)
      | _ => none) else none) else none
  | _ => none
def cSs (c : SC) : Expr → Option X
  | .Call (.Name y _) args [] _ => if y = "set" then (if isGlo (c.look "sorted") && isGlo (c.look y) then (match args with
      | [a] => o1 X.sset (cE c a)
      | _ => none) else none) else none
  | _ => none
def cLr (c : SC) : Expr → Option X
  | .Call (.Name y _) args [] _ => if y = "range" then (if isGlo (c.look "list") && isGlo (c.look y) then (match args with
      | [a] => o1 X.lrg (cE c a)
      | _ => none) else none) else none
  | _ => none
def cB (c : SC) (o : BoolOp) : List Expr → Option X
  | [] => none
  | [e] => cE c e
  | e :: e' :: es => (match o with
    | .And => o2 X.an (cE c e) (cB c o (e' :: es))
    | .Or => o2 X.ro (cE c e) (cB c o (e' :: es)))
def cEs (c : SC) : List Expr → Option (List X)
  | [] => some []
  | e :: es => o2 (fun x xs => x :: xs) (cE c e) (cEs c es)
def cSl (c : SC) : Expr → Option (X × X)
  | .Slice lo hi none _ => o2 Prod.mk (cO c lo) (cO c hi)
  | _ => none
def cHd (c : SC) : List Expr → Option X
  | [] => none
  | e :: _ => cE c e
def cO (c : SC) : Option Expr → Option X
  | none => some (.c .non)
  | some e => o1 X.aI (cE c e)
def cIfs (c : SC) : List Expr → Option X
  | [] => some (.c (.bl true))
  | [e] => cE c e
  | _ => none
/-- targets, all slots among sl -/
def cT (c : SC) (sl : List Nat) : Expr → Option T
  | .Name x _ => if c.can x then (match ixOf x c.N with
    | some i => if sl.contains i then some (.nm i) else none
    | none => none) else none
  | .Tuple ts _ _ => o1 T.tp (cTs c sl ts)
  | .Subscript o i _ => if isSlice i then none else o2 T.ix (cE c o) (cE c i)
  | _ => none
def cTs (c : SC) (sl : List Nat) : List Expr → Option (List T)
  | [] => some []
  | e :: es => o2 (fun x xs => x :: xs) (cT c sl e) (cTs c sl es)
/-- a range -/
def cR (c : SC) : Expr → Option I
  | .Call (.Name x _) args [] _ => if x = "range" then (if plainN x && (isGlo (c.look x) && (c.fns.lookup x).isNone) then (match args with
      | [b] => o1 I.rng1 (cE c b)
      | [a, b] => o2 I.rng2 (cE c a) (cE c b)
      | [a, b, d] => o3 I.rng3 (cE c a) (cE c b) (cE c d)
      | _ => none) else none) else if x = "zip" then (if plainN x && (isGlo (c.look x) && (c.fns.lookup x).isNone) then (match args with
      | [a, b] => o2 I.zip (cE c a) (cE c b)
      | [a, b, d] => o3 I.zip3 (cE c a) (cE c b) (cE c d)
      | _ => none) else none) else if x = "enumerate" then (if plainN x && (isGlo (c.look x) && (c.fns.lookup x).isNone) then (match args with
      | [a] => o1 I.enm (cE c a)
      | _ => none) else none) else none
  | _ => none
end
def cI (c : SC) (tg e : Expr) : Option I := chkT tg (match cR c e with
  | some it => some it
  | none => o1 I.e (cE c e))
theorem chkT_some {tg : Expr} {o : Option I} {it : I} (h : chkT tg o = some it) : o = some it ∧ tgOk it tg = true := by
  cases o with
  | none => cases h
  | some i =>
    unfold chkT at h
    dsimp only at h
    split at h
    · rename_i hk
      cases h
      exact ⟨rfl, hk⟩
    · cases h
end Sd
namespace Sd
open PySem PySem.Spec PyProof.Rows L2
def bltAll : List Str := ["abs", "len", "int", "min", "max", "sum", "all", "any", "list", "tuple", "isinstance", "range", "bool", "str", "dict", "ValueError", "zip", "sorted", "enumerate", "set", "divmod", "reversed"]
def IniOk (P : Program) (w : World) (K : PySem.W.Frag) (mg : Str → Option Value) (base : Heap) (k : Nat) : Prop := Kn K k ∧ mg (clsN k) = some (.ref (gaK K (clsN k))) ∧ ∃ fI fd ps, OexC K (gaK K (clsN k)) ∧ PySem.W.findIn K (.ref (gaK K (clsN k))) "__init__" = some (some (.ref fI)) ∧ PySem.W.typeIn K (.ref fI) = some (.type "function") ∧
  FnOk P w K mg base (L2.CX P w) 1 fI fd ps (spI (gaK K (clsN k)) (fldN k)) ∧ Binds K fd ps []
structure Fx (Γ : Gam) (lev : Nat) (c : SC) (P : Program) (w : World) (K : PySem.W.Frag) (mg : Str → Option Value) (base : Heap) : Prop where
  fn : ∀ x k, c.fns.lookup x = some k → ∃ fd ps, mg x = some (.ref (gaK K x)) ∧ PySem.W.keepIn K (.ref (gaK K x)) = true ∧ Binds K fd ps [] ∧ FnOk P w K mg base (L2.CX P w) lev (gaK K x) fd ps (spOf K (Γ.ar k) (Γ.fn k))
  nm : c.cal = true → ∀ x k, Γ.nm x = some k → ∃ fd ps, PySem.W.keepIn K (.ref (gaK K x)) = true ∧ Binds K fd ps [] ∧ FnOk P w K mg base (L2.CX P w) lev (gaK K x) fd ps (spOf K (Γ.ar k) (Γ.fn k))
  cst : ∀ x k d, c.css.lookup x = some k → Γ.cst k = some d → ∃ v u, mg x = some u ∧ RelV v u ∧ ∀ H, Rp K H d v
  blt : ∀ x, x ∈ bltAll → mg x = none
  cls : ∀ x k, c.cls.lookup x = some k → clsN k = x ∧ Kn K k ∧ mg x = some (.ref (gaK K x))
  cfs : CFs K
  rz : ∀ x k, c.cls.lookup x = some k → plainC k = true → PySem.W.excIn K (gaK K (clsN k)) [.type "ValueError", .type "Exception", .type "BaseException", .type "object"] "ValueError.__new__" = true ∧ PySem.W.keepIn K (.ref (gaK K (clsN k))) = true ∧
    PySem.W.subIn K (.ref (gaK K (clsN k))) (.type "BaseException") = some true ∧ PySem.W.typeIn K (.ref (gaK K (clsN k))) = some (.type "type")
  ini : ∀ x k, c.rzs.lookup x = some k → clsN k = x ∧ IniOk P w K mg base k
structure XOk (Γ : Gam) (lev : Nat) (c : SC) (X : Cx) : Prop where
  N : X.N = c.N
  nd : c.N.Nodup
  sc : X.env.scope = c.sc
  fn : ∀ x, c.st x = true → X.fn x = true
  calm : X.calm = true
  room : Room lev X.A
  F : Fx Γ lev c X.prog X.w X.K X.mg X.base
section
variable {Γ : Gam} {lev : Nat} {c : SC} {X : Cx} {Wh : WX}
theorem Fx.blk {P : Program} {w : World} {K : PySem.W.Frag} {mg : Str → Option Value} {base : Heap} (h : Fx Γ lev c P w K mg base) (scope : Scope) : Fx Γ lev (c.blk scope) P w K mg base := ⟨h.fn, h.nm, h.cst, h.blt, h.cls, h.cfs, h.rz, h.ini⟩
theorem XOk.units (h : XOk Γ lev c X) (hl : 2 ≤ lev) : X.A.units + 65 < cLine := by
  have := h.room.un
  omega
theorem XOk.gl (h : XOk Γ lev c X) {x : Str} (e : isGlo (c.look x) = true) : Gl X x := by
  unfold Gl Env.kindOf
  rw [h.sc]
  unfold SC.look at e
  cases q : c.sc.names.lookup x with
  | none => rw [q] at e; cases e
  | some k =>
    rw [q] at e
    cases k <;> first | rfl | cases e
theorem XOk.vis (h : XOk Γ lev c X) {x : Str} (e : isVis (c.look x) = true) : L2.Vis X.env.scope x := by
  unfold L2.Vis
  rw [h.sc]
  unfold SC.look at e
  cases q : c.sc.names.lookup x with
  | none => rw [q] at e; cases e
  | some k =>
    rw [q] at e
    cases k <;> first | exact .inl rfl | exact .inr (.inl rfl) | exact .inr (.inr rfl) | cases e
theorem XOk.can (h : XOk Γ lev c X) {x : Str} (e : c.can x = true) : L2.Loc X.env.scope x ∧ (X.fn x = true ∨ X.env.scope.names.lookup x = some .local) := by
  unfold L2.Loc
  rw [h.sc]
  unfold SC.can SC.look at e
  cases q : c.sc.names.lookup x with
  | none => rw [q] at e; cases e
  | some k =>
    rw [q] at e
    cases k with
    | «local» => exact ⟨.inl rfl, .inr rfl⟩
    | cell => exact ⟨.inr rfl, .inl (h.fn x e)⟩
    | _ => cases e
theorem plain_parts {x : Str} (h : plainN x = true) : (x == ("__debug__" : Str)) = false ∧ (x == ("__classdict__" : Str)) = false ∧ x ≠ "__name__" := by
  unfold plainN at h
  simp only [Bool.and_eq_true, Bool.not_eq_true', decide_eq_false_iff_not] at h
  exact ⟨h.1, h.2.1, h.2.2⟩
theorem sh_star {e : Expr} (h : okSh e = true) (es : List Expr) (env : Env) : starEach (e :: es) env = (false, eval e env) :: starEach es env := by
  cases e <;> first | rfl | cases h
theorem attr_base0 {id attr : Str} {p pos : Pos} {env : Env} {whole : Sem Value} (h : (id != ("super" : Str)) = true) : attributeBase (.Call (.Name id p) [] [] pos) attr env whole = whole := by
  unfold attributeBase
  cases q : (id == ("super" : Str)) with
  | true =>
    unfold bne at h
    rw [q] at h
    cases h
  | false =>
    have q' : id ≠ ("super" : Str) := by simpa using q
    simp [q, q']
theorem sh_base {e : Expr} (h : okSh e = true) (n : Str) (env : Env) : attributeBase e n env (eval e env) = eval e env := by
  cases e <;> first
    | rfl
    | (cases h; done)
    | skip
  rename_i f args kw pos
  cases f <;> first
    | rfl
    | skip
  cases args with
  | nil =>
    cases kw with
    | nil =>
      have h' : (_ != ("super" : Str)) = true := h
      exact attr_base0 h'
    | cons => cases h
  | cons => rfl
theorem sh_fold {e : Expr} (h : okSh e = true) (env : Env) : ∀ x, foldedSetIterable e env x = pure x := by
  intro x
  cases e <;> first | rfl | cases h
theorem sh_in {e : Expr} (h : okSh e = true) (o : CmpOp) : behindInMarks o e = false := by
  cases e <;> first | rfl | cases h
theorem sh_ix {e : Expr} (h : okSh e = true) : PlainIx e := by
  intro o i
  cases e <;> first | rfl | cases h
theorem sh_sw {e : Expr} (h : okSh e = true) (hc : isComp e = false) (t : Option Expr) (l : Nat) (env : Env) : swapsWith e t l env = pure false := by
  cases e <;> first | rfl | (cases h; done) | (cases hc; done)
theorem any_back {pos : Pos} : ∀ {l : List (Bool × Sem Value)}, (∀ p, p ∈ l → p.1 = false) → (backTo pos l).any (·.1) = false
  | [], _ => rfl
  | p :: l, h => by
    have h1 := h p List.mem_cons_self
    have h2 := any_back (pos := pos) fun q hq => h q (List.mem_cons_of_mem _ hq)
    unfold backTo at h2 ⊢
    rw [List.map_cons, List.any_cons, h2]
    simp [h1]
theorem all_back {pos : Pos} : ∀ {l : List (Bool × Sem Value)}, (∀ p, p ∈ l → p.1 = false) → (backTo pos l).all (fun x => !x.1) = true
  | [], _ => rfl
  | p :: l, h => by
    have h1 := h p List.mem_cons_self
    have h2 := all_back (pos := pos) fun q hq => h q (List.mem_cons_of_mem _ hq)
    unfold backTo at h2 ⊢
    rw [List.map_cons, List.all_cons, h2]
    simp [h1]
theorem star_no {env : Env} : ∀ {es : List Expr}, es.all okSh = true → ∀ p, p ∈ starEach es env → p.1 = false
  | [], _, p, h => by cases h
  | e :: es, ho, p, h => by
    rw [List.all_cons, Bool.and_eq_true] at ho
    rw [sh_star ho.1] at h
    rcases List.mem_cons.mp h with rfl | h
    · rfl
    · exact star_no ho.2 p h
structure EOk (Γ : Gam) (lev : Nat) (c : SC) (e : Expr) (x : Sd.X) : Prop where
  sh : okSh e = true
  pe : ∀ X Wh, XOk Γ lev c X → Takes X Wh → PE X e (LE X.K Wh (wE Γ x))
  pt : ∀ X Wh, XOk Γ lev c X → Takes X Wh → PT X e (LT X.K Wh (aTru (wE Γ x)))
theorem EOk.plain {e : Expr} {x : Sd.X} (sh : okSh e = true) (he : ∀ env whole, isTrue e env whole = (do let v ← whole; standAt e.pos; holding [v] (truthy v))) (pe : ∀ X Wh, XOk Γ lev c X → Takes X Wh → PE X e (LE X.K Wh (wE Γ x))) : EOk Γ lev c e x :=
  ⟨sh, pe, fun X Wh ok tk => l_test (pe X Wh ok tk) (he X.env)⟩
theorem cTy_ok {e : Expr} {t : TyN} (h : cTy c e = some t) (ok : XOk Γ lev c X) : ClsE X e t := by
  cases e <;> (try (cases h; done))
  rename_i x pos
  simp only [cTy] at h
  split at h
  · rename_i hp
    rw [Bool.and_eq_true] at hp
    obtain ⟨p1, p2, p3⟩ := plain_parts hp.1
    have hg := ok.gl hp.2
    split at h
    · rename_i k ek
      cases h
      obtain ⟨z1, z2, z3⟩ := ok.F.cls x k ek
      subst z1
      exact ⟨.ref (gaK X.K (clsN k)), _, pe_glob hg z3 rfl p1, ⟨z2, rfl, rfl⟩, fun es => rfl⟩
    · split at h
      · rename_i n en
        cases h
        have key : x ∈ bltAll ∧ bootBuiltins x = some (.type n) ∧ n ∈ btNames := by
          unfold btX at en
          by_cases h1 : x = "int"
          · subst h1; cases en; exact ⟨by decide, by decide +kernel, by decide⟩
          rw [if_neg h1] at en
          by_cases h2 : x = "bool"
          · subst h2; cases en; exact ⟨by decide, by decide +kernel, by decide⟩
          rw [if_neg h2] at en
          by_cases h3 : x = "tuple"
          · subst h3; cases en; exact ⟨by decide, by decide +kernel, by decide⟩
          rw [if_neg h3] at en
          by_cases h4 : x = "list"
          · subst h4; cases en; exact ⟨by decide, by decide +kernel, by decide⟩
          rw [if_neg h4] at en
          by_cases h5 : x = "str"
          · subst h5; cases en; exact ⟨by decide, by decide +kernel, by decide⟩
          rw [if_neg h5] at en
          by_cases h6 : x = "dict"
          · subst h6; cases en; exact ⟨by decide, by decide +kernel, by decide⟩
          rw [if_neg h6] at en
          by_cases h7 : x = "ValueError"
          · subst h7; cases en; exact ⟨by decide, by decide +kernel, by decide⟩
          rw [if_neg h7] at en
          cases en
        exact ⟨.ty n, .type n, pe_bltn hg (ok.F.blt x key.1) key.2.1 rfl p3 p1, ⟨key.2.2, rfl, rfl⟩, fun es => rfl⟩
      · cases h
  · cases h
theorem cTys_ok : ∀ {es : List Expr} {ts : List TyN}, cTys c es = some ts → XOk Γ lev c X → ∃ cs us, ClsEs X es ts cs us
  | [], _, h, _ => by
    cases h
    exact ⟨[], [], .nil⟩
  | e :: es, ts, h, ok => by
    simp only [cTys] at h
    split at h
    · rename_i t tr e1 e2
      cases h
      obtain ⟨cv, u, h1, h2, h3⟩ := cTy_ok e1 ok
      obtain ⟨cs, us, h4⟩ := cTys_ok e2 ok
      exact ⟨cv :: cs, u :: us, .cons h1 h2 (h3 es) h4⟩
    · cases h
theorem o1_some {α β : Type} {f : α → β} {o : Option α} {y : β} (h : o1 f o = some y) : ∃ a, o = some a ∧ y = f a := by
  cases o with
  | none => cases h
  | some a => exact ⟨a, rfl, (Option.some.inj h).symm⟩
theorem o2_some {α β γ : Type} {f : α → β → γ} {o : Option α} {p : Option β} {y : γ} (h : o2 f o p = some y) : ∃ a b, o = some a ∧ p = some b ∧ y = f a b := by
  cases o with
  | none => cases h
  | some a =>
    cases p with
    | none => cases h
    | some b => exact ⟨a, b, rfl, rfl, (Option.some.inj h).symm⟩
theorem o3_some {α β γ δ : Type} {f : α → β → γ → δ} {o : Option α} {p : Option β} {q : Option γ} {y : δ} (h : o3 f o p q = some y) : ∃ a b d, o = some a ∧ p = some b ∧ q = some d ∧ y = f a b d := by
  cases o with
  | none => cases h
  | some a =>
    cases p with
    | none => cases h
    | some b =>
      cases q with
      | none => cases h
      | some d => exact ⟨a, b, d, rfl, rfl, rfl, (Option.some.inj h).symm⟩
theorem me_ok (hu : X.A.units + 65 < cLine) {x : Str} {n : Nat} {m : ME} (h : meOf x n = some m) : ∃ r, Slot "list" x (meId m) ∧ typeOf (.builtin (meId m)) = pure (.type "method_descriptor") ∧ MtR X (meId m) r ∧ MeAbs X.K r (meS m) := by
  unfold meOf at h
  split at h
  · by_cases h1 : x = "append"
    · rw [if_pos h1] at h; cases h; subst h1
      exact ⟨_, PySem.F.slot_list_append, PySem.F.type_list_append, mt_append, me_append⟩
    · rw [if_neg h1] at h
      by_cases h2 : x = "extend"
      · rw [if_pos h2] at h; cases h; subst h2
        exact ⟨_, PySem.F.slot_list_extend, PySem.F.type_list_extend, mt_extend, me_extend⟩
      rw [if_neg h2] at h
      by_cases h3 : x = "pop"
      · rw [if_pos h3] at h; cases h; subst h3
        exact ⟨_, PySem.F.slot_list_pop, PySem.F.type_list_pop, mt_popAt, me_pop1⟩
      rw [if_neg h3] at h
      by_cases h4 : x = "count"
      · rw [if_pos h4] at h; cases h; subst h4
        exact ⟨_, PySem.F.slot_list_count, PySem.F.type_list_count, mt_countF, me_count⟩
      rw [if_neg h4] at h
      by_cases h5 : x = "index"
      · rw [if_pos h5] at h; cases h; subst h5
        exact ⟨_, PySem.F.slot_list_index, PySem.F.type_list_index, MtR.or mt_index (mt_indexD hu), me_index⟩
      rw [if_neg h5] at h
      by_cases h6 : x = "remove"
      · rw [if_pos h6] at h; cases h; subst h6
        exact ⟨_, PySem.F.slot_list_remove, PySem.F.type_list_remove, mt_removeD hu, me_remove⟩
      rw [if_neg h6] at h; cases h
  · split at h
    · by_cases h1 : x = "insert"
      · rw [if_pos h1] at h; cases h; subst h1
        exact ⟨rInsert, PySem.F.slot_list_insert, PySem.F.type_list_insert, mt_insert, me_insert⟩
      · rw [if_neg h1] at h; cases h
    split at h
    · by_cases h1 : x = "pop"
      · rw [if_pos h1] at h; cases h; subst h1
        exact ⟨_, PySem.F.slot_list_pop, PySem.F.type_list_pop, mt_pop, me_pop0⟩
      rw [if_neg h1] at h
      by_cases h2 : x = "reverse"
      · rw [if_pos h2] at h; cases h; subst h2
        exact ⟨_, PySem.F.slot_list_reverse, PySem.F.type_list_reverse, mt_reverse, me_reverse⟩
      rw [if_neg h2] at h
      by_cases h3 : x = "clear"
      · rw [if_pos h3] at h; cases h; subst h3
        exact ⟨_, PySem.F.slot_list_clear, PySem.F.type_list_clear, mt_clear, me_clear⟩
      rw [if_neg h3] at h
      cases h
    · cases h
end
end Sd
namespace Sd
open PySem PySem.Spec PyProof.Rows L2
section
variable {Γ : Gam} {lev : Nat} {X : Cx} {Wh : WX}
theorem takes_blk {X : Cx} {s : Shared} {H : Hp} {scope : Scope} {cenv : Env} {fp : List Addr} : Takes (X.blk s H scope cenv fp) (fun _ _ _ _ => False) := fun _ _ x => by
  obtain ⟨_, _, _, _, _, _, _, _, _, _, _, _, _, _, _, _, z⟩ := x
  exact z.elim
theorem XOk.blk {c : SC} (ok : XOk Γ lev c X) (scope : Scope) (s : Shared) (H : Hp) (C : Addr) (cl : List (Str × Addr)) (fp : List Addr) : XOk Γ lev (c.blk scope) (X.blk s H scope (compEnvC scope cl C X.env) fp) where
  N := ok.N
  nd := ok.nd
  sc := by
    show relabel scope X.env = relS scope c.sc
    rw [← ok.sc]
    rfl
  fn := fun x h => h
  calm := ok.calm
  room := ok.room
  F := ok.F.blk scope
def BOk (Γ : Gam) (lev : Nat) (c : SC) (o : BoolOp) (es : List Expr) (x : Sd.X) : Prop := ∀ X Wh pos, XOk Γ lev c X → Takes X Wh → PE X (.BoolOp o es pos) (LE X.K Wh (wE Γ x)) ∧ PW X (.BoolOp o es pos) (LT X.K Wh (aTru (wE Γ x)))
def AOk (Γ : Gam) (lev : Nat) (c : SC) (es : List Expr) (xs : List Sd.X) : Prop := es.all okSh = true ∧ ∀ X Wh, XOk Γ lev c X → Takes X Wh → PA X es (LA X.K Wh (wEs Γ xs))
def OOk (Γ : Gam) (lev : Nat) (c : SC) (o : Option Expr) (x : Sd.X) : Prop := ∀ X Wh, XOk Γ lev c X → Takes X Wh → PO X o (LO X.K Wh (wE Γ x))
def IfOk (Γ : Gam) (lev : Nat) (c : SC) (es : List Expr) (x : Sd.X) : Prop := ∀ X Wh, XOk Γ lev c X → Takes X Wh → PTs X es (LT X.K Wh (aTru (wE Γ x)))
def TOk (Γ : Gam) (lev : Nat) (c : SC) (sl : List Nat) (e : Expr) (t : T) : Prop := (∀ es env, (assignEach (e :: es) env) = (false, assign e env) :: assignEach es env) ∧ ∀ X Wh, XOk Γ lev c X → Takes X Wh → PG X e (LG X.K Wh sl (wT Γ t))
def TsOk (Γ : Gam) (lev : Nat) (c : SC) (sl : List Nat) (es : List Expr) (ts : List T) : Prop := (∀ env, (assignEach es env).length = ts.length ∧ (assignEach es env).findIdx? (·.1) = none) ∧ ∀ X Wh, XOk Γ lev c X → Takes X Wh → PGs X es (LGs X.K Wh sl (wTs Γ ts))
def IOk (Γ : Gam) (lev : Nat) (c : SC) (e : Expr) (it : I) : Prop := okSh e = true ∧ ∀ X Wh tg, tgOk it tg = true → XOk Γ lev c X → Takes X Wh → PI X tg e (LI X.K Wh (wI Γ it))
theorem i_of {c : SC} {e : Expr} {x : Sd.X} (h : EOk Γ lev c e x) : IOk Γ lev c e (.e x) := ⟨h.sh, fun X Wh tg _ ok tk => i_seq (h.pe X Wh ok tk)⟩
theorem ifs_nil {c : SC} : IfOk Γ lev c [] (.c (.bl true)) := fun X Wh ok tk => by
  have h := pts_nil (X := X)
  refine ⟨fun pins s σ H Q I hw => h.run pins s σ H Q I ?_⟩
  obtain ⟨ρ, S, W, P, se, wl, pl, hw⟩ := hw
  exact pl true S hw H (Kp.refl H) se.sto
theorem ifs_one {c : SC} {e : Expr} {x : Sd.X} (h : EOk Γ lev c e x) : IfOk Γ lev c [e] x := fun X Wh ok tk => pts_one (h.pt X Wh ok tk)
theorem e_lc {c : SC} {elt tg iter : Expr} {ifs : List Expr} {scope : Scope} {pos : Pos} {own : List (Str × Nat)} {e cond : Sd.X} {t : T} {it : I} (hb : blkC c.N c.sc scope own = true) (he : EOk Γ lev (c.blk scope) elt e) (ht : TOk Γ lev (c.blk scope) (own.map (·.2)) tg t) (hi : IOk Γ lev c iter it) (hk : tgOk it tg = true) (hf : IfOk Γ lev (c.blk scope) ifs cond) :
    EOk Γ lev c (.ListComp elt [⟨tg, iter, ifs, 0⟩] scope pos) (.lc e t it cond (own.map (·.2))) :=
  EOk.plain rfl (fun _ _ => rfl) fun X Wh ok tk => by
    have bo : BlkOk X.N X.env.scope scope own := by
      rw [ok.N, ok.sc]
      exact blkOk_by hb
    exact l_lc ok.calm (by rw [ok.N]; exact ok.nd) (hi.2 X Wh tg hk ok tk) bo (fun s H C cl fp => ht.2 _ _ (ok.blk scope s H C cl fp) takes_blk) (fun s H C cl fp => hf _ _ (ok.blk scope s H C cl fp) takes_blk) (fun s H C cl fp => he.pe _ _ (ok.blk scope s H C cl fp) takes_blk) (sh_fold hi.1 X.env)
theorem e_bool {c : SC} {o : BoolOp} {es : List Expr} {x : Sd.X} {pos : Pos} (h : BOk Γ lev c o es x) : EOk Γ lev c (.BoolOp o es pos) x := ⟨rfl, fun X Wh ok tk => (h X Wh pos ok tk).1, fun X Wh ok tk => (h X Wh pos ok tk).2.pt⟩
theorem b_one {c : SC} {o : BoolOp} {e : Expr} {x : Sd.X} (h : EOk Γ lev c e x) : BOk Γ lev c o [e] x := fun X Wh pos ok tk => ⟨pe_one (h.pe X Wh ok tk), by
  cases o with
  | And => exact pw_and1 (h.pt X Wh ok tk)
  | Or => exact pw_or1 (h.pt X Wh ok tk)⟩
theorem b_an {c : SC} {e e' : Expr} {es : List Expr} {x y : Sd.X} (h : EOk Γ lev c e x) (hr : BOk Γ lev c .And (e' :: es) y) : BOk Γ lev c .And (e :: e' :: es) (.an x y) := fun X Wh pos ok tk =>
  ⟨l_an (h.pe X Wh ok tk) (hr X Wh pos ok tk).1, l_anT (h.pt X Wh ok tk) (hr X Wh pos ok tk).2⟩
theorem b_ro {c : SC} {e e' : Expr} {es : List Expr} {x y : Sd.X} (h : EOk Γ lev c e x) (hr : BOk Γ lev c .Or (e' :: es) y) : BOk Γ lev c .Or (e :: e' :: es) (.ro x y) := fun X Wh pos ok tk =>
  ⟨l_ro (h.pe X Wh ok tk) (hr X Wh pos ok tk).1, l_roT (h.pt X Wh ok tk) (hr X Wh pos ok tk).2⟩
theorem a_cons {c : SC} {e : Expr} {es : List Expr} {x : Sd.X} {xs : List Sd.X} (h : EOk Γ lev c e x) (hr : AOk Γ lev c es xs) : AOk Γ lev c (e :: es) (x :: xs) :=
  ⟨by rw [List.all_cons, h.sh, hr.1]; rfl, fun X Wh ok tk => l_cons (h.pe X Wh ok tk) (hr.2 X Wh ok tk) (sh_star h.sh es X.env)⟩
theorem t_name {c : SC} {x : Str} {pos : Pos} {i : Nat} {sl : List Nat} (h1 : c.can x = true) (h2 : ixOf x c.N = some i) (h3 : sl.contains i = true) : TOk Γ lev c sl (.Name x pos) (.nm i) :=
  ⟨fun _ _ => rfl, fun X Wh ok tk => g_nm (by rw [ok.N]; exact ok.nd) (by rw [ok.N]; exact ixOf_get h2) (ok.can h1).1 (ok.can h1).2 (by simpa using h3)⟩
theorem t_tp {c : SC} {es : List Expr} {ts : List T} {sl : List Nat} {k : Nat} {pos : Pos} (h : TsOk Γ lev c sl es ts) : TOk Γ lev c sl (.Tuple es k pos) (.tp ts) :=
  ⟨fun _ _ => rfl, fun X Wh ok tk => g_tp ok.calm (h.2 X Wh ok tk) (h.1 X.env).1 (h.1 X.env).2⟩
theorem t_ix (hlev : 2 ≤ lev) {c : SC} {a b : Expr} {x y : Sd.X} {sl : List Nat} {pos : Pos} (hs : isSlice b = false) (ha : EOk Γ lev c a x) (hb : EOk Γ lev c b y) : TOk Γ lev c sl (.Subscript a b pos) (.ix x y) :=
  ⟨fun _ _ => rfl, fun X Wh ok tk => g_ix (ok.units hlev) (ha.pe X Wh ok tk) (hb.pe X Wh ok tk) (by
    intro v
    cases b <;> first | rfl | (cases hs; done))⟩
theorem ts_nil {c : SC} {sl : List Nat} : TsOk Γ lev c sl [] [] := ⟨fun _ => ⟨rfl, rfl⟩, fun X Wh ok tk => gs_nil⟩
theorem ts_cons {c : SC} {sl : List Nat} {e : Expr} {es : List Expr} {t : T} {ts : List T} (h : TOk Γ lev c sl e t) (hr : TsOk Γ lev c sl es ts) : TsOk Γ lev c sl (e :: es) (t :: ts) := by
  refine ⟨fun env => ?_, fun X Wh ok tk => gs_cons (h.2 X Wh ok tk) (hr.2 X Wh ok tk) (by rw [h.1 es X.env]; rfl)⟩
  obtain ⟨h1, h2⟩ := hr.1 env
  rw [h.1 es env]
  refine ⟨by simp [h1], ?_⟩
  rw [List.findIdx?_cons, h2]
  rfl
end
end Sd
namespace Sd
open PySem PySem.Spec PyProof.Rows L2
section
variable {Γ : Gam} {lev : Nat} (hlev : 2 ≤ lev)
include hlev
omit hlev in
theorem call_ok (hlev : 2 ≤ lev) {c : SC} {n : Str} {np p : Pos} {args : List Expr} {x : Sd.X} (hA : ∀ xs, cEs c args = some xs → AOk Γ lev c args xs) (hH : ∀ x, cHd c args = some x → ∃ e es, args = e :: es ∧ EOk Γ lev c e x) (h : cCall c n args (cEs c args) (cHd c args) = some x) :
    EOk Γ lev c (.Call (.Name n np) args [] p) x := by
  unfold cCall at h
  split at h
  · rename_i hp
    rw [Bool.and_eq_true] at hp
    obtain ⟨p1, p2, p3⟩ := plain_parts hp.1
    split at h
    · rename_i k ek
      cases args with
      | nil =>
        have h' : (if (n != ("super" : Str)) = true then some (X.fn k []) else none) = some x := h
        clear h
        have h := h'
        split at h
        · rename_i hsu
          cases h
          refine EOk.plain hsu (fun _ _ => rfl) fun X Wh ok tk => ?_
          obtain ⟨fd, ps, f1, f2, f3, f4⟩ := ok.F.fn n k ek
          exact l_fn0 tk f4 ok.room (ok.gl hp.2) f1 f2 f3 p1
        · cases h
      | cons e es =>
        rw [if_neg (by simp)] at h
        obtain ⟨xs, h1, rfl⟩ := o1_some h
        have ha := hA xs h1
        have h3 := ha.1
        rw [List.all_cons, Bool.and_eq_true] at h3
        refine EOk.plain rfl (fun _ _ => rfl) fun X Wh ok tk => ?_
        obtain ⟨fd, ps, f1, f2, f3, f4⟩ := ok.F.fn n k ek
        exact l_fn tk f4 ok.room (ok.gl hp.2) f1 f2 f3 (ha.2 X Wh ok tk) p1 (sh_star h3.1 es X.env) (any_back (star_no h3.2))
    · split at h
      · rename_i hn
        subst hn
        split at h
        · rename_i a t
          split at h
          · rename_i ty ety
            obtain ⟨xa, h1, rfl⟩ := o1_some h
            obtain ⟨e, es, he, ha⟩ := hH xa h1
            cases he
            exact EOk.plain rfl (fun _ _ => rfl) fun X Wh ok tk => l_isi1 ok.F.cfs (ok.gl hp.2) (ok.F.blt _ (by decide)) (ha.pe X Wh ok tk) (cTy_ok ety ok) (sh_star ha.sh _ X.env)
          · split at h
            · rename_i ts tk1 tp _
              split at h
              · rename_i t1 tr ets
                split at h
                · rename_i hz
                  obtain ⟨xa, h1, rfl⟩ := o1_some h
                  obtain ⟨e, es, he, ha⟩ := hH xa h1
                  cases he
                  refine EOk.plain rfl (fun _ _ => rfl) fun X Wh ok tk => ?_
                  obtain ⟨cs, us, hcs⟩ := cTys_ok ets ok
                  exact l_isiT ok.F.cfs (ok.gl hp.2) (ok.F.blt _ (by decide)) (ha.pe X Wh ok tk) hcs hz (sh_star ha.sh _ X.env)
                · cases h
              · cases h
            · cases h
        · cases h
      · split at h
        · rename_i b eb
          have hx := biOf_x eb
          cases args with
          | nil => simp at h
          | cons e es =>
            rw [if_neg (by simp)] at h
            obtain ⟨xs, h1, rfl⟩ := o1_some h
            have ha := hA xs h1
            have h3 := ha.1
            rw [List.all_cons, Bool.and_eq_true] at h3
            subst hx
            refine EOk.plain rfl (fun _ _ => rfl) fun X Wh ok tk => ?_
            exact l_bi ok.calm (ok.gl hp.2) (ok.F.blt _ (by cases b <;> decide)) (ha.2 X Wh ok tk) (sh_star h3.1 es X.env) (any_back (star_no h3.2))
        · unfold cMk at h
          split at h
          · rename_i hl
            split at h
            · rename_i k ek
              obtain ⟨xa, h1, rfl⟩ := o1_some h
              obtain ⟨e, es, he, ha⟩ := hH xa h1
              subst he
              have hes : es = [] := List.eq_nil_of_length_eq_zero (by simpa using hl)
              subst hes
              refine EOk.plain rfl (fun _ _ => rfl) fun X Wh ok tk => ?_
              obtain ⟨z1, kn, gC, fI, fd, ps, T, iC, tI, F1, hb⟩ := ok.F.ini n k ek
              subst z1
              have hst := sh_star ha.sh [] X.env
              exact l_mkf tk kn T iC tI F1 (ok.room.mono hlev) hb (ok.gl hp.2) gC (l_cons (ha.pe X Wh ok tk) l_nil hst) p1 hst
            · split at h
              · rename_i k ek
                split at h
                · rename_i hk
                  obtain ⟨xa, h1, rfl⟩ := o1_some h
                  obtain ⟨e, es, he, ha⟩ := hH xa h1
                  subst he
                  have hes : es = [] := List.eq_nil_of_length_eq_zero (by simpa using hl)
                  subst hes
                  refine EOk.plain rfl (fun _ _ => rfl) fun X Wh ok tk => ?_
                  obtain ⟨z1, z2, z3⟩ := ok.F.cls n k ek
                  obtain ⟨r1, r2, _, _⟩ := ok.F.rz n k ek hk
                  subst z1
                  exact l_mke z2 r1 z3 r2 (ok.gl hp.2) p1 (ha.pe X Wh ok tk) (sh_star ha.sh [] X.env)
                · cases h
              · cases h
          · cases h
  · split at h
    · rename_i hp
      simp only [Bool.and_eq_true, Bool.not_eq_true'] at hp
      obtain ⟨hp1, hv, hc, hne⟩ := hp
      obtain ⟨p1, p2, p3⟩ := plain_parts hp1
      split at h
      · rename_i i ei
        cases args with
        | nil => simp at hne
        | cons e es =>
          obtain ⟨xs, h1, rfl⟩ := o1_some h
          have ha := hA xs h1
          have h3 := ha.1
          rw [List.all_cons, Bool.and_eq_true] at h3
          refine EOk.plain rfl (fun _ _ => rfl) fun X Wh ok tk => ?_
          exact l_cal tk (ok.F.nm hc) ok.room (by rw [ok.N]; exact ixOf_get ei) (ok.vis hv) (ha.2 X Wh ok tk) p1 p2 (sh_star h3.1 es X.env) (any_back (star_no h3.2))
      · cases h
    · cases h
theorem sub_ok {c : SC} {a i : Expr} {p : Pos} {x : Sd.X} (hA : ∀ x, cE c a = some x → EOk Γ lev c a x) (hI : ∀ x, cE c i = some x → EOk Γ lev c i x) (hS : ∀ p, cSl c i = some p → ∃ lo hi q, i = .Slice lo hi none q ∧ OOk Γ lev c lo p.1 ∧ OOk Γ lev c hi p.2)
    (h : cSub (cE c a) (cSl c i) (cE c i) = some x) : EOk Γ lev c (.Subscript a i p) x := by
  unfold cSub at h
  split at h
  · rename_i sp es
    obtain ⟨xa, h1, rfl⟩ := o1_some h
    have ha := hA xa h1
    obtain ⟨lo, hi, q, rfl, hl, hh⟩ := hS sp es
    exact EOk.plain rfl (fun _ _ => rfl) fun X Wh ok tk => l_sl (ha.pe X Wh ok tk) (hl X Wh ok tk) (hh X Wh ok tk)
  · obtain ⟨xa, xi, h1, h2, rfl⟩ := o2_some h
    have ha := hA xa h1
    have hi := hI xi h2
    exact EOk.plain rfl (fun _ _ => rfl) fun X Wh ok tk => l_ix (ok.units hlev) (ha.pe X Wh ok tk) (hi.pe X Wh ok tk) (sh_ix hi.sh)
omit hlev in
theorem dKey_some {ks : List (Option Expr)} {i : Int} (h : dKey ks = some i) : ∃ nb p, ks = [some (.Constant (.int i) nb p)] := by
  unfold dKey at h
  split at h
  · cases h
    exact ⟨_, _, rfl⟩
  · cases h
include hlev in
theorem mnd_ok {c : SC} {f : Expr} {args : List Expr} {nm : Str} {dv : Expr} {kp p : Pos} {x : Sd.X} (hD : ∀ x, cE c dv = some x → EOk Γ lev c dv x) (hH : ∀ x, cHd c args = some x → ∃ e es, args = e :: es ∧ EOk Γ lev c e x) (h : cE c (.Call f args [⟨some nm, dv, kp⟩] p) = some x) : EOk Γ lev c (.Call f args [⟨some nm, dv, kp⟩] p) x := by
  cases f <;> (try (simp [cE] at h; done))
  rename_i n np
  simp only [cE] at h
  split at h
  · rename_i hg
    simp only [Bool.and_eq_true, decide_eq_true_eq] at hg
    obtain ⟨rfl, rfl, hl, hp, hg⟩ := hg
    obtain ⟨xa, xb, h1, h2, rfl⟩ := o2_some h
    obtain ⟨e, es, rfl, ha⟩ := hH xa h1
    have hes : es = [] := List.eq_nil_of_length_eq_zero (by simpa using hl)
    subst hes
    exact EOk.plain rfl (fun _ _ => rfl) fun X Wh ok tk => l_mnd ok.calm (ok.units hlev) (ok.gl hg) (ok.F.blt _ (by decide)) (ha.pe X Wh ok tk) ((hD xb h2).pe X Wh ok tk) (sh_star ha.sh [] X.env)
  · cases h
mutual
theorem cE_ok : ∀ (e : Expr) (c : SC) (x : Sd.X), cE c e = some x → EOk Γ lev c e x
  | .Name n p, c, x, h => by
    simp only [cE] at h
    split at h
    · rename_i hp
      obtain ⟨p1, p2, p3⟩ := plain_parts hp
      split at h
      · rename_i hv
        split at h
        · rename_i i ei
          cases h
          exact EOk.plain rfl (fun _ _ => rfl) fun X Wh ok tk => l_var (by rw [ok.N]; exact ixOf_get ei) (ok.vis hv) p1 p2
        · cases h
      · split at h
        · rename_i hg
          split at h
          · rename_i k ek
            cases h
            refine EOk.plain rfl (fun _ _ => rfl) fun X Wh ok tk => ?_
            cases q : Γ.cst k with
            | none =>
              refine ⟨fun pins s σ H Q I hw => ?_⟩
              obtain ⟨ρ, S, W, P, se, wl, pl, hw⟩ := hw
              simp only [wE, q] at hw
            | some d =>
              obtain ⟨v, u, h1, h2, h3⟩ := ok.F.cst n k d ek q
              refine PE.imp (pe_glob (ok.gl hg) h1 h2 p1) fun σ H Q ⟨ρ, S, W, P, se, wl, pl, hw⟩ => ?_
              simp only [wE, q] at hw
              exact pl.now hw se.sto (h3 H)
          · split at h
            · rename_i k ek
              cases h
              refine EOk.plain rfl (fun _ _ => rfl) fun X Wh ok tk => ?_
              obtain ⟨fd, ps, f1, f2, f3, f4⟩ := ok.F.fn n k ek
              exact l_c (v := .ref (gaK X.K n)) (pe_glob (ok.gl hg) f1 rfl p1) fun H => rfl
            · cases h
        · cases h
    · cases h
  | .Constant v k p, c, x, h => by
    simp only [cE] at h
    cases v <;> (try (cases h; done))
    · cases h; exact EOk.plain rfl (fun _ _ => rfl) fun X Wh ok tk => l_c pe_non fun H => rfl
    · cases h; exact EOk.plain rfl (fun _ _ => rfl) fun X Wh ok tk => l_c pe_bl fun H => rfl
    · cases h; exact EOk.plain rfl (fun _ _ => rfl) fun X Wh ok tk => l_c pe_int fun H => rfl
    · cases h; exact EOk.plain rfl (fun _ _ => rfl) fun X Wh ok tk => l_c pe_str fun H => rfl
  | .BinOp a o b p, c, x, h => by
    simp only [cE] at h
    obtain ⟨xa, xb, h1, h2, rfl⟩ := o2_some h
    have ha := cE_ok a c xa h1
    have hb := cE_ok b c xb h2
    exact EOk.plain rfl (fun _ _ => rfl) fun X Wh ok tk => l_op (ha.pe X Wh ok tk) (hb.pe X Wh ok tk)
  | .UnaryOp o a p, c, x, h => by
    cases o <;> simp only [cE] at h <;> (try (cases h; done))
    · obtain ⟨xa, h1, rfl⟩ := o1_some h
      have ha := cE_ok a c xa h1
      exact ⟨rfl, fun X Wh ok tk => l_no (ha.pe X Wh ok tk), fun X Wh ok tk => l_noT (ha.pt X Wh ok tk)⟩
    · obtain ⟨xa, h1, rfl⟩ := o1_some h
      have ha := cE_ok a c xa h1
      exact EOk.plain rfl (fun _ _ => rfl) fun X Wh ok tk => l_neg (ha.pe X Wh ok tk)
  | .BoolOp o es p, c, x, h => by
    simp only [cE] at h
    exact e_bool (cB_ok es c o x h)
  | .IfExp t a b p, c, x, h => by
    simp only [cE] at h
    obtain ⟨xt, xa, xb, h1, h2, h3, rfl⟩ := o3_some h
    have ht := cE_ok t c xt h1
    have ha := cE_ok a c xa h2
    have hb := cE_ok b c xb h3
    refine ⟨rfl, fun X Wh ok tk => l_ite (ht.pt X Wh ok tk) (ha.pe X Wh ok tk) (hb.pe X Wh ok tk), fun X Wh ok tk => ?_⟩
    exact l_iteT (ht.pt X Wh ok tk) (ha.pt X Wh ok tk) (hb.pt X Wh ok tk)
  | .Compare a ops bs p, c, x, h => by
    match ops, bs, h with
    | [o], [b], h =>
      simp only [cE] at h
      obtain ⟨xa, xb, h1, h2, rfl⟩ := o2_some h
      have ha := cE_ok a c xa h1
      have hb := cE_ok b c xb h2
      exact ⟨rfl, fun X Wh ok tk => l_cmp (ok.units hlev) (ha.pe X Wh ok tk) (hb.pe X Wh ok tk) (sh_in hb.sh o), fun X Wh ok tk => l_cmpT (ok.units hlev) (ha.pe X Wh ok tk) (hb.pe X Wh ok tk) (sh_in hb.sh o)⟩
    | [o, o'], [b, d], h =>
      simp only [cE] at h
      obtain ⟨xa, xb, xd, h1, h2, h3, rfl⟩ := o3_some h
      have ha := cE_ok a c xa h1
      have hb := cE_ok b c xb h2
      have hd := cE_ok d c xd h3
      exact ⟨rfl, fun X Wh ok tk => l_chain (ok.units hlev) (ha.pe X Wh ok tk) (hb.pe X Wh ok tk) (hd.pe X Wh ok tk) (sh_in hb.sh o) (sh_in hd.sh o'), fun X Wh ok tk => l_chainT (ok.units hlev) (ha.pe X Wh ok tk) (hb.pe X Wh ok tk) (hd.pe X Wh ok tk) (sh_in hb.sh o) (sh_in hd.sh o')⟩
  | .Tuple es k p, c, x, h => by
    simp only [cE] at h
    obtain ⟨xs, h1, rfl⟩ := o1_some h
    have ha := cEs_ok es c xs h1
    exact EOk.plain rfl (fun _ _ => rfl) fun X Wh ok tk => l_tp (ha.2 X Wh ok tk)
  | .List es p, c, x, h => by
    simp only [cE] at h
    obtain ⟨xs, h1, rfl⟩ := o1_some h
    have ha := cEs_ok es c xs h1
    exact EOk.plain rfl (fun _ _ => rfl) fun X Wh ok tk => l_ls (ha.2 X Wh ok tk)
  | .Subscript a i p, c, x, h => by
    simp only [cE] at h
    have hA : ∀ x, cE c a = some x → EOk Γ lev c a x := fun x hx => cE_ok a c x hx
    have hI : ∀ x, cE c i = some x → EOk Γ lev c i x := fun x hx => cE_ok i c x hx
    have hS : ∀ p, cSl c i = some p → ∃ lo hi q, i = .Slice lo hi none q ∧ OOk Γ lev c lo p.1 ∧ OOk Γ lev c hi p.2 := fun p hx => cSl_ok i c p hx
    cases hr : stOf i with
    | some q =>
      rw [hr] at h
      obtain ⟨xa, h1, rfl⟩ := o1_some h
      have ha := hA xa h1
      unfold stOf at hr
      split at hr
      · rename_i lo k p3
        split at hr
        · rename_i l j e1 e2
          cases hr
          refine EOk.plain rfl (fun _ _ => rfl) fun X Wh ok tk => l_st (ha.pe X Wh ok tk) ?_ ?_
          · unfold loK at e1
            split at e1
            · cases e1; exact po_pt_none
            · cases e1; exact po_pt_int
            · cases e1
          · unfold stK at e2
            split at e2
            · cases e2; exact po_pt_neg
            · cases e2; exact po_pt_int
            · cases e2
        · cases hr
      · cases hr
    | none =>
    rw [hr] at h
    have h : (if rvOf i = true then o1 X.rv1 (cE c a) else cSub (cE c a) (cSl c i) (cE c i)) = some x := h
    split at h
    · rename_i hr2
      obtain ⟨xa, h1, rfl⟩ := o1_some h
      have ha := hA xa h1
      unfold rvOf at hr2
      split at hr2
      · rename_i hx sx p3
        rw [Bool.and_eq_true, decide_eq_true_eq, decide_eq_true_eq] at hr2
        obtain ⟨e1, e2⟩ := hr2
        refine EOk.plain rfl (fun _ _ => rfl) fun X Wh ok tk => l_rv1 (ha.pe X Wh ok tk) ?_ ?_
        · unfold loK at e1
          split at e1
          · rename_i e0; cases e0
          · rename_i e0; cases e0; cases e1; exact po_pt_int
          · cases e1
        · unfold stK at e2
          split at e2
          · rw [← Option.some.inj e2]; exact po_pt_neg
          · rw [← Option.some.inj e2]; exact po_pt_int
          · cases e2
      · cases hr2
    exact sub_ok hlev hA hI hS h
  | .Call f args kw p, c, x, h => by
    match kw, h with
    | ⟨none, dv, kp⟩ :: k2, h => cases f <;> simp [cE] at h
    | ⟨some nm, dv, kp⟩ :: k1 :: k2, h => cases f <;> simp [cE] at h
    | [⟨some nm, dv, kp⟩], h =>
      have hD : ∀ x, cE c dv = some x → EOk Γ lev c dv x := fun x hx => cE_ok dv c x hx
      have hH : ∀ x, cHd c args = some x → ∃ e es, args = e :: es ∧ EOk Γ lev c e x := fun x hx => cHd_ok args c x hx
      exact mnd_ok hlev hD hH h
    | [], h =>
      cases f <;> (try (simp [cE] at h; done))
      · -- a method
        rename_i o m ap h0
        clear h0
        simp only [cE] at h
        split at h
        · rename_i me hm
          split at h
          · rename_i hl
            obtain ⟨xo, xs, h1, h2, rfl⟩ := o2_some h
            have ho := cE_ok o c xo h1
            have ha := cEs_ok args c xs h2
            refine EOk.plain rfl (fun _ _ => rfl) fun X Wh ok tk => ?_
            obtain ⟨r, r1, r2, r3, r4⟩ := me_ok (X := X) (ok.units hlev) hm
            cases args with
            | nil =>
              have e : xs = [] := by
                simp only [cEs] at h2
                exact (Option.some.inj h2).symm
              subst e
              exact l_me0 r1 r2 r3 r4 (ho.pe X Wh ok tk) (sh_base ho.sh m X.env) hl
            | cons e es =>
              have hall := star_no (env := X.env) ha.1
              have h3 := ha.1
              rw [List.all_cons, Bool.and_eq_true] at h3
              have hz : (e :: es).length < 20 := by
                unfold meOf at hm
                split at hm
                · rename_i q; rw [q]; decide
                · split at hm
                  · rename_i q; rw [q]; decide
                  · split at hm
                    · rename_i q; rw [q]; decide
                    · cases hm
              exact l_me r1 r2 r3 r4 (ho.pe X Wh ok tk) (ha.2 X Wh ok tk) (sh_base ho.sh m X.env) (sh_star h3.1 es X.env) (any_back (star_no h3.2)) hz hl (all_back hall)
          · cases h
        · split at h
          · rename_i hg
            rw [Bool.and_eq_true, Bool.and_eq_true, decide_eq_true_eq, decide_eq_true_eq] at hg
            obtain ⟨rfl, hl, hline⟩ := hg
            obtain ⟨xo, xk, h1, h2, rfl⟩ := o2_some h
            have ho := cE_ok o c xo h1
            obtain ⟨e, es, he, ha⟩ := cHd_ok args c xk h2
            subst he
            have hes : es = [] := List.eq_nil_of_length_eq_zero (by simpa using hl)
            subst hes
            exact EOk.plain rfl (fun _ _ => rfl) fun X Wh ok tk => l_dgt (ok.units hlev) (ho.pe X Wh ok tk) (ha.pe X Wh ok tk) (sh_base ho.sh "get" X.env) (sh_star ha.sh [] X.env) hline
          · split at h
            · rename_i hg
              rw [Bool.and_eq_true, Bool.and_eq_true, decide_eq_true_eq, decide_eq_true_eq] at hg
              obtain ⟨rfl, hl, hline⟩ := hg
              obtain ⟨xo, xs, h1, h2, rfl⟩ := o2_some h
              have ho := cE_ok o c xo h1
              have ha := cEs_ok args c xs h2
              cases args with
              | nil => cases hl
              | cons e es =>
                have h3 := ha.1
                rw [List.all_cons, Bool.and_eq_true] at h3
                exact EOk.plain rfl (fun _ _ => rfl) fun X Wh ok tk => l_dsd (ho.pe X Wh ok tk) (ha.2 X Wh ok tk) (sh_base ho.sh "setdefault" X.env) (sh_star h3.1 es X.env) (any_back (star_no h3.2)) (by rw [hl]; decide) hline (all_back (star_no ha.1))
            · split at h
              · rename_i sm hsm
                split at h
                · rename_i hg
                  rw [Bool.and_eq_true, decide_eq_true_eq] at hg
                  obtain ⟨hl, hline⟩ := hg
                  obtain ⟨xo, xk, h1, h2, rfl⟩ := o2_some h
                  have ho := cE_ok o c xo h1
                  obtain ⟨e, es, he, ha⟩ := cHd_ok args c xk h2
                  subst he
                  have hes : es = [] := List.eq_nil_of_length_eq_zero (by simpa using hl)
                  subst hes
                  have hx := smOf_x hsm
                  subst hx
                  exact EOk.plain rfl (fun _ _ => rfl) fun X Wh ok tk => l_sm (ho.pe X Wh ok tk) (ha.pe X Wh ok tk) (sh_base ho.sh _ X.env) (sh_star ha.sh [] X.env) hline
                · cases h
              · cases h
      · -- a name
        rename_i n np h0
        clear h0
        simp only [cE] at h
        split at h
        · rename_i r er
          cases h
          exact cSet_ok args c n x np p er
        have hA : ∀ xs, cEs c args = some xs → AOk Γ lev c args xs := fun xs hx => cEs_ok args c xs hx
        have hH : ∀ x, cHd c args = some x → ∃ e es, args = e :: es ∧ EOk Γ lev c e x := fun x hx => cHd_ok args c x hx
        exact call_ok hlev hA hH h
  | .ListComp elt gens scope p, c, x, h => by
    match gens, h with
    | [⟨tg, iter, ifs, 0⟩], h =>
      simp only [cE] at h
      split at h
      · rename_i own eo
        split at h
        · rename_i hb
          split at h
          · rename_i e t it cond e1 e2 e3 e4
            cases h
            have he := cE_ok elt (c.blk scope) e e1
            have ht := cT_ok tg (c.blk scope) (own.map (·.2)) t e2
            have hf : IfOk Γ lev (c.blk scope) ifs cond := cIfs_ok ifs (c.blk scope) cond e4
            obtain ⟨e3, hk⟩ := chkT_some e3
            have hi : IOk Γ lev c iter it := by
              split at e3
              · rename_i it2 er
                cases e3
                exact cR_ok iter c it er
              · obtain ⟨xi, h1, rfl⟩ := o1_some e3
                exact i_of (cE_ok iter c xi h1)
            exact e_lc hb he ht hi hk hf
          · cases h
        · cases h
      · cases h
  | .NamedExpr .., c, x, h => by simp [cE] at h
  | .Lambda .., c, x, h => by simp [cE] at h
  | .Dict ks vs p, c, x, h => by
    simp only [cE] at h
    split at h
    · rename_i hp
      simp only [Bool.and_eq_true, List.isEmpty_iff] at hp
      obtain ⟨rfl, rfl⟩ := hp
      cases h
      exact EOk.plain rfl (fun _ _ => rfl) fun X Wh ok tk => l_dc
    · have hH : ∀ x, cHd c vs = some x → ∃ e es, vs = e :: es ∧ EOk Γ lev c e x := fun x hx => cHd_ok vs c x hx
      split at h
      · rename_i i ei
        split at h
        · rename_i hl
          rw [decide_eq_true_eq] at hl
          obtain ⟨xe, h1, rfl⟩ := o1_some h
          obtain ⟨e, es, rfl, ha⟩ := hH xe h1
          have hes : es = [] := List.eq_nil_of_length_eq_zero (by simpa using hl)
          subst hes
          obtain ⟨nb, p2, rfl⟩ := dKey_some ei
          exact EOk.plain rfl (fun _ _ => rfl) fun X Wh ok tk => l_d1 (l_c (Γ := Γ) pe_int fun H => rfl) (ha.pe X Wh ok tk)
        · cases h
      · cases h
  | .Set .., c, x, h => by simp [cE] at h
  | .SetComp .., c, x, h => by simp [cE] at h
  | .DictComp .., c, x, h => by simp [cE] at h
  | .GeneratorExp .., c, x, h => by simp [cE] at h
  | .Await .., c, x, h => by simp [cE] at h
  | .Yield .., c, x, h => by simp [cE] at h
  | .YieldFrom .., c, x, h => by simp [cE] at h
  | .FormattedValue .., c, x, h => by simp [cE] at h
  | .JoinedStr .., c, x, h => by simp [cE] at h
  | .Attribute o f p, c, x, h => by
    simp only [cE] at h
    split at h
    · obtain ⟨xo, h1, rfl⟩ := o1_some h
      have ho := cE_ok o c xo h1
      exact EOk.plain rfl (fun _ _ => rfl) fun X Wh ok tk => l_fld ok.F.cfs (ho.pe X Wh ok tk) (sh_base ho.sh f X.env)
    · cases h
  | .Starred .., c, x, h => by simp [cE] at h
  | .Slice .., c, x, h => by simp [cE] at h
theorem cSet_ok : ∀ (es : List Expr) (c : SC) (n : Str) (x : Sd.X) (np p : Pos), cSet c n es = some x → EOk Γ lev c (.Call (.Name n np) es [] p) x
  | [], c, n, x, np, p, h => by simp [cSet] at h
  | e :: es, c, n, x, np, p, h => by
    simp only [cSet] at h
    split at h
    · rename_i hp
      simp only [List.isEmpty_iff] at hp
      subst hp
      split at h
      · rename_i hn
        subst hn
        exact cSt_ok e c x np p h
      · split at h
        · rename_i hn
          subst hn
          exact cLr_ok e c x np p h
        · split at h
          · rename_i hn
            subst hn
            exact cSs_ok e c x np p h
          · cases h
    · cases h
theorem cSt_ok : ∀ (e : Expr) (c : SC) (x : Sd.X) (np p : Pos), cSt c e = some x → EOk Γ lev c (.Call (.Name "len" np) [e] [] p) x
  | .Call f args kw q, c, x, np, p, h => by
    cases kw with
    | cons k1 k2 => cases f <;> simp [cSt] at h
    | nil =>
      cases f <;> (try (simp [cSt] at h; done))
      rename_i n yp
      rw [cSt.eq_def] at h
      dsimp only at h
      split at h
      · rename_i hn
        subst hn
        split at h
        · rename_i hp
          rw [Bool.and_eq_true] at hp
          split at h
          · rename_i a
            obtain ⟨xa, h1, rfl⟩ := o1_some h
            have ha := cE_ok a c xa h1
            exact EOk.plain rfl (fun _ _ => rfl) fun X Wh ok tk => l_sz ok.calm (ok.gl hp.1) (ok.F.blt _ (by decide)) (ok.gl hp.2) (ok.F.blt _ (by decide)) (ha.pe X Wh ok tk) (sh_star ha.sh [] X.env)
          · cases h
        · cases h
      · cases h
  | .BoolOp .., c, t, _, _, h | .NamedExpr .., c, t, _, _, h | .BinOp .., c, t, _, _, h | .UnaryOp .., c, t, _, _, h | .Lambda .., c, t, _, _, h | .IfExp .., c, t, _, _, h | .Dict .., c, t, _, _, h | .Set .., c, t, _, _, h | .ListComp .., c, t, _, _, h | .SetComp .., c, t, _, _, h
  | .DictComp .., c, t, _, _, h | .GeneratorExp .., c, t, _, _, h | .Await .., c, t, _, _, h | .Yield .., c, t, _, _, h | .YieldFrom .., c, t, _, _, h | .Compare .., c, t, _, _, h | .FormattedValue .., c, t, _, _, h | .JoinedStr .., c, t, _, _, h
  | .Constant .., c, t, _, _, h | .Attribute .., c, t, _, _, h | .Starred .., c, t, _, _, h | .List .., c, t, _, _, h | .Slice .., c, t, _, _, h | .Name .., c, t, _, _, h | .Tuple .., c, t, _, _, h | .Subscript .., c, t, _, _, h => by simp [cSt] at h
theorem cSs_ok : ∀ (e : Expr) (c : SC) (x : Sd.X) (np p : Pos), cSs c e = some x → EOk Γ lev c (.Call (.Name "sorted" np) [e] [] p) x
  | .Call f args kw q, c, x, np, p, h => by
    cases kw with
    | cons k1 k2 => cases f <;> simp [cSs] at h
    | nil =>
      cases f <;> (try (simp [cSs] at h; done))
      rename_i n yp
      rw [cSs.eq_def] at h
      dsimp only at h
      split at h
      · rename_i hn
        subst hn
        split at h
        · rename_i hp
          rw [Bool.and_eq_true] at hp
          split at h
          · rename_i a
            obtain ⟨xa, h1, rfl⟩ := o1_some h
            have ha := cE_ok a c xa h1
            exact EOk.plain rfl (fun _ _ => rfl) fun X Wh ok tk => l_ss ok.calm (ok.gl hp.1) (ok.F.blt _ (by decide)) (ok.gl hp.2) (ok.F.blt _ (by decide)) (ha.pe X Wh ok tk) (sh_star ha.sh [] X.env)
          · cases h
        · cases h
      · cases h
  | .BoolOp .., c, t, _, _, h | .NamedExpr .., c, t, _, _, h | .BinOp .., c, t, _, _, h | .UnaryOp .., c, t, _, _, h | .Lambda .., c, t, _, _, h | .IfExp .., c, t, _, _, h | .Dict .., c, t, _, _, h | .Set .., c, t, _, _, h | .ListComp .., c, t, _, _, h | .SetComp .., c, t, _, _, h
  | .DictComp .., c, t, _, _, h | .GeneratorExp .., c, t, _, _, h | .Await .., c, t, _, _, h | .Yield .., c, t, _, _, h | .YieldFrom .., c, t, _, _, h | .Compare .., c, t, _, _, h | .FormattedValue .., c, t, _, _, h | .JoinedStr .., c, t, _, _, h
  | .Constant .., c, t, _, _, h | .Attribute .., c, t, _, _, h | .Starred .., c, t, _, _, h | .List .., c, t, _, _, h | .Slice .., c, t, _, _, h | .Name .., c, t, _, _, h | .Tuple .., c, t, _, _, h | .Subscript .., c, t, _, _, h => by simp [cSs] at h
theorem cLr_ok : ∀ (e : Expr) (c : SC) (x : Sd.X) (np p : Pos), cLr c e = some x → EOk Γ lev c (.Call (.Name "list" np) [e] [] p) x
  | .Call f args kw q, c, x, np, p, h => by
    cases kw with
    | cons k1 k2 => cases f <;> simp [cLr] at h
    | nil =>
      cases f <;> (try (simp [cLr] at h; done))
      rename_i n yp
      rw [cLr.eq_def] at h
      dsimp only at h
      split at h
      · rename_i hn
        subst hn
        split at h
        · rename_i hp
          rw [Bool.and_eq_true] at hp
          split at h
          · rename_i a
            obtain ⟨xa, h1, rfl⟩ := o1_some h
            have ha := cE_ok a c xa h1
            exact EOk.plain rfl (fun _ _ => rfl) fun X Wh ok tk => l_lrg ok.calm (ok.gl hp.1) (ok.F.blt _ (by decide)) (ok.gl hp.2) (ok.F.blt _ (by decide)) (ha.pe X Wh ok tk) (sh_star ha.sh [] X.env) (sh_star rfl [] X.env)
          · cases h
        · cases h
      · cases h
  | .BoolOp .., c, t, _, _, h | .NamedExpr .., c, t, _, _, h | .BinOp .., c, t, _, _, h | .UnaryOp .., c, t, _, _, h | .Lambda .., c, t, _, _, h | .IfExp .., c, t, _, _, h | .Dict .., c, t, _, _, h | .Set .., c, t, _, _, h | .ListComp .., c, t, _, _, h | .SetComp .., c, t, _, _, h
  | .DictComp .., c, t, _, _, h | .GeneratorExp .., c, t, _, _, h | .Await .., c, t, _, _, h | .Yield .., c, t, _, _, h | .YieldFrom .., c, t, _, _, h | .Compare .., c, t, _, _, h | .FormattedValue .., c, t, _, _, h | .JoinedStr .., c, t, _, _, h
  | .Constant .., c, t, _, _, h | .Attribute .., c, t, _, _, h | .Starred .., c, t, _, _, h | .List .., c, t, _, _, h | .Slice .., c, t, _, _, h | .Name .., c, t, _, _, h | .Tuple .., c, t, _, _, h | .Subscript .., c, t, _, _, h => by simp [cLr] at h
theorem cB_ok : ∀ (es : List Expr) (c : SC) (o : BoolOp) (x : Sd.X), cB c o es = some x → BOk Γ lev c o es x
  | [], c, o, x, h => by simp [cB] at h
  | [e], c, o, x, h => by
    simp only [cB] at h
    exact b_one (cE_ok e c x h)
  | e :: e' :: es, c, o, x, h => by
    cases o <;> simp only [cB] at h
    · obtain ⟨xa, xb, h1, h2, rfl⟩ := o2_some h
      exact b_an (cE_ok e c xa h1) (cB_ok (e' :: es) c .And xb h2)
    · obtain ⟨xa, xb, h1, h2, rfl⟩ := o2_some h
      exact b_ro (cE_ok e c xa h1) (cB_ok (e' :: es) c .Or xb h2)
theorem cEs_ok : ∀ (es : List Expr) (c : SC) (xs : List Sd.X), cEs c es = some xs → AOk Γ lev c es xs
  | [], c, xs, h => by
    simp only [cEs, Option.some.injEq] at h
    subst h
    exact ⟨rfl, fun X Wh ok tk => l_nil⟩
  | e :: es, c, xs, h => by
    simp only [cEs] at h
    obtain ⟨xa, xb, h1, h2, rfl⟩ := o2_some h
    exact a_cons (cE_ok e c xa h1) (cEs_ok es c xb h2)
theorem cSl_ok : ∀ (e : Expr) (c : SC) (p : Sd.X × Sd.X), cSl c e = some p → ∃ lo hi q, e = .Slice lo hi none q ∧ OOk Γ lev c lo p.1 ∧ OOk Γ lev c hi p.2
  | .Slice lo hi none q, c, p, h => by
    simp only [cSl] at h
    obtain ⟨xl, xh, h1, h2, rfl⟩ := o2_some h
    exact ⟨lo, hi, q, rfl, cO_ok lo c xl h1, cO_ok hi c xh h2⟩
  | .Slice lo hi (some st) q, c, p, h => by simp [cSl] at h
  | .BoolOp .., c, t, h | .NamedExpr .., c, t, h | .BinOp .., c, t, h | .UnaryOp .., c, t, h | .Lambda .., c, t, h | .IfExp .., c, t, h | .Dict .., c, t, h | .Set .., c, t, h | .ListComp .., c, t, h | .SetComp .., c, t, h
  | .DictComp .., c, t, h | .GeneratorExp .., c, t, h | .Await .., c, t, h | .Yield .., c, t, h | .YieldFrom .., c, t, h | .Compare .., c, t, h | .FormattedValue .., c, t, h | .JoinedStr .., c, t, h
  | .Constant .., c, t, h | .Attribute .., c, t, h | .Starred .., c, t, h | .List .., c, t, h | .Call .., c, t, h | .Name .., c, t, h | .Tuple .., c, t, h | .Subscript .., c, t, h => by simp [cSl] at h
theorem cHd_ok : ∀ (es : List Expr) (c : SC) (x : Sd.X), cHd c es = some x → ∃ e r, es = e :: r ∧ EOk Γ lev c e x
  | [], c, x, h => by simp [cHd] at h
  | e :: es, c, x, h => by
    simp only [cHd] at h
    exact ⟨e, es, rfl, cE_ok e c x h⟩
theorem cO_ok : ∀ (o : Option Expr) (c : SC) (x : Sd.X), cO c o = some x → OOk Γ lev c o x
  | none, c, x, h => by
    simp only [cO, Option.some.injEq] at h
    subst h
    exact fun X Wh ok tk => l_nopart rfl
  | some e, c, x, h => by
    simp only [cO] at h
    obtain ⟨xa, h1, rfl⟩ := o1_some h
    have he := cE_ok e c xa h1
    exact fun X Wh ok tk => l_part (he.pe X Wh ok tk)
theorem cIfs_ok : ∀ (es : List Expr) (c : SC) (x : Sd.X), cIfs c es = some x → IfOk Γ lev c es x
  | [], c, x, h => by
    simp only [cIfs, Option.some.injEq] at h
    subst h
    exact ifs_nil
  | [e], c, x, h => by
    simp only [cIfs] at h
    exact ifs_one (cE_ok e c x h)
  | _ :: _ :: _, c, x, h => by simp [cIfs] at h
theorem cT_ok : ∀ (e : Expr) (c : SC) (sl : List Nat) (t : T), cT c sl e = some t → TOk Γ lev c sl e t
  | .Name n p, c, sl, t, h => by
    simp only [cT] at h
    split at h
    · rename_i h1
      split at h
      · rename_i i ei
        split at h
        · rename_i h3
          cases h
          exact t_name h1 ei h3
        · cases h
      · cases h
    · cases h
  | .Tuple es k p, c, sl, t, h => by
    simp only [cT] at h
    obtain ⟨ts, h1, rfl⟩ := o1_some h
    exact t_tp (cTs_ok es c sl ts h1)
  | .Subscript a i p, c, sl, t, h => by
    simp only [cT] at h
    split at h
    · cases h
    · rename_i hs
      obtain ⟨xa, xi, h1, h2, rfl⟩ := o2_some h
      exact t_ix hlev (by simpa using hs) (cE_ok a c xa h1) (cE_ok i c xi h2)
  | .BoolOp .., c, sl, t, h | .NamedExpr .., c, sl, t, h | .BinOp .., c, sl, t, h | .UnaryOp .., c, sl, t, h | .Lambda .., c, sl, t, h | .IfExp .., c, sl, t, h | .Dict .., c, sl, t, h | .Set .., c, sl, t, h | .ListComp .., c, sl, t, h | .SetComp .., c, sl, t, h
  | .DictComp .., c, sl, t, h | .GeneratorExp .., c, sl, t, h | .Await .., c, sl, t, h | .Yield .., c, sl, t, h | .YieldFrom .., c, sl, t, h | .Compare .., c, sl, t, h | .Call .., c, sl, t, h | .FormattedValue .., c, sl, t, h | .JoinedStr .., c, sl, t, h
  | .Constant .., c, sl, t, h | .Attribute .., c, sl, t, h | .Starred .., c, sl, t, h | .List .., c, sl, t, h | .Slice .., c, sl, t, h => by simp [cT] at h
theorem cTs_ok : ∀ (es : List Expr) (c : SC) (sl : List Nat) (ts : List T), cTs c sl es = some ts → TsOk Γ lev c sl es ts
  | [], c, sl, ts, h => by
    simp only [cTs, Option.some.injEq] at h
    subst h
    exact ts_nil
  | e :: es, c, sl, ts, h => by
    simp only [cTs] at h
    obtain ⟨xa, xb, h1, h2, rfl⟩ := o2_some h
    exact ts_cons (cT_ok e c sl xa h1) (cTs_ok es c sl xb h2)
theorem cR_ok : ∀ (e : Expr) (c : SC) (it : I), cR c e = some it → IOk Γ lev c e it
  | .Call f args kw p, c, it, h => by
    cases kw with
    | cons k1 k2 => cases f <;> simp [cR] at h
    | nil =>
      cases f <;> (try (simp [cR] at h; done))
      rename_i n np
      rw [cR.eq_def] at h
      dsimp only at h
      split at h
      · rename_i hn
        subst hn
        split at h
        · rename_i hp
          rw [Bool.and_eq_true, Bool.and_eq_true] at hp
          split at h
          · rename_i b
            obtain ⟨xb, h1, rfl⟩ := o1_some h
            have hb := cE_ok b c xb h1
            exact ⟨rfl, fun X Wh tg _ ok tk => i_rng1 (ok.gl hp.2.1) (ok.F.blt _ (by decide)) (hb.pe X Wh ok tk) (sh_star hb.sh [] X.env)⟩
          · rename_i a b
            obtain ⟨xa, xb, h1, h2, rfl⟩ := o2_some h
            have ha := cE_ok a c xa h1
            have hb := cE_ok b c xb h2
            exact ⟨rfl, fun X Wh tg _ ok tk => i_rng2 (ok.gl hp.2.1) (ok.F.blt _ (by decide)) (ha.pe X Wh ok tk) (hb.pe X Wh ok tk) (sh_star hb.sh [] X.env) (sh_star ha.sh [b] X.env)⟩
          · rename_i a b d
            obtain ⟨xa, xb, xd, h1, h2, h3, rfl⟩ := o3_some h
            have ha := cE_ok a c xa h1
            have hb := cE_ok b c xb h2
            have hd := cE_ok d c xd h3
            exact ⟨rfl, fun X Wh tg _ ok tk => i_rng3 (ok.gl hp.2.1) (ok.F.blt _ (by decide)) (ha.pe X Wh ok tk) (hb.pe X Wh ok tk) (hd.pe X Wh ok tk) (sh_star hd.sh [] X.env) (sh_star hb.sh [d] X.env) (sh_star ha.sh [b, d] X.env)⟩
          · cases h
        · cases h
      · split at h
        · rename_i hn
          subst hn
          split at h
          · rename_i hp
            rw [Bool.and_eq_true, Bool.and_eq_true] at hp
            split at h
            · rename_i a b
              obtain ⟨xa, xb, h1, h2, rfl⟩ := o2_some h
              have ha := cE_ok a c xa h1
              have hb := cE_ok b c xb h2
              refine ⟨rfl, fun X Wh tg ht ok tk => ?_⟩
              cases tg <;> (try (cases ht; done))
              exact i_zip (ok.gl hp.2.1) (ok.F.blt _ (by decide)) (ha.pe X Wh ok tk) (hb.pe X Wh ok tk) (sh_star hb.sh [] X.env) (sh_star ha.sh [b] X.env)
            · rename_i a b d
              obtain ⟨xa, xb, xd, h1, h2, h3, rfl⟩ := o3_some h
              have ha := cE_ok a c xa h1
              have hb := cE_ok b c xb h2
              have hd := cE_ok d c xd h3
              refine ⟨rfl, fun X Wh tg ht ok tk => ?_⟩
              cases tg <;> (try (cases ht; done))
              exact i_zip3 (ok.gl hp.2.1) (ok.F.blt _ (by decide)) (ha.pe X Wh ok tk) (hb.pe X Wh ok tk) (hd.pe X Wh ok tk) (sh_star hd.sh [] X.env) (sh_star hb.sh [d] X.env) (sh_star ha.sh [b, d] X.env)
            · cases h
          · cases h
        · split at h
          · rename_i hn
            subst hn
            split at h
            · rename_i hp
              rw [Bool.and_eq_true, Bool.and_eq_true] at hp
              split at h
              · rename_i a
                obtain ⟨xa, h1, rfl⟩ := o1_some h
                have ha := cE_ok a c xa h1
                refine ⟨rfl, fun X Wh tg ht ok tk => ?_⟩
                cases tg <;> (try (cases ht; done))
                exact i_enm (ok.gl hp.2.1) (ok.F.blt _ (by decide)) (ha.pe X Wh ok tk) (sh_star ha.sh [] X.env)
              · cases h
            · cases h
          · cases h
  | .BoolOp .., c, t, h | .NamedExpr .., c, t, h | .BinOp .., c, t, h | .UnaryOp .., c, t, h | .Lambda .., c, t, h | .IfExp .., c, t, h | .Dict .., c, t, h | .Set .., c, t, h | .ListComp .., c, t, h | .SetComp .., c, t, h
  | .DictComp .., c, t, h | .GeneratorExp .., c, t, h | .Await .., c, t, h | .Yield .., c, t, h | .YieldFrom .., c, t, h | .Compare .., c, t, h | .FormattedValue .., c, t, h | .JoinedStr .., c, t, h
  | .Constant .., c, t, h | .Attribute .., c, t, h | .Starred .., c, t, h | .List .., c, t, h | .Slice .., c, t, h | .Name .., c, t, h | .Tuple .., c, t, h | .Subscript .., c, t, h => by simp [cR] at h
end
end
end Sd
namespace Sd
open PySem PySem.Spec PyProof.Rows L2
def isLoc : Option NameKind → Bool
  | some .local => true
  | _ => false
def swC (c : SC) (e : Expr) (x : Str) (pl : Nat) : Bool := match e with
  | .ListComp _ _ s p => isLoc (c.look x) && (pl == p.line && !(s.names.any fun (n, k) => n == x && (k == .local || k == .cell)))
  | _ => false
def parB (c : SC) (x : Str) (px : Pos) (y : Str) (py : Pos) (a b : Expr) : Bool := isLoc (c.look x) && (isLoc (c.look y) && (py.line == px.line && (!decide (x = y) && (!(foldedForSure 8 a && foldedForSure 8 b) && !(constantsAlone 8 a && constantsAlone 8 b)))))
def anyCell (c : SC) : List Expr → Bool
  | [] => false
  | .Name x _ :: r => !isLoc (c.look x) || anyCell c r
  | _ => true
def genT (c : SC) (ts : List Expr) : Bool := anyCell c ts || decide (3 < ts.length)
def parT (c : SC) (x : Str) (px : Pos) (y : Str) (py : Pos) (z : Str) (pz : Pos) (a b d : Expr) : Bool := isLoc (c.look x) && (isLoc (c.look y) && (isLoc (c.look z) && (py.line == px.line && (pz.line == px.line && (!decide (x = y) && (!decide (x = z) && (!decide (y = z) && (!(foldedForSure 8 a && (foldedForSure 8 b && foldedForSure 8 d)) && !(constantsAlone 8 a && (constantsAlone 8 b && constantsAlone 8 d))))))))))
def cAsg (c : SC) (tg e : Expr) (xe : Option X) (t : Option T) (xa xb xc : Option X) : Option Z := match tg, e with
  | .Name x p, e => (match ixOf x c.N with
    | some i => if c.can x then o1 (fun v => Z.asg (.nm i) v) xe else none
    | none => none)
  | .Tuple [.Name x px, .Name y py] _ _, .Tuple [a, b] _ _ => if parB c x px y py a b then (match ixOf x c.N, ixOf y c.N with
      | some i, some j => o2 (fun u v => Z.asg (.tp [.nm i, .nm j]) (.tp [u, v])) xa xb
      | _, _ => none) else if genT c [.Name x px, .Name y py] || [a, b].all (foldedForSure 8) then o2 (fun v t => Z.asg t v) xe t else none
  | .Tuple [.Name x px, .Name y py, .Name z pz] _ _, .Tuple [a, b, d] _ _ => if parT c x px y py z pz a b d then (match ixOf x c.N, ixOf y c.N, ixOf z c.N with
      | some i, some j, some l => o3 (fun u v w => Z.asg (.tp [.nm i, .nm j, .nm l]) (.tp [u, v, w])) xa xb xc
      | _, _, _ => none) else if genT c [.Name x px, .Name y py, .Name z pz] || [a, b, d].all (foldedForSure 8) then o2 (fun v t => Z.asg t v) xe t else none
  | .Tuple ts _ _, e => if isTup e && !genT c ts then none else o2 (fun v t => Z.asg t v) xe t
  | .Subscript .., e => o2 (fun v t => Z.asg t v) xe t
  | _, _ => none
def twoE : Expr → Option (Expr × Expr × Expr)
  | .Tuple [a, b] _ _ => some (a, b, a)
  | .Tuple [a, b, d] _ _ => some (a, b, d)
  | _ => none
def cRz (c : SC) : Option Expr → Option Expr → Option Z
  | some (.Call (.Name x _) [.Constant (.str _) _ _] [] _), none => if plainN x && isGlo (c.look x) then (match c.cls.lookup x with
    | some k => if plainC k then some (.rz k) else none
    | none => none) else none
  | some (.Call (.Name x _) [e] [] _), none => if plainN x && isGlo (c.look x) then (match c.rzs.lookup x with
    | some k => o1 (Z.rzf k) (cE c e)
    | none => none) else none
  | _, _ => none
def cHand2 (c : SC) : List ExceptHandler → Option (Nat × Nat × Nat × Nat)
  | [.ExceptHandler (some (.Name x _)) (some n) [.Assign [.Name y _] (.Name m _) _, .Assign [.Name z _] (.Constant .none _ _) _] _] => if plainN x && (isGlo (c.look x) && (plainN n && (isLoc (c.look n) && (c.can y && (c.can z && decide (m = n)))))) then (match c.cls.lookup x, ixOf n c.N, ixOf y c.N, ixOf z c.N with
    | some k, some i, some j, some l => if i = j ∨ i = l then none else some (k, i, j, l)
    | _, _, _, _ => none) else none
  | _ => none
def cHand3 (c : SC) : List ExceptHandler → Option (Nat × Nat × Nat × Nat × Str)
  | [.ExceptHandler (some (.Name x _)) (some n) [.Assign [.Name y _] (.Name m _) _, .Assign [.Name z _] (.Tuple [.Constant (.str t) _ _] _ _) _] _] => if plainN x && (isGlo (c.look x) && (plainN n && (isLoc (c.look n) && (c.can y && (c.can z && decide (m = n)))))) then (match c.cls.lookup x, ixOf n c.N, ixOf y c.N, ixOf z c.N with
    | some k, some i, some j, some l => if i = j ∨ i = l then none else some (k, i, j, l, t)
    | _, _, _, _ => none) else none
  | _ => none
def cHand (c : SC) : List ExceptHandler → Option (Nat × Nat × Nat)
  | [.ExceptHandler (some (.Name x _)) (some n) [.Assign [.Name y _] (.Name m _) _] _] => if plainN x && (isGlo (c.look x) && (plainN n && (isLoc (c.look n) && (c.can y && decide (m = n))))) then (match c.cls.lookup x, ixOf n c.N, ixOf y c.N with
    | some k, some i, some j => if i = j then none else some (k, i, j)
    | _, _, _ => none) else none
  | _ => none
def augOp : Operator → Bool
  | .Add => true
  | .Sub => true
  | _ => false
mutual
def cZ (c : SC) (all : List Nat) : Stmt → Option Z
  | .Assign [tg] e p => cAsg c tg e (cE c e) (cT c all tg) ((twoE e).bind fun q => cE c q.1) ((twoE e).bind fun q => cE c q.2.1) ((twoE e).bind fun q => cE c q.2.2)
  | .AugAssign (.Name x _) o e _ => if augOp o && c.can x then (match ixOf x c.N with
    | some i => o1 (Z.aug i o) (cE c e)
    | none => none) else none
  | .AugAssign (.Subscript a i _) o e _ => if augOp o && !isSlice i then o3 (fun x y z => Z.augx x y o z) (cE c a) (cE c i) (cE c e) else none
  | .Expr e _ => if isComp e then none else o1 Z.ex (cE c e)
  | .Return (some e) _ => o1 Z.ret (cE c e)
  | .Return none _ => some (.ret (.c .non))
  | .If t a b _ => o3 Z.iff (cE c t) (cZs c all a) (cZs c all b)
  | .While t b [] _ => o2 Z.whl (cE c t) (cZs c all b)
  | .For tg it b [] _ => o3 Z.for_ (cT c all tg) (cI c tg it) (cZs c all b)
  | .Raise a b _ => cRz c a b
  | .Try b hs [] [] _ => (match cHand c hs with
    | some q => o1 (fun zs => Z.tr zs q.1 q.2.1 q.2.2) (cZs c all b)
    | none => (match cHand2 c hs with
      | some q => o1 (fun zs => Z.tr2 zs q.1 q.2.1 q.2.2.1 q.2.2.2) (cZs c all b)
      | none => (match cHand3 c hs with
        | some q => o1 (fun zs => Z.tr3 zs q.1 q.2.1 q.2.2.1 q.2.2.2.1 q.2.2.2.2) (cZs c all b)
        | none => none)))
  | .Pass _ => some .pass
  | .Continue _ => some .cont
  | .Break _ => some .brk
  | _ => none
def cZs (c : SC) (all : List Nat) : List Stmt → Option (List Z)
  | [] => some []
  | s :: r => o2 (fun z zs => z :: zs) (cZ c all s) (cZs c all r)
end
def cBody (c : SC) (ss : List Stmt) : Option (List Z) := cZs c (List.range c.N.length) ss
structure XS (Γ : Gam) (c : SC) (X : Cx) : Prop where
  kind : X.env.scope.kind = .function
  stk : X.stack = X.env :: X.outer
  frm : X.env.frame = some X.env.locals
  exn : X.ex = []
  own : PassesOwn (model X.prog X.w) X.A X.env X.xe
  rz : ∀ x k, c.cls.lookup x = some k → plainC k = true → PySem.W.excIn X.K (gaK X.K (clsN k)) [.type "ValueError", .type "Exception", .type "BaseException", .type "object"] "ValueError.__new__" = true ∧ PySem.W.keepIn X.K (.ref (gaK X.K (clsN k))) = true ∧
    PySem.W.subIn X.K (.ref (gaK X.K (clsN k))) (.type "BaseException") = some true ∧ PySem.W.typeIn X.K (.ref (gaK X.K (clsN k))) = some (.type "type")
  ini : ∀ x k, c.rzs.lookup x = some k → clsN k = x ∧ IniOk X.prog X.w X.K X.mg X.base k
def ZOk (Γ : Gam) (lev : Nat) (c : SC) (st : Stmt) (z : Z) : Prop := ∀ X Wh, XOk Γ lev c X → XS Γ c X → Takes X Wh → PS X st (LS X.K Wh (wZ Γ z))
def ZsOk (Γ : Gam) (lev : Nat) (c : SC) (st : List Stmt) (z : List Z) : Prop := ∀ X Wh, XOk Γ lev c X → XS Γ c X → Takes X Wh → PSs X st (LS X.K Wh (wZs Γ z))
section
variable {Γ : Gam} {lev : Nat} {c : SC} {X : Cx} {Wh : WX}
theorem isLoc_eq {o : Option NameKind} (h : isLoc o = true) : o = some .local := by
  cases o with
  | none => cases h
  | some k => cases k <;> first | rfl | cases h
theorem XOk.tr (ok : XOk Γ lev c X) (pn : List (Addr × Obj)) (xe : Value → Shared → Prop) : XOk Γ lev c (X.tr pn xe) := ⟨ok.N, ok.nd, ok.sc, ok.fn, ok.calm, ok.room, ok.F⟩
theorem XS.tr (s : XS Γ c X) {pn : List (Addr × Obj)} {xe : Value → Shared → Prop} (h : PassesOwn (model X.prog X.w) X.A X.env xe) : XS Γ c (X.tr pn xe) := ⟨s.kind, s.stk, s.frm, s.exn, h, s.rz, s.ini⟩
theorem blkFn {env : Env} (h : env.scope.kind = .function) : env.blockKind = .function := by
  unfold Env.blockKind
  rw [h]
  rfl
theorem sw_no {e : Expr} {x : Str} {px : Pos} {l : Nat} (sc : X.env.scope = c.sc) (sh : okSh e = true) (h : swC c e x px.line = false) (hk : X.env.scope.kind = .function) : swapsWith e (some (.Name x px)) l X.env = pure false := by
  by_cases hc : isComp e = false
  · exact sh_sw sh hc _ _ _
  · cases e <;> (try exact absurd rfl hc)
    rename_i elt gs s p
    unfold swapsWith
    have hb := blkFn hk
    simp only [hb, Expr.pos]
    have ek : X.env.kindOf x = c.look x := by
      unfold Env.kindOf SC.look
      rw [sc]
    rw [ek]
    have h' : (isLoc (c.look x) && (px.line == p.line && !(s.names.any fun (n, k) => n == x && (k == .local || k == .cell)))) = false := h
    have e1 : (c.look x == some NameKind.local) = isLoc (c.look x) := by
      cases q : c.look x with
      | none => rfl
      | some k => cases k <;> rfl
    rw [e1]
    have e2 : ((ScopeKind.function == ScopeKind.function) && isLoc (c.look x) && px.line == p.line && !(s.names.any fun (n, k) => n == x && (k == .local || k == .cell))) = false := by
      rw [← h']
      simp [Bool.and_assoc]
    rw [e2]
theorem par_st {x y : Str} {px py pt pt2 : Pos} {a b : Expr} {k k2} (sc : X.env.scope = c.sc) (sa : okSh a = true) (sb : okSh b = true) (h : parB c x px y py a b = true) (hk : X.env.scope.kind = .function) :
    swappedStores [.Tuple [.Name x px, .Name y py] k pt] (.Tuple [a, b] k2 pt2) X.env = pure (some [x, y]) := by
  unfold parB at h
  simp only [Bool.and_eq_true, Bool.not_eq_true', decide_eq_false_iff_not] at h
  obtain ⟨h1, h2, h3, h4, h5, h6⟩ := h
  have k1 : X.env.kindOf x = some .local := by
    unfold Env.kindOf
    rw [sc]
    exact isLoc_eq h1
  have k2' : X.env.kindOf y = some .local := by
    unfold Env.kindOf
    rw [sc]
    exact isLoc_eq h2
  have hb := blkFn hk
  have h3' : py.line = px.line := by simpa using h3
  have n2 : ([x, y] : List Str).eraseDups = [x, y] := by
    rw [List.eraseDups_cons]
    have : ([y] : List Str).filter (fun b => !b == x) = [y] := by
      simp [Ne.symm h4]
    rw [this]
    rfl
  have n3 : ([a, b] : List Expr).all (foldedForSure 8) = false := by simpa using h5
  have n4 : ([a, b] : List Expr).all (constantsAlone 8) = false := by simpa using h6
  have q1 : (Expr.Name x px).pos = px := by first | rfl | simp [Expr.pos]
  unfold swappedStores
  cases a <;> (try (cases sa; done)) <;> cases b <;> (try (cases sb; done)) <;>
    simp [hb, List.filterMap_cons, k1, k2', q1, h3', n2, n3, n4, h5, h6]
theorem par3_st {x y z : Str} {px py pz pt pt2 : Pos} {a b d : Expr} {k k2} (sc : X.env.scope = c.sc) (sa : okSh a = true) (sb : okSh b = true) (sd : okSh d = true) (h : parT c x px y py z pz a b d = true) (hk : X.env.scope.kind = .function) :
    swappedStores [.Tuple [.Name x px, .Name y py, .Name z pz] k pt] (.Tuple [a, b, d] k2 pt2) X.env = pure (some [x, y, z]) := by
  unfold parT at h
  simp only [Bool.and_eq_true, Bool.not_eq_true', decide_eq_false_iff_not] at h
  obtain ⟨h1, h2, h3, h4, h5, h6, h7, h8, h9, h10⟩ := h
  have kx : X.env.kindOf x = some .local := by
    unfold Env.kindOf
    rw [sc]
    exact isLoc_eq h1
  have ky : X.env.kindOf y = some .local := by
    unfold Env.kindOf
    rw [sc]
    exact isLoc_eq h2
  have kz : X.env.kindOf z = some .local := by
    unfold Env.kindOf
    rw [sc]
    exact isLoc_eq h3
  have hb := blkFn hk
  have h4' : py.line = px.line := by simpa using h4
  have h5' : pz.line = px.line := by simpa using h5
  have n2 : ([x, y, z] : List Str).eraseDups = [x, y, z] := by
    have f1 : ([y, z] : List Str).filter (fun b => !b == x) = [y, z] := by
      simp [Ne.symm h6, Ne.symm h7]
    have f2 : ([z] : List Str).filter (fun b => !b == y) = [z] := by
      simp [Ne.symm h8]
    rw [List.eraseDups_cons, f1, List.eraseDups_cons, f2]
    rfl
  have n3 : ([a, b, d] : List Expr).all (foldedForSure 8) = false := by simpa using h9
  have n4 : ([a, b, d] : List Expr).all (constantsAlone 8) = false := by simpa using h10
  have q1 : (Expr.Name x px).pos = px := by first | rfl | simp [Expr.pos]
  unfold swappedStores
  dsimp only
  split
  · rename_i h0
    simp [hb] at h0
  · split
    · rename_i h0
      exfalso
      simp only [List.any_cons, List.any_nil, Bool.or_false, Bool.or_eq_true] at h0
      rcases h0 with h0 | h0 | h0
      · cases a <;> first | (cases h0; done) | (cases sa; done)
      · cases b <;> first | (cases h0; done) | (cases sb; done)
      · cases d <;> first | (cases h0; done) | (cases sd; done)
    · simp [List.filterMap_cons, kx, ky, kz, q1, h4', h5', n2, n3, n4, h9, h10]
end
end Sd
namespace Sd
open PySem PySem.Spec PyProof.Rows L2
section
variable {Γ : Gam} {lev : Nat} {c : SC} {X : Cx} {Wh : WX}
theorem lc_parts (hlev : 2 ≤ lev) {elt : Expr} {gens : List Comprehension} {scope : Scope} {p : Pos} {x : Sd.X} (h : cE c (.ListComp elt gens scope p) = some x) :
    ∃ tg iter ifs own e t it cond, gens = [⟨tg, iter, ifs, 0⟩] ∧ x = .lc e t it cond (own.map (·.2)) ∧ blkC c.N c.sc scope own = true ∧ EOk Γ lev (c.blk scope) elt e ∧ TOk Γ lev (c.blk scope) (own.map (·.2)) tg t ∧ IOk Γ lev c iter it ∧ tgOk it tg = true ∧ IfOk Γ lev (c.blk scope) ifs cond := by
  match gens, h with
  | [⟨tg, iter, ifs, 0⟩], h =>
    simp only [cE] at h
    split at h
    · rename_i own eo
      split at h
      · rename_i hb
        split at h
        · rename_i e t it cond e1 e2 e3 e4
          cases h
          obtain ⟨e3, hk⟩ := chkT_some e3
          have hi : IOk Γ lev c iter it := by
            split at e3
            · rename_i it2 er
              cases e3
              exact cR_ok hlev iter c it er
            · obtain ⟨xi, h1, rfl⟩ := o1_some e3
              exact i_of (cE_ok hlev iter c xi h1)
          exact ⟨tg, iter, ifs, own, e, t, it, cond, rfl, rfl, hb, cE_ok hlev elt _ e e1, cT_ok hlev tg _ _ t e2, hi, hk, cIfs_ok hlev ifs _ cond e4⟩
        · cases h
      · cases h
    · cases h
theorem sw_yes {elt : Expr} {gs : List Comprehension} {s : Scope} {p px : Pos} {x : Str} {l : Nat} (ok : XOk Γ lev c X) (hk : X.env.scope.kind = .function) (h : swC c (.ListComp elt gs s p) x px.line = true) :
    X.env.scope.names.lookup x = some .local ∧ swapsWith (.ListComp elt gs s p) (some (.Name x px)) l X.env = pure true := by
  have h' : (isLoc (c.look x) && (px.line == p.line && !(s.names.any fun (n, k) => n == x && (k == .local || k == .cell)))) = true := h
  rw [Bool.and_eq_true, Bool.and_eq_true, Bool.not_eq_true'] at h'
  have e : X.env.scope.names.lookup x = some .local := by
    rw [ok.sc]
    exact isLoc_eq h'.1
  exact ⟨e, sw_true hk e h'.2.1 h'.2.2⟩
theorem any_cell {c : SC} {f : Expr → Option Str} (hf : ∀ e, f e ≠ none → ∃ x p, e = .Name x p ∧ isLoc (c.look x) = true) : ∀ {ts : List Expr}, anyCell c ts = true → (ts.filterMap f).length ≠ ts.length
  | [], h => by cases h
  | e :: r, h => by
    have hl : ∀ r : List Expr, (r.filterMap f).length ≤ r.length := fun r => List.length_filterMap_le f r
    cases q : f e with
    | none =>
      rw [List.filterMap_cons, q]
      have := hl r
      simp only [List.length_cons]
      omega
    | some y =>
      obtain ⟨x, p, rfl, hx⟩ := hf e (by rw [q]; simp)
      have h' : (!isLoc (c.look x) || anyCell c r) = true := h
      rw [hx, Bool.not_true, Bool.false_or] at h'
      rw [List.filterMap_cons, q]
      have := any_cell hf h'
      simpa using this
theorem st_gen {ts : List Expr} {k : Nat} {pt : Pos} {e : Expr} (sc : X.env.scope = c.sc) (h : (isTup e && !genT c ts) = false) : swappedStores [.Tuple ts k pt] e X.env = pure none := by
  by_cases he : isTup e = true
  · cases e <;> (try (cases he; done))
    rename_i vs k2 p2
    have hn : genT c ts = true := by
      cases q : genT c ts with
      | true => rfl
      | false => rw [q] at h; cases h
    unfold genT at hn
    rw [Bool.or_eq_true] at hn
    unfold swappedStores
    dsimp only
    split
    · rfl
    · rename_i hlen
      split
      · rfl
      · rcases hn with hn | hn
        · rw [if_pos]
          rw [Bool.or_eq_true]
          left
          refine bne_iff_ne.mpr (any_cell (c := c) ?_ hn)
          intro e0 h0
          cases e0 <;> (try (exact absurd rfl h0))
          rename_i x px
          refine ⟨x, px, rfl, ?_⟩
          dsimp only at h0
          have ek : X.env.kindOf x = c.look x := by
            unfold Env.kindOf SC.look
            rw [sc]
          rw [ek] at h0
          cases ql : c.look x with
          | none => rw [ql] at h0; exact absurd rfl h0
          | some kk => cases kk <;> first | rfl | (rw [ql] at h0; exact absurd rfl h0)
        · exfalso
          have hn' : 3 < ts.length := of_decide_eq_true hn
          apply hlen
          simp only [Bool.or_eq_true, Bool.not_eq_true', Bool.or_eq_false_iff, beq_eq_false_iff_ne, ne_eq]
          left
          left
          omega
  · cases e <;> first | rfl | exact absurd rfl he
theorem st_fold {ts vs : List Expr} {k k2 : Nat} {pt p2 : Pos} {env : Env} (h : vs.all (foldedForSure 8) = true) : swappedStores [.Tuple ts k pt] (.Tuple vs k2 p2) env = pure none := by
  unfold swappedStores
  dsimp only
  split
  · rfl
  · split
    · rfl
    · split
      · rfl
      · first | rfl | (rw [if_pos h]; done) | (rw [if_pos h]; rfl)
theorem sole_no {tg e : Expr} {l : Nat} {env : Env} (h : ∀ x p, tg ≠ .Name x p) : swapsWithSole [tg] e l env = pure false := by
  unfold swapsWithSole swapsWith
  cases e <;> first
    | rfl
    | (cases tg <;> first | rfl | exact absurd rfl (h _ _))
theorem sub_none {a i e : Expr} {p : Pos} {env : Env} : swappedStores [.Subscript a i p] e env = pure none := by
  cases e <;> rfl
theorem asg_ok (hlev : 2 ≤ lev) {tg e : Expr} {p : Pos} {all : List Nat} {z : Z} (h : cAsg c tg e (cE c e) (cT c all tg) ((twoE e).bind fun q => cE c q.1) ((twoE e).bind fun q => cE c q.2.1) ((twoE e).bind fun q => cE c q.2.2) = some z) : ZOk Γ lev c (.Assign [tg] e p) z := by
  unfold cAsg at h
  split at h
  · rename_i x px
    split at h
    · rename_i i ei
      split at h
      · rename_i hc
        obtain ⟨v, h1, rfl⟩ := o1_some h
        intro X Wh ok s tk
        cases hsw : swC c e x px.line with
        | true =>
          cases e <;> (try (cases hsw; done))
          rename_i elt gens scope pe
          obtain ⟨tg, iter, ifs, own, e, t, it, cond, rfl, rfl, hb, he, ht, hi, hk, hf⟩ := lc_parts (Γ := Γ) hlev h1
          obtain ⟨w1, w2⟩ := sw_yes (l := p.line) ok s.kind hsw
          have bo : BlkOk X.N X.env.scope scope own := by
            rw [ok.N, ok.sc]
            exact blkOk_by hb
          exact s_setLc ok.calm (by rw [ok.N]; exact ok.nd) (by rw [ok.N]; exact ixOf_get ei) w1 w2 (hi.2 X Wh tg hk ok tk) bo (fun s H C cl fp => ht.2 _ _ (ok.blk scope s H C cl fp) takes_blk) (fun s H C cl fp => hf _ _ (ok.blk scope s H C cl fp) takes_blk) (fun s H C cl fp => he.pe _ _ (ok.blk scope s H C cl fp) takes_blk) (sh_fold hi.1 X.env)
        | false =>
          have he := cE_ok (Γ := Γ) hlev e c v h1
          exact s_set (by rw [ok.N]; exact ok.nd) (by rw [ok.N]; exact ixOf_get ei) (ok.can hc).1 (he.pe X Wh ok tk) (sw_no ok.sc he.sh hsw s.kind) (ok.can hc).2
      · cases h
    · cases h
  · rename_i x px y py k1 p1 a b k2 p2
    split at h
    · rename_i hp
      split at h
      · rename_i i j ei ej
        obtain ⟨u, v, h1, h2, rfl⟩ := o2_some h
        have ha := cE_ok (Γ := Γ) hlev a c u h1
        have hb := cE_ok (Γ := Γ) hlev b c v h2
        intro X Wh ok s tk
        have hp' := hp
        unfold parB at hp'
        simp only [Bool.and_eq_true, Bool.not_eq_true', decide_eq_false_iff_not] at hp'
        have hij : i ≠ j := fun q => by
          subst q
          have e1 := ixOf_get ei
          rw [ixOf_get ej] at e1
          exact hp'.2.2.2.1 (Option.some.inj e1).symm
        have key : (wZ Γ (.asg (.tp [.nm i, .nm j]) (.tp [u, v]))) = fun N ρ S W => wE Γ u ρ S (fun d S1 => wE Γ v ρ S1 (fun d' S2 => N.nx ((ρ.set i (some d)).set j (some d')) S2) W) W := by
          funext N ρ S W
          simp only [wZ, wE, wEs, wT, wTs, List.length_cons, List.length_nil]
          have e0 : (0 + 1 + 1 ≤ sizeLine) = True := by
            rw [sizeLine_eq]
            simp
          simp only [e0, true_and]
        rw [key]
        exact s_par ok.calm (by rw [ok.N]; exact ok.nd) (by rw [ok.N]; exact ixOf_get ei) (by rw [ok.N]; exact ixOf_get ej) hij (by rw [ok.sc]; exact isLoc_eq hp'.1) (by rw [ok.sc]; exact isLoc_eq hp'.2.1) (ha.pe X Wh ok tk) (hb.pe X Wh ok tk) (sh_star ha.sh _ _) (sh_star hb.sh _ _) (par_st ok.sc ha.sh hb.sh hp s.kind)
      · cases h
    · split at h
      · rename_i hg
        obtain ⟨v, t, h1, h2, rfl⟩ := o2_some h
        have he := cE_ok (Γ := Γ) hlev _ c v h1
        have ht := cT_ok (Γ := Γ) hlev _ c all t h2
        intro X Wh ok s tk
        rw [Bool.or_eq_true] at hg
        refine s_asg (he.pe X Wh ok tk) (ht.2 X Wh ok tk) (sole_no (fun _ _ q => by cases q)) ?_ rfl
        rcases hg with hg | hg
        · exact st_gen ok.sc (by rw [hg]; simp)
        · exact st_fold hg
      · cases h
  · rename_i x px y py z pz k1 p1 a b d k2 p2
    split at h
    · rename_i hp
      split at h
      · rename_i i j l ei ej el
        obtain ⟨u, v, w, h1, h2, h3, rfl⟩ := o3_some h
        have ha := cE_ok (Γ := Γ) hlev a c u h1
        have hb := cE_ok (Γ := Γ) hlev b c v h2
        have hd := cE_ok (Γ := Γ) hlev d c w h3
        intro X Wh ok s tk
        have hp' := hp
        unfold parT at hp'
        simp only [Bool.and_eq_true, Bool.not_eq_true', decide_eq_false_iff_not] at hp'
        obtain ⟨w1, w2, w3, _, _, w6, w7, w8, _, _⟩ := hp'
        have hij : i ≠ j := fun q => by
          subst q
          have e1 := ixOf_get ei
          rw [ixOf_get ej] at e1
          exact w6 (Option.some.inj e1).symm
        have hil : i ≠ l := fun q => by
          subst q
          have e1 := ixOf_get ei
          rw [ixOf_get el] at e1
          exact w7 (Option.some.inj e1).symm
        have hjl : j ≠ l := fun q => by
          subst q
          have e1 := ixOf_get ej
          rw [ixOf_get el] at e1
          exact w8 (Option.some.inj e1).symm
        have key : (wZ Γ (.asg (.tp [.nm i, .nm j, .nm l]) (.tp [u, v, w]))) = fun N ρ S W => wE Γ u ρ S (fun d S1 => wE Γ v ρ S1 (fun d' S2 => wE Γ w ρ S2 (fun d'' S3 => N.nx (((ρ.set i (some d)).set j (some d')).set l (some d'')) S3) W) W) W := by
          funext N ρ S W
          simp only [wZ, wE, wEs, wT, wTs, List.length_cons, List.length_nil]
          have e0 : (0 + 1 + 1 + 1 ≤ sizeLine) = True := by
            rw [sizeLine_eq]
            simp
          simp only [e0, true_and]
        rw [key]
        exact s_par3 ok.calm (by rw [ok.N]; exact ok.nd) (by rw [ok.N]; exact ixOf_get ei) (by rw [ok.N]; exact ixOf_get ej) (by rw [ok.N]; exact ixOf_get el) hij hil hjl (by rw [ok.sc]; exact isLoc_eq w1) (by rw [ok.sc]; exact isLoc_eq w2) (by rw [ok.sc]; exact isLoc_eq w3) (ha.pe X Wh ok tk) (hb.pe X Wh ok tk) (hd.pe X Wh ok tk) (sh_star ha.sh _ _) (sh_star hb.sh _ _) (sh_star hd.sh _ _) (par3_st ok.sc ha.sh hb.sh hd.sh hp s.kind)
      · cases h
    · split at h
      · rename_i hg
        obtain ⟨v, t, h1, h2, rfl⟩ := o2_some h
        have he := cE_ok (Γ := Γ) hlev _ c v h1
        have ht := cT_ok (Γ := Γ) hlev _ c all t h2
        intro X Wh ok s tk
        rw [Bool.or_eq_true] at hg
        refine s_asg (he.pe X Wh ok tk) (ht.2 X Wh ok tk) (sole_no (fun _ _ q => by cases q)) ?_ rfl
        rcases hg with hg | hg
        · exact st_gen ok.sc (by rw [hg]; simp)
        · exact st_fold hg
      · cases h
  · rename_i ts k1 p1 e _ 
    split at h
    · cases h
    · rename_i hn
      obtain ⟨v, t, h1, h2, rfl⟩ := o2_some h
      have he := cE_ok (Γ := Γ) hlev _ c v h1
      have ht := cT_ok (Γ := Γ) hlev _ c all t h2
      intro X Wh ok s tk
      exact s_asg (he.pe X Wh ok tk) (ht.2 X Wh ok tk) (sole_no (fun _ _ q => by cases q)) (st_gen ok.sc (by simpa using hn)) rfl
  · rename_i a i p1 e
    obtain ⟨v, t, h1, h2, rfl⟩ := o2_some h
    have he := cE_ok (Γ := Γ) hlev _ c v h1
    have ht := cT_ok (Γ := Γ) hlev _ c all t h2
    intro X Wh ok s tk
    exact s_asg (he.pe X Wh ok tk) (ht.2 X Wh ok tk) (sole_no (fun _ _ q => by cases q)) sub_none rfl
  · cases h
theorem rz_ok {a b : Option Expr} {p : Pos} {z : Z} (hlev : 2 ≤ lev) (h : cRz c a b = some z) : ZOk Γ lev c (.Raise a b p) z := by
  unfold cRz at h
  split at h
  · rename_i x px m j p2 pc
    split at h
    · rename_i hp
      rw [Bool.and_eq_true] at hp
      split at h
      · rename_i k ek
        split at h
        · rename_i hk
          cases h
          intro X Wh ok s tk
          obtain ⟨z1, z2, z3⟩ := ok.F.cls x k ek
          obtain ⟨r1, r2, r3, r4⟩ := s.rz x k ek hk
          subst z1
          exact s_rz ok.calm tk z2 r1 z3 r2 r3 r4 (ok.gl hp.2) (plain_parts hp.1).1
        · cases h
      · cases h
    · cases h
  · rename_i x px e pc _
    split at h
    · rename_i hp
      rw [Bool.and_eq_true] at hp
      split at h
      · rename_i k ek
        obtain ⟨xe, h1, rfl⟩ := o1_some h
        have he := cE_ok (Γ := Γ) hlev e c xe h1
        intro X Wh ok s tk
        obtain ⟨z1, kn, gC, fI, fd, ps, T, iC, tI, F1, hb⟩ := s.ini x k ek
        subst z1
        have hst := sh_star he.sh [] X.env
        refine PS.imp (s_rzf ok.calm tk kn T iC tI F1 (ok.room.mono hlev) hb (ok.gl hp.2) gC (l_cons (he.pe X Wh ok tk) l_nil hst) (plain_parts hp.1).1 hst) fun D0 σ H ⟨ρ, S, W, N, se, wl, sl, hw⟩ => ⟨ρ, S, W, N, se, wl, sl, ?_⟩
        have e2 : (fun (x : Sd.D) (S1 : Sto) => ∃ d, [x] = [d] ∧ W k (some d) ρ S1) = fun d S1 => W k (some d) ρ S1 := by
          funext x S1
          exact propext ⟨fun ⟨d, e, h⟩ => by cases e; exact h, fun h => ⟨x, rfl, h⟩⟩
        show wE Γ xe ρ S (fun x S1 => ∃ d, [x] = [d] ∧ W k (some d) ρ S1) W
        rw [e2]
        simp only [wZ] at hw
        exact hw
      · cases h
    · cases h
  · cases h
theorem tr_ok {b : List Stmt} {hs : List ExceptHandler} {p : Pos} {zs : List Z} {q : Nat × Nat × Nat} (hq : cHand c hs = some q) (hb : ZsOk Γ lev c b zs) : ZOk Γ lev c (.Try b hs [] [] p) (.tr zs q.1 q.2.1 q.2.2) := by
  unfold cHand at hq
  split at hq
  · rename_i x px n y py m pm pa ph
    split at hq
    · rename_i hc
      simp only [Bool.and_eq_true, decide_eq_true_eq] at hc
      obtain ⟨c1, c2, c3, c4, c5, rfl⟩ := hc
      split at hq
      · rename_i k i j ek ei ej
        split at hq
        · cases hq
        · rename_i hij
          cases hq
          intro X Wh ok s tk
          obtain ⟨z1, z2, z3⟩ := ok.F.cls x k ek
          have hl : X.env.kindOf m = some .local := by
            unfold Env.kindOf
            rw [ok.sc]
            exact isLoc_eq c4
          refine PS.imp (ps_try_keep (tb := fun W => LS X.K W (wZs Γ zs)) s.stk s.frm s.exn (by rw [ok.N]; exact ok.nd) (by rw [ok.N]; exact ixOf_get ei) hl (by rw [ok.N]; exact ixOf_get ej) (ok.can c5).1 (ok.can c5).2 (plain_parts c3).1 (plain_parts c3).2.1
            ⟨ok.gl c2, (plain_parts c1).1, .inl z3⟩ tk (fun W pn xe tw po => hb (X.tr pn xe) W (ok.tr pn xe) (s.tr po) tw)) fun D σ H ⟨ρ, S, W, N, se, wl, sl, h⟩ => ?_
          refine ⟨ρ, S, _, N, se, fun jj f ρ1 S1 w d σ1 H1 k1 se1 fl => ?_, sl, h⟩
          subst z1
          have f2 := ok.F.cfs.two jj k fl.kn z2
          refine ⟨subK jj k, f2.exm, fun hb2 a ha => ?_, fun hb2 => ?_⟩
          · rw [if_pos hb2] at w
            have sn : S1 a = none := se1.sto.free ha
            have so2 : StoOk X.K (upd H1 a (ExV (.ref (gaK X.K (clsN jj))) d a)) (S1.up a (.exc jj f)) := se1.sto.new ha ⟨d, upd_same, fl.sm (Sm.new ha)⟩
            have se2 := se1.at (Kp.new (o := ExV (.ref (gaK X.K (clsN jj))) d a) ha) so2
            have se3 := ((se2.set i (d := .ref a) (v := .ref a) rfl).set j (d := .ref a) (v := .ref a) rfl).unset i none
            have el : (((ρ1.set i (some (Sd.D.ref a))).set j (some (Sd.D.ref a))).set i none) = (ρ1.set j (some (Sd.D.ref a))).set i none := by
              rw [List.set_comm _ _ hij, List.set_set]
            rw [el] at se3
            exact sl.nx _ _ (w a sn) _ _ (k1.trans (Kp.new ha)) se3
          · rw [if_neg (by rw [hb2]; simp)] at w
            exact wl jj f ρ1 S1 w d σ1 H1 k1 se1 fl
      · cases hq
    · cases hq
  · cases hq
theorem tr2_ok {b : List Stmt} {hs : List ExceptHandler} {p : Pos} {zs : List Z} {q : Nat × Nat × Nat × Nat} (hq : cHand2 c hs = some q) (hb : ZsOk Γ lev c b zs) : ZOk Γ lev c (.Try b hs [] [] p) (.tr2 zs q.1 q.2.1 q.2.2.1 q.2.2.2) := by
  unfold cHand2 at hq
  split at hq
  · rename_i x px n y py m pm pa z pz kz pk pa2 ph
    split at hq
    · rename_i hc
      simp only [Bool.and_eq_true, decide_eq_true_eq] at hc
      obtain ⟨c1, c2, c3, c4, c5, c6, rfl⟩ := hc
      split at hq
      · rename_i k i j l ek ei ej el
        split at hq
        · cases hq
        · rename_i hij
          cases hq
          intro X Wh ok s tk
          obtain ⟨z1, z2, z3⟩ := ok.F.cls x k ek
          have hl : X.env.kindOf m = some .local := by
            unfold Env.kindOf
            rw [ok.sc]
            exact isLoc_eq c4
          refine PS.imp (ps_try_keep2 (tb := fun W => LS X.K W (wZs Γ zs)) s.stk s.frm s.exn (by rw [ok.N]; exact ok.nd) (by rw [ok.N]; exact ixOf_get ei) hl (by rw [ok.N]; exact ixOf_get ej) (ok.can c5).1 (ok.can c5).2 (by rw [ok.N]; exact ixOf_get el) (ok.can c6).1 (ok.can c6).2 (plain_parts c3).1 (plain_parts c3).2.1
            ⟨ok.gl c2, (plain_parts c1).1, .inl z3⟩ tk (fun W pn xe tw po => hb (X.tr pn xe) W (ok.tr pn xe) (s.tr po) tw)) fun D σ H ⟨ρ, S, W, N, se, wl, sl, h⟩ => ?_
          refine ⟨ρ, S, _, N, se, fun jj f ρ1 S1 w d σ1 H1 k1 se1 fl => ?_, sl, h⟩
          subst z1
          have f2 := ok.F.cfs.two jj k fl.kn z2
          refine ⟨subK jj k, f2.exm, fun hb2 a ha => ?_, fun hb2 => ?_⟩
          · rw [if_pos hb2] at w
            have sn : S1 a = none := se1.sto.free ha
            have so2 : StoOk X.K (upd H1 a (ExV (.ref (gaK X.K (clsN jj))) d a)) (S1.up a (.exc jj f)) := se1.sto.new ha ⟨d, upd_same, fl.sm (Sm.new ha)⟩
            have se2 := se1.at (Kp.new (o := ExV (.ref (gaK X.K (clsN jj))) d a) ha) so2
            have se3 := (((se2.set i (d := .ref a) (v := .ref a) rfl).set j (d := .ref a) (v := .ref a) rfl).set l (d := .non) (v := .non) rfl).unset i none
            have hil : i ≠ l := fun e => hij (.inr e)
            have el2 : ((((ρ1.set i (some (Sd.D.ref a))).set j (some (Sd.D.ref a))).set l (some .non)).set i none) = ((ρ1.set j (some (Sd.D.ref a))).set l (some .non)).set i none := by
              rw [List.set_comm _ _ (fun e => hij (.inl e) : i ≠ j), List.set_comm _ _ hil, List.set_set]
            rw [el2] at se3
            exact sl.nx _ _ (w a sn) _ _ (k1.trans (Kp.new ha)) se3
          · rw [if_neg (by rw [hb2]; simp)] at w
            exact wl jj f ρ1 S1 w d σ1 H1 k1 se1 fl
      · cases hq
    · cases hq
  · cases hq
theorem tr3_ok {b : List Stmt} {hs : List ExceptHandler} {p : Pos} {zs : List Z} {q : Nat × Nat × Nat × Nat × Str} (hq : cHand3 c hs = some q) (hb : ZsOk Γ lev c b zs) : ZOk Γ lev c (.Try b hs [] [] p) (.tr3 zs q.1 q.2.1 q.2.2.1 q.2.2.2.1 q.2.2.2.2) := by
  unfold cHand3 at hq
  split at hq
  · rename_i x px n y py m pm pa z pz t kt pt kz pk pa2 ph
    split at hq
    · rename_i hc
      simp only [Bool.and_eq_true, decide_eq_true_eq] at hc
      obtain ⟨c1, c2, c3, c4, c5, c6, rfl⟩ := hc
      split at hq
      · rename_i k i j l ek ei ej el
        split at hq
        · cases hq
        · rename_i hij
          cases hq
          intro X Wh ok s tk
          obtain ⟨z1, z2, z3⟩ := ok.F.cls x k ek
          have hl : X.env.kindOf m = some .local := by
            unfold Env.kindOf
            rw [ok.sc]
            exact isLoc_eq c4
          refine PS.imp (ps_try_keepG (t2 := tTup (tCons (tC (.str t)) tNil)) (tb := fun W => LS X.K W (wZs Γ zs)) s.stk s.frm s.exn (by rw [ok.N]; exact ok.nd) (by rw [ok.N]; exact ixOf_get ei) hl (by rw [ok.N]; exact ixOf_get ej) (ok.can c5).1 (ok.can c5).2 (by rw [ok.N]; exact ixOf_get el) (ok.can c6).1 (ok.can c6).2 (plain_parts c3).1 (plain_parts c3).2.1
            ⟨ok.gl c2, (plain_parts c1).1, .inl z3⟩ tk (fun Y _ => pe_tup (pa_cons pe_str pa_nil)) (fun σ H Q Q' hq h => ⟨h.1, fun p hp => hq _ _ (h.2 p hp)⟩) (fun _ => rfl) (fun W pn xe tw po => hb (X.tr pn xe) W (ok.tr pn xe) (s.tr po) tw)) fun D σ H ⟨ρ, S, W, N, se, wl, sl, h⟩ => ?_
          refine ⟨ρ, S, _, N, se, fun jj f ρ1 S1 w d σ1 H1 k1 se1 fl => ?_, sl, h⟩
          subst z1
          have f2 := ok.F.cfs.two jj k fl.kn z2
          refine ⟨subK jj k, f2.exm, fun hb2 a ha => ?_, fun hb2 => ?_⟩
          · rw [if_pos hb2] at w
            refine ⟨by rw [sizeLine_eq]; simp, fun p hp ha6 => ?_⟩
            have hpa : a ≠ p := fun z => by rw [← z, upd_same] at ha6; cases ha6
            have sn : S1 a = none := se1.sto.free ha
            have so1 : StoOk X.K (upd H1 p (.tup [.str t])) S1 := se1.sto.sm (Sm.new hp)
            have so2 : StoOk X.K (upd (upd H1 p (.tup [.str t])) a (ExV (.ref (gaK X.K (clsN jj))) d a)) (S1.up a (.exc jj f)) := so1.new ha6 ⟨d, upd_same, (fl.sm (Sm.new hp)).sm (Sm.new ha6)⟩
            have se2 := se1.at ((Kp.new (o := .tup [.str t]) hp).trans (Kp.new (o := ExV (.ref (gaK X.K (clsN jj))) d a) ha6)) so2
            have hat : (upd (upd H1 p (.tup [.str t])) a (ExV (.ref (gaK X.K (clsN jj))) d a)) p = some (.tup [.str t]) := by rw [upd_ne (fun z => hpa z.symm), upd_same]
            have se3 := (((se2.set i (d := .ref a) (v := .ref a) rfl).set j (d := .ref a) (v := .ref a) rfl).set l (d := .tup [.str t]) (v := .ref p) ⟨p, [.str t], rfl, .inl (.inl hat), ⟨.str t, [], rfl, rfl, rfl⟩⟩).unset i none
            have hil : i ≠ l := fun e => hij (.inr e)
            have el2 : ((((ρ1.set i (some (Sd.D.ref a))).set j (some (Sd.D.ref a))).set l (some (.tup [.str t]))).set i none) = ((ρ1.set j (some (Sd.D.ref a))).set l (some (.tup [.str t]))).set i none := by
              rw [List.set_comm _ _ (fun e => hij (.inl e) : i ≠ j), List.set_comm _ _ hil, List.set_set]
            rw [el2] at se3
            exact sl.nx _ _ (w a sn) _ _ (k1.trans ((Kp.new hp).trans (Kp.new ha6))) se3
          · rw [if_neg (by rw [hb2]; simp)] at w
            exact wl jj f ρ1 S1 w d σ1 H1 k1 se1 fl
      · cases hq
    · cases hq
  · cases hq
end
section
variable {Γ : Gam} {lev : Nat} (hlev : 2 ≤ lev)
include hlev
mutual
theorem cZ_ok : ∀ (st : Stmt) (c : SC) (all : List Nat) (z : Z), cZ c all st = some z → ZOk Γ lev c st z
  | .Assign tgs e p, c, all, z, h => by
    match tgs, h with
    | [tg], h =>
      simp only [cZ] at h
      exact asg_ok hlev h
    | [], h => simp [cZ] at h
    | _ :: _ :: _, h => simp [cZ] at h
  | .AugAssign tg o e p, c, all, z, h => by
    cases tg <;> (try (simp [cZ] at h; done))
    case Subscript a i ps =>
      simp only [cZ] at h
      split at h
      · rename_i hc
        rw [Bool.and_eq_true] at hc
        obtain ⟨u, v, w, h1, h2, h3, rfl⟩ := o3_some h
        have ha := cE_ok (Γ := Γ) hlev a c u h1
        have hi := cE_ok (Γ := Γ) hlev i c v h2
        have he := cE_ok (Γ := Γ) hlev e c w h3
        intro X Wh ok s tk
        have hsl : isSliceE i = false := by
          have := hc.2
          cases i <;> first | rfl | (cases this; done)
        exact s_augx (by cases o <;> first | exact .inl rfl | exact .inr rfl | (cases hc.1; done)) hsl (ha.pe X Wh ok tk) (hi.pe X Wh ok tk) (he.pe X Wh ok tk)
      · cases h
    case Name x px =>
      simp only [cZ] at h
      split at h
      · rename_i hc
        rw [Bool.and_eq_true] at hc
        split at h
        · rename_i i ei
          obtain ⟨v, h1, rfl⟩ := o1_some h
          have he := cE_ok (Γ := Γ) hlev e c v h1
          intro X Wh ok s tk
          exact s_aug (by cases o <;> first | exact .inl rfl | exact .inr rfl | (cases hc.1; done)) (by rw [ok.N]; exact ok.nd) (by rw [ok.N]; exact ixOf_get ei) (ok.can hc.2).1 (he.pe X Wh ok tk) (ok.can hc.2).2
        · cases h
      · cases h
  | .Expr e p, c, all, z, h => by
    simp only [cZ] at h
    split at h
    · cases h
    · rename_i hc
      obtain ⟨v, h1, rfl⟩ := o1_some h
      have he := cE_ok (Γ := Γ) hlev e c v h1
      intro X Wh ok s tk
      exact s_ex (he.pe X Wh ok tk) (sh_sw he.sh (by simpa using hc) _ _ _)
  | .Return o p, c, all, z, h => by
    cases o with
    | none =>
      simp only [cZ, Option.some.injEq] at h
      subst h
      intro X Wh ok s tk
      exact s_retN
    | some e =>
      simp only [cZ] at h
      obtain ⟨v, h1, rfl⟩ := o1_some h
      have he := cE_ok (Γ := Γ) hlev e c v h1
      intro X Wh ok s tk
      exact s_ret (he.pe X Wh ok tk)
  | .If t a b p, c, all, z, h => by
    simp only [cZ] at h
    obtain ⟨xt, za, zb, h1, h2, h3, rfl⟩ := o3_some h
    have ht := cE_ok (Γ := Γ) hlev t c xt h1
    have ha := cZs_ok a c all za h2
    have hb := cZs_ok b c all zb h3
    intro X Wh ok s tk
    exact s_if (ht.pt X Wh ok tk) (ha X Wh ok s tk) (hb X Wh ok s tk)
  | .While t b els p, c, all, z, h => by
    cases els with
    | cons => simp [cZ] at h
    | nil =>
      simp only [cZ] at h
      obtain ⟨xt, zb, h1, h3, rfl⟩ := o2_some h
      have ht := cE_ok (Γ := Γ) hlev t c xt h1
      have hb := cZs_ok b c all zb h3
      intro X Wh ok s tk
      exact s_while s.own (ht.pt X Wh ok tk) (hb X Wh ok s tk)
  | .For tg it b els p, c, all, z, h => by
    cases els with
    | cons => simp [cZ] at h
    | nil =>
      simp only [cZ] at h
      obtain ⟨t, i, zb, h1, h2, h3, rfl⟩ := o3_some h
      have ht := cT_ok (Γ := Γ) hlev tg c all t h1
      unfold cI at h2
      obtain ⟨h2, hk⟩ := chkT_some h2
      have hi : IOk Γ lev c it i := by
        split at h2
        · rename_i it2 er
          cases h2
          exact cR_ok hlev it c i er
        · obtain ⟨xi, h4, rfl⟩ := o1_some h2
          exact i_of (cE_ok hlev it c xi h4)
      have hb := cZs_ok b c all zb h3
      intro X Wh ok s tk
      exact s_for s.own ok.calm (hi.2 X Wh tg hk ok tk) (ht.2 X Wh ok tk) (hb X Wh ok s tk) (sh_fold hi.1 X.env)
  | .Raise a b p, c, all, z, h => by
    simp only [cZ] at h
    exact rz_ok hlev h
  | .Try b hs els fin p, c, all, z, h => by
    cases els with
    | cons => simp [cZ] at h
    | nil =>
      cases fin with
      | cons => simp [cZ] at h
      | nil =>
        simp only [cZ] at h
        split at h
        · rename_i q hq
          obtain ⟨zs, h1, rfl⟩ := o1_some h
          exact tr_ok hq (cZs_ok b c all zs h1)
        · split at h
          · rename_i q hq
            obtain ⟨zs, h1, rfl⟩ := o1_some h
            exact tr2_ok hq (cZs_ok b c all zs h1)
          · split at h
            · rename_i q hq
              obtain ⟨zs, h1, rfl⟩ := o1_some h
              exact tr3_ok hq (cZs_ok b c all zs h1)
            · cases h
  | .Pass p, c, all, z, h => by
    simp only [cZ, Option.some.injEq] at h
    subst h
    intro X Wh ok s tk
    exact s_pass
  | .Continue p, c, all, z, h => by
    simp only [cZ, Option.some.injEq] at h
    subst h
    intro X Wh ok s tk
    exact s_cont
  | .Break p, c, all, z, h => by
    simp only [cZ, Option.some.injEq] at h
    subst h
    intro X Wh ok s tk
    exact s_brk
  | .FunctionDef .., c, all, z, h | .AsyncFunctionDef .., c, all, z, h | .ClassDef .., c, all, z, h | .Delete .., c, all, z, h | .TypeAlias .., c, all, z, h | .AnnAssign .., c, all, z, h | .AsyncFor .., c, all, z, h | .With .., c, all, z, h | .AsyncWith .., c, all, z, h
  | .Match .., c, all, z, h | .TryStar .., c, all, z, h | .Assert .., c, all, z, h | .Import .., c, all, z, h | .ImportFrom .., c, all, z, h | .Global .., c, all, z, h | .Nonlocal .., c, all, z, h => by simp [cZ] at h
theorem cZs_ok : ∀ (ss : List Stmt) (c : SC) (all : List Nat) (zs : List Z), cZs c all ss = some zs → ZsOk Γ lev c ss zs
  | [], c, all, zs, h => by
    simp only [cZs, Option.some.injEq] at h
    subst h
    intro X Wh ok s tk
    exact s_nil
  | st :: ss, c, all, zs, h => by
    simp only [cZs] at h
    obtain ⟨z, zr, h1, h2, rfl⟩ := o2_some h
    have hz := cZ_ok st c all z h1
    have hr := cZs_ok ss c all zr h2
    intro X Wh ok s tk
    show PSs X (st :: ss) (LS X.K Wh fun N ρ S W => wZ Γ z { N with nx := fun ρ1 S1 => wZs Γ zr N ρ1 S1 W } ρ S W)
    exact s_cons (hz X Wh ok s tk) (hr X Wh ok s tk)
end
end
end Sd
namespace Sd
open PySem PySem.Spec PyProof.Rows L2
def startD (n : Nat) (ds : List D) : DSt := ds.map some ++ List.replicate (n - ds.length) none
def retE (P : PD) : DE := { nx := fun _ S => ∃ S', Sto.le S' S ∧ P .non S', rt := fun d S => ∃ S', Sto.le S' S ∧ P d S' }
def errW (W : FW) : AW := fun k f _ S => ∃ S', Sto.le S' S ∧ W k f S'
def Meets (Γ : Gam) (n : Nat) (zs : List Z) (con : Con) : Prop := ∀ ds S P W, con ds S P W → wZs Γ zs (retE P) (startD n ds) S (errW W)
theorem start_sees {K : PySem.W.Frag} {H : Hp} {S : Sto} {N : List Str} {ds : List D} {vs : List V} (r : Rps K H ds vs) (s : StoOk K H S) : Sees K H (L2.start N vs) (startD N.length ds) S := by
  have hl := r.length
  refine ⟨by simp [startD, L2.start, hl], fun i d e => ?_, s⟩
  unfold startD at e
  unfold L2.start
  by_cases hi : i < ds.length
  · rw [List.getElem?_append_left (by simpa using hi), List.getElem?_map] at e
    cases q : ds[i]? with
    | none => rw [q] at e; cases e
    | some d' =>
      rw [q] at e
      cases e
      obtain ⟨v, h1, h2⟩ := r.get q
      exact ⟨v, by rw [List.getElem?_append_left (by rw [List.length_map, hl]; exact hi), List.getElem?_map, h1]; rfl, h2⟩
  · rw [List.getElem?_append_right (by simpa using hi), List.getElem?_replicate] at e
    split at e <;> cases e
structure DefOk (c : SC) (ps : List Str) (zs : List Z) (body : List Stmt) : Prop where
  sco : FnScope c.N ps c.sc
  all : c.st = fun _ => true
  com : cBody c body = some zs
theorem fn_ok {Γ : Gam} {lev : Nat} (hlev : 2 ≤ lev) {P : Program} {w : World} {K : PySem.W.Frag} {mg : Str → Option Value} {base : Heap} {x qual : Str} {params : Arguments} {body : List Stmt} {c : SC} {ps : List Str} {zs : List Z} {dvs : List V} {kws : List (Str × V)} {f : Addr} {fd : FuncData} {con : Con}
    (F : FunD K x qual params body c.sc dvs kws f fd) (dk : DefOk c ps zs body) (fx : Fx Γ lev c P w K mg base)
    (rz : ∀ x k, c.cls.lookup x = some k → plainC k = true → PySem.W.excIn K (gaK K (clsN k)) [.type "ValueError", .type "Exception", .type "BaseException", .type "object"] "ValueError.__new__" = true ∧ PySem.W.keepIn K (.ref (gaK K (clsN k))) = true ∧
      PySem.W.subIn K (.ref (gaK K (clsN k))) (.type "BaseException") = some true ∧ PySem.W.typeIn K (.ref (gaK K (clsN k))) = some (.type "type"))
    (ini : ∀ x k, c.rzs.lookup x = some k → clsN k = x ∧ IniOk P w K mg base k)
    (hm : Meets Γ c.N.length zs con) : FnOk P w K mg base (L2.CX P w) (lev + 1) f fd ps (spOf K ps.length con) := by
  refine F.ok dk.sco (fun vs H Q E h => h.1) (fun cdv A outer s H vs Q E hr h => ?_)
  have X := cxOf (L2.CX P w) P w K mg base c.N qual c.sc f cdv A outer s H E
  let Wh : WX := fun cls d _ H' => E cls d H'
  have ok : XOk Γ lev c (cxOf (L2.CX P w) P w K mg base c.N qual c.sc f cdv A outer s H E) := ⟨rfl, dk.sco.nd, rfl, fun _ _ => rfl, rfl, hr, fx⟩
  have tk : Takes (cxOf (L2.CX P w) P w K mg base c.N qual c.sc f cdv A outer s H E) Wh := takes_of rfl rfl rfl rfl
  have xs : XS Γ c (cxOf (L2.CX P w) P w K mg base c.N qual c.sc f cdv A outer s H E) := ⟨dk.sco.kind, rfl, rfl, rfl, PassesOwn.leaving, rz, ini⟩
  refine ⟨_, cZs_ok hlev body c _ zs dk.com _ Wh ok xs tk, ?_⟩
  obtain ⟨hl, ds, S, Pd, W, rd, so, pl, fl, hc⟩ := h
  refine ⟨startD c.N.length ds, S, errW W, retE Pd, start_sees rd so, fun k f' ρ S1 ⟨S2, le, w2⟩ d σ H' k1 se fd' => fl k f' S2 w2 d H' k1 (se.sto.le le) fd', ⟨fun ρ S1 ⟨S2, le, p2⟩ σ H' k1 se => pl .non S2 p2 _ H' k1 (se.sto.le le) rfl, fun d S1 ⟨S2, le, p2⟩ v H' k1 so1 r1 => pl d S2 p2 v H' k1 (so1.le le) r1, fun _ _ q => q.elim, fun _ _ q => q.elim⟩, hm ds S Pd W hc⟩
end Sd
namespace Sd
open PySem PySem.Spec PyProof.Rows L2
def eqF (a b : Option (Option Value)) : Bool := decide (a = b)
def knB (K : PySem.W.Frag) (k : Nat) : Bool := eqF (PySem.W.nsIn K mainGlobals (clsN k)) (some (some (.ref (gaK K (clsN k)))))
def excB (K : PySem.W.Frag) (C : Addr) : Bool :=
  eqF (PySem.W.findIn K (.ref C) "__getattribute__") (some (some (.builtin "BaseException.__getattribute__"))) && (eqF (PySem.W.findIn K (.ref C) "__getattr__") (some none) && (decide (PySem.W.subIn K (.ref C) (.type "BaseException") = some true) && (PySem.W.hasDictIn K C &&
    (eqF (PySem.W.findIn K (.ref C) "__class__") (some (some (.builtin "object.__class__"))) && (eqF (PySem.W.specialIn K (.builtin "object.__class__") "__get__") (some (some (.builtin "getset_descriptor.__get__"))) && (decide (PySem.W.takesIn K (.builtin "object.__class__") = some true) && decide (PySem.W.mroIn K C (.type "object") = some true)))))))
theorem excB_ok {K : PySem.W.Frag} {C : Addr} (h : excB K C = true) : ExcC K C := by
  unfold excB eqF at h
  simp only [Bool.and_eq_true, decide_eq_true_eq] at h
  obtain ⟨h1, h2, h3, h4, h5, h6, h7, h8⟩ := h
  exact ⟨h1, h2, h3, h4, h5, h6, h7, h8⟩
def cfB (K : PySem.W.Frag) (k : Nat) : Bool :=
  excB K (gaK K (clsN k)) && (eqF (PySem.W.findIn K (.ref (gaK K (clsN k))) (fldN k)) (some none) && (btNames.all (fun n => decide (PySem.W.kitOne K (.ref (gaK K (clsN k))) (.type n) = some (n == "ValueError"))) && btKinds.all (fun b => decide (PySem.W.kitOne K (.type b) (.ref (gaK K (clsN k))) = some false))))
theorem cfB_ok {K : PySem.W.Frag} {k : Nat} (h : cfB K k = true) : CF K k := by
  unfold cfB eqF at h
  simp only [Bool.and_eq_true, decide_eq_true_eq, List.all_eq_true] at h
  exact ⟨excB_ok h.1, h.2.1, h.2.2.1, h.2.2.2⟩
def cf2B (K : PySem.W.Frag) (j k : Nat) : Bool := decide (PySem.W.exmOne K (.ref (gaK K (clsN j))) (.ref (gaK K (clsN k))) = some (subK j k)) && decide (PySem.W.kitOne K (.ref (gaK K (clsN j))) (.ref (gaK K (clsN k))) = some (subK j k))
def clsB (L : List Nat) (K : PySem.W.Frag) : Bool := (List.range 18).all (fun k => L.contains k || !knB K k) && (L.all (fun k => decide (k < 18) && (knB K k && cfB K k)) && L.all fun j => L.all fun k => cf2B K j k)
theorem clsB_ok {L : List Nat} {K : PySem.W.Frag} (h : clsB L K = true) : CFs K ∧ ∀ k, k ∈ L → Kn K k := by
  unfold clsB at h
  simp only [Bool.and_eq_true, List.all_eq_true, decide_eq_true_eq, Bool.or_eq_true, Bool.not_eq_true', List.mem_range] at h
  obtain ⟨h1, h2, h3⟩ := h
  have inL : ∀ k, Kn K k → k ∈ L := fun k kn => by
    rcases h1 k kn.1 with z | z
    · simpa using z
    · have e : knB K k = true := by
        unfold knB eqF
        exact decide_eq_true kn.2
      rw [e] at z
      cases z
  refine ⟨⟨fun k kn => cfB_ok (h2 k (inL k kn)).2.2, fun j k kj kk => ?_⟩, fun k hk => ⟨(h2 k hk).1, ?_⟩⟩
  · have z := h3 j (inL j kj) k (inL k kk)
    unfold cf2B at z
    simp only [Bool.and_eq_true, decide_eq_true_eq] at z
    exact ⟨z.1, z.2⟩
  · have z := (h2 k hk).2.1
    unfold knB eqF at z
    exact of_decide_eq_true z
def rzB (L : List Nat) (K : PySem.W.Frag) : Bool := L.all fun k => !plainC k || (PySem.W.excIn K (gaK K (clsN k)) [.type "ValueError", .type "Exception", .type "BaseException", .type "object"] "ValueError.__new__" && (PySem.W.keepIn K (.ref (gaK K (clsN k))) &&
    (decide (PySem.W.subIn K (.ref (gaK K (clsN k))) (.type "BaseException") = some true) && decide (PySem.W.typeIn K (.ref (gaK K (clsN k))) = some (.type "type")))))
def oexB (K : PySem.W.Frag) (C : Addr) : Bool := (match K.lookup C with
    | some ⟨.type "type", _, .cls cc, ss⟩ => (match cc.mro, ss.toList with
      | .ref C1 :: ms, [_, _, _, _, some (.builtin nw), _] => decide (C1 = C) && (decide (nw = "ValueError.__new__") && (cc.hasDict && (!cc.hasDel && PySem.HandSPX.refsVE ms)))
      | _, _ => false)
    | _ => false) && (eqF (PySem.W.findIn K (.ref C) "__setattr__") (some (some (.builtin "object.__setattr__"))) && (decide (PySem.W.subIn K (.ref C) (.type "BaseException") = some true) && (decide (PySem.W.typeIn K (.ref C) = some (.type "type")) && PySem.W.keepIn K (.ref C))))
theorem oexB_ok {K : PySem.W.Frag} {C : Addr} (h : oexB K C = true) : OexC K C := by
  unfold oexB eqF at h
  simp only [Bool.and_eq_true, decide_eq_true_eq] at h
  obtain ⟨h0, h1, h2, h3, h4⟩ := h
  refine ⟨?_, h1, h2, h3, h4⟩
  split at h0
  · rename_i dd cc ss ho
    split at h0
    · rename_i C1 ms q0 q1 q2 q3 nw q5 hm hs
      simp only [Bool.and_eq_true, decide_eq_true_eq, Bool.not_eq_true'] at h0
      obtain ⟨rfl, rfl, z1, z2, z3⟩ := h0
      obtain ⟨y1, y2, y3, y4, y5, y6, y7, y8, y9, y10, y11⟩ := cc
      dsimp only at hm z1 z2
      subst hm z1 z2
      have hss : ss = #[q0, q1, q2, q3, some (.builtin "ValueError.__new__"), q5] := by
        obtain ⟨l⟩ := ss
        simp only at hs
        rw [hs]
      subst hss
      exact ⟨y1, y5, y4, y2, ms, y7, y8, y9, y10, dd, q0, q1, q2, q3, q5, ho, z3⟩
    · cases h0
  · cases h0
def iniB (K : PySem.W.Frag) (k : Nat) : Bool := oexB K (gaK K (clsN k)) && (eqF (PySem.W.findIn K (.ref (gaK K (clsN k))) "__init__") (some (some (.ref (He.ma K (gaK K (clsN k)) "__init__")))) && decide (PySem.W.typeIn K (.ref (He.ma K (gaK K (clsN k)) "__init__")) = some (.type "function")))
def plainB (free : List Str) (K : PySem.W.Frag) : Bool := (K.all fun p => !decide (p.2.cls = .type "list")) && free.all fun x => eqF (PySem.W.nsIn K mainGlobals x) (some none)
def gloB (xs : List Str) (K : PySem.W.Frag) : Bool := xs.all fun x => eqF (PySem.W.nsIn K mainGlobals x) (some (some (.ref (gaK K x))))
def lookB (L : List Nat) (xs : List Str) (more : PySem.W.Frag → Bool) (K : PySem.W.Frag) : Bool := clsB L K && (rzB L K && (plainB bltAll K && (gloB xs K && more K)))
def obsX (ex : PySem.W.Frag → Bool) (fn : List He.DefD) (K : PySem.W.Frag) : He.AlD := (ex K && fn.all fun d => d.ok K, fn.map fun d => He.fnW K d.at_)
def valX (fn : List He.DefD) : He.AlD := (true, fn.map He.DefD.val)
section
variable {ex : PySem.W.Frag → Bool} {fn : List He.DefD} {K : PySem.W.Frag}
theorem says_ex (c : obsX ex fn K = valX fn) : ex K = true := by
  have z := congrArg Prod.fst c
  have z' : (ex K && fn.all fun d => d.ok K) = true := z
  exact (Bool.and_eq_true_iff.mp z').1
theorem says_def (c : obsX ex fn K = valX fn) (i : Nat) {d : He.DefD} (h : fn[i]? = some d) : ∃ fd, FunD K d.name d.qual d.params d.body d.scope (d.dvs K) (d.kws K) (He.fAd K d.at_) fd := by
  have z' : (ex K && fn.all fun d => d.ok K) = true := congrArg Prod.fst c
  have z2 := (Bool.and_eq_true_iff.mp z').2
  have e : fn.map (fun d => He.fnW K d.at_) = fn.map He.DefD.val := congrArg Prod.snd c
  have e2 : (fn.map fun d => He.fnW K d.at_)[i]? = (fn.map He.DefD.val)[i]? := by rw [e]
  rw [List.getElem?_map, List.getElem?_map, h] at e2
  exact He.DefD.funD (Option.some.inj e2) (List.all_eq_true.mp z2 d (List.mem_of_getElem? h))
end
theorem sq_rd {K : PySem.W.Frag} {H : Hp} {a : Addr} {xs : List V} (hn : (K.all fun p => !decide (p.2.cls = .type "list")) = true) (h : SqL K H a xs) : Rd H a (.lst xs) := by
  rcases h with h | ⟨o, its, n, e, hc, _⟩
  · exact h
  · have m : (a, o) ∈ K := by
      clear hn
      induction K with
      | nil => cases e
      | cons p r ih =>
        obtain ⟨b, u⟩ := p
        have e' : (match a == b with | true => some u | false => List.lookup a r) = some o := e
        cases q : (a == b) with
        | true =>
          rw [q] at e'
          cases e'
          rw [beq_iff_eq.mp q]
          exact List.mem_cons_self
        | false =>
          rw [q] at e'
          exact List.mem_cons_of_mem _ (ih e')
    have z := List.all_eq_true.mp hn _ m
    simp [hc] at z
def LawCon (con : Con) : Prop := ∀ (a : Addr) (w : Bool) (ns : List Int) (S : Sto), ns.length ≤ 63 → (∀ z ∈ ns, Builtin.Int.intBits z ≤ 1048576) → S a = some (.lst w (ns.map D.int)) → con [.ref a] S (fun d _ => d = .bl true) (fun _ _ _ => False)
theorem law_sp {K : PySem.W.Frag} {H : Hp} {a : Addr} {ns : List Int} {con : Con} (hn : (K.all fun p => !decide (p.2.cls = .type "list")) = true) (hl : ns.length ≤ 63) (hb : ∀ z ∈ ns, Builtin.Int.intBits z ≤ 1048576) (h : SqL K H a (ns.map V.int)) (hc : LawCon con) :
    spOf K 1 con [.ref a] H (fun v _ => v = .bl true) (fun _ _ _ => False) := by
  have hr := sq_rd hn h
  have key : ∀ w, OkO K H a (.lst w (ns.map D.int)) → spOf K 1 con [.ref a] H (fun v _ => v = .bl true) (fun _ _ _ => False) := fun w ok => by
    refine ⟨rfl, [.ref a], fun b => if b = a then some (.lst w (ns.map D.int)) else none, _, _, Rps.one rfl, fun b o e => ?_, fun d S p v H' _ _ r => ?_, fun _ _ _ q => q.elim, hc a w ns _ hl hb (if_pos rfl)⟩
    · dsimp only at e
      split at e
      · rename_i hb
        cases e
        rw [hb]
        exact ok
      · cases e
    · have p' : d = .bl true := p
      subst p'
      exact r
  rcases hr with hr | ⟨o, hr⟩
  · exact key true ⟨_, hr, rps_ints ns⟩
  · exact key false ⟨o, _, hr, rps_ints ns⟩
theorem walk_X {l : PySem.W.OpenLaw} {k : Nat} {q : Program} {loose : List Str} {XP : (Str → Option Value) → Heap → Prop} {YP : World → Heap → Prop} {d : DefRec} {x : Str}
    (hn : l.most = some 63) (hdf : d.params.defaults = []) (hr : Room k callerA)
    (F : ∀ (w : World) (mg : Str → Option Value) (fa : Addr) (h : Heap), YP w h → h.Ns mainGlobals mg → mg d.name = some (.ref fa) →
      ∃ (K : PySem.W.Frag) (fd : FuncData) (con : Con), K.In h ∧ (K.all fun p => !decide (p.2.cls = .type "list")) = true ∧ LawCon con ∧ (∀ (s : Shared) (u : Value), BindsTo s fd ⟨[u], []⟩ [(x, u)]) ∧
        ∀ base : Heap, K.In base → base.Ns mainGlobals mg → FnOk l.prog w K mg base (L2.CX l.prog w) k fa fd [x] (spOf K 1 con)) :
    PySem.W.WalkO q loose XP YP l.row.toRowW d [] (fun f vs => PySem.call f vs) := by
  refine Att.attach_callB hn hdf fun w s₀ s₁ mg mb fa o pm cd doc a vs ns G Y ho hd hcd hmg hobj hints hlen hbits hg => ?_
  obtain ⟨K, fd, con, KX, hno, hcon, hb, hF⟩ := F w mg fa _ Y G.T.g hmg
  refine law_call KX G.T.g G.T.b G.T.builtins G.T.nolimit hg hobj hints (Nat.le_trans hlen (by decide)) hr hF hb (fun H hO hS => law_sp hno hlen hbits hS hcon) fun H e s' hx => ?_
  obtain ⟨_, _, _, _, _, _, _, _, _, _, _, _, z⟩ := hx
  exact z
end Sd
namespace Sd
open PySem PySem.Spec PyProof.Rows L2
def FnAt (Γ : Gam) (lev : Nat) (P : Program) (w : World) (K : PySem.W.Frag) (mg : Str → Option Value) (base : Heap) (p : Str × Nat) : Prop :=
  ∃ fd ps, mg p.1 = some (.ref (gaK K p.1)) ∧ PySem.W.keepIn K (.ref (gaK K p.1)) = true ∧ Binds K fd ps [] ∧ FnOk P w K mg base (L2.CX P w) lev (gaK K p.1) fd ps (spOf K (Γ.ar p.2) (Γ.fn p.2))
section
variable {Γ : Gam} {lev : Nat} {P : Program} {w : World} {K : PySem.W.Frag} {mg : Str → Option Value} {base : Heap}
theorem FnAt.up {p : Str × Nat} {lev' : Nat} (h : FnAt Γ lev P w K mg base p) (hl : lev ≤ lev') : FnAt Γ lev' P w K mg base p := by
  obtain ⟨fd, ps, h1, h2, h3, h4⟩ := h
  exact ⟨fd, ps, h1, h2, h3, h4.mono hl⟩
theorem look_mem {α : Type} : ∀ {l : List (Str × α)} {x : Str} {k : α}, l.lookup x = some k → (x, k) ∈ l
  | [], _, _, h => by cases h
  | (y, j) :: r, x, k, h => by
    have h' : (match x == y with | true => some j | false => r.lookup x) = some k := h
    cases q : (x == y) with
    | true =>
      rw [q] at h'
      cases h'
      rw [beq_iff_eq.mp q]
      exact List.mem_cons_self
    | false =>
      rw [q] at h'
      exact List.mem_cons_of_mem _ (look_mem h')
structure World' (L : List Nat) (xs : List Str) (more : PySem.W.Frag → Bool) (K : PySem.W.Frag) (mg : Str → Option Value) : Prop where
  cfs : CFs K
  kn : ∀ k, k ∈ L → Kn K k
  rz : ∀ k, k ∈ L → plainC k = true → PySem.W.excIn K (gaK K (clsN k)) [.type "ValueError", .type "Exception", .type "BaseException", .type "object"] "ValueError.__new__" = true ∧ PySem.W.keepIn K (.ref (gaK K (clsN k))) = true ∧
      PySem.W.subIn K (.ref (gaK K (clsN k))) (.type "BaseException") = some true ∧ PySem.W.typeIn K (.ref (gaK K (clsN k))) = some (.type "type")
  nol : (K.all fun p => !decide (p.2.cls = .type "list")) = true
  blt : ∀ x, x ∈ bltAll → mg x = none
  glo : ∀ x, x ∈ xs → mg x = some (.ref (gaK K x))
  more : more K = true
theorem look_ok {L : List Nat} {xs : List Str} {more : PySem.W.Frag → Bool} {h : Heap} (X : K.In h) (G : h.Ns mainGlobals mg) (c : lookB L xs more K = true) : World' L xs more K mg := by
  unfold lookB at c
  simp only [Bool.and_eq_true] at c
  obtain ⟨c1, c2, c3, c4, c5⟩ := c
  obtain ⟨a1, a2⟩ := clsB_ok c1
  unfold plainB eqF at c3
  unfold gloB eqF at c4
  simp only [Bool.and_eq_true, List.all_eq_true, decide_eq_true_eq] at c3 c4
  refine ⟨a1, a2, fun k hk hp => ?_, ?_, fun x hx => PySem.W.mg_none_of X G (c3.2 x hx), fun x hx => PySem.W.mg_of X G (c4 x hx), c5⟩
  · unfold rzB at c2
    have z := List.all_eq_true.mp c2 k hk
    rw [hp] at z
    simp only [Bool.not_true, Bool.false_or, Bool.and_eq_true, decide_eq_true_eq] at z
    exact z
  · exact List.all_eq_true.mpr c3.1
def CstAt (Γ : Gam) (K : PySem.W.Frag) (mg : Str → Option Value) (p : Str × Nat) : Prop := ∀ d, Γ.cst p.2 = some d → ∃ v u, mg p.1 = some u ∧ RelV v u ∧ ∀ H, Rp K H d v
theorem mk_fx {L : List Nat} {xs : List Str} {more : PySem.W.Frag → Bool} {c : SC} (W : World' L xs more K mg) (hf : ∀ p, p ∈ c.fns → FnAt Γ lev P w K mg base p) (hc : ∀ p, p ∈ c.css → CstAt Γ K mg p) (hk : (c.cls.all fun p => decide (clsN p.2 = p.1) && (L.contains p.2 && xs.contains p.1)) = true) (hn : c.cal = true → ∀ x k, Γ.nm x = some k → FnAt Γ lev P w K mg base (x, k)) (hi : ∀ p, p ∈ c.rzs → clsN p.2 = p.1 ∧ IniOk P w K mg base p.2) :
    Fx Γ lev c P w K mg base where
  fn := fun x k e => hf (x, k) (look_mem e)
  nm := fun hc x k e => by
    obtain ⟨fd, ps, _, h2, h3, h4⟩ := hn hc x k e
    exact ⟨fd, ps, h2, h3, h4⟩
  cst := fun x k d e e2 => hc (x, k) (look_mem e) d e2
  blt := W.blt
  cls := fun x k e => by
    have z := List.all_eq_true.mp hk _ (look_mem e)
    simp only [Bool.and_eq_true, decide_eq_true_eq] at z
    obtain ⟨z1, z2, z3⟩ := z
    have e1 : clsN k = x := z1
    exact ⟨e1, W.kn k (by simpa using z2), W.glo x (by simpa using z3)⟩
  cfs := W.cfs
  rz := fun y j e hp => by
    have z := List.all_eq_true.mp hk _ (look_mem e)
    simp only [Bool.and_eq_true, decide_eq_true_eq] at z
    exact W.rz j (by simpa using z.2.1) hp
  ini := fun y j e => hi _ (look_mem e)
theorem mk_ini {L : List Nat} {xs : List Str} {more : PySem.W.Frag → Bool} {ex : PySem.W.Frag → Bool} {fn : List He.DefD} {k : Nat} {me qual : Str} {params : Arguments} {body : List Stmt} {scope : Scope} (W : World' L xs more K mg) (says : obsX ex fn K = valX fn) (i : Nat)
    (hd : fn[i]? = some ⟨(clsN k, some "__init__"), "__init__", qual, params, body, scope, [], []⟩) (hs : FnScope [me, fldN k] [me, fldN k] scope) (hb0 : ∃ p1 p2 p3 p4, body = [.Assign [.Attribute (.Name me p1) (fldN k) p2] (.Name (fldN k) p3) p4])
    (hv : (scope.names.lookup me == some .local && (scope.names.lookup (fldN k) == some .local && (!(me == ("__debug__" : Str)) && (!(me == ("__classdict__" : Str)) && (!(fldN k == ("__debug__" : Str)) && !(fldN k == ("__classdict__" : Str))))))) = true) (hi : iniB K k = true) (hL : L.contains k = true) (hx : xs.contains (clsN k) = true)
    (hb : ∀ (kV doc pm : Value) (an : Option Addr) (cdv ct : Value) (us : List Value), us.length = [me, fldN k].length → bindArgs (PySem.W.fnOf "__init__" qual params body scope .none kV doc pm an cdv ct) ⟨us, []⟩ = pure ([me, fldN k].zip us)) : IniOk P w K mg base k := by
  obtain ⟨fd, F⟩ := says_def says i hd
  unfold iniB eqF at hi
  simp only [Bool.and_eq_true, decide_eq_true_eq] at hi
  obtain ⟨i1, i2, i3⟩ := hi
  have T := oexB_ok i1
  have kn := W.kn k (by simpa using hL)
  simp only [Bool.and_eq_true, beq_iff_eq, Bool.not_eq_true'] at hv
  obtain ⟨v1, v2, v3, v4, v5, v6⟩ := hv
  have F' : FunD K "__init__" qual params body scope [] [] (He.ma K (gaK K (clsN k)) "__init__") fd := F
  refine ⟨kn, W.glo _ (by simpa using hx), _, fd, [me, fldN k], T, i2, i3, ?_, F'.bindsN hb⟩
  refine F'.ok (k := 0) hs (fun vs H Q E h => ?_) (fun cdv A outer s H vs Q E hr h => ?_)
  · obtain ⟨a, y, rfl, _⟩ := h; rfl
  · obtain ⟨a, y, rfl, ha, hq⟩ := h
    obtain ⟨p1, p2, p3, p4, rfl⟩ := hb0
    refine ⟨_, pss_one (ps_ost (pe_var (i := 0) rfl (.inl v1) v3 v4) (pe_var (i := 1) rfl (.inl v2) v5 v6) rfl), ?_⟩
    exact ⟨y, rfl, .ref a, rfl, a, gaK K (clsN k), rfl, T, (W.cfs.one k kn).nof, .inl ⟨ha, fun dx hdx ne => hq dx hdx ne⟩⟩
theorem mk_fn {L : List Nat} {xs : List Str} {more : PySem.W.Frag → Bool} {ex : PySem.W.Frag → Bool} {fn : List He.DefD} {c : SC} {ps : List Str} {zs : List Z} {x : Str} {k : Nat} {params : Arguments} {body : List Stmt} {con : Con} (hlev : 2 ≤ lev) (W : World' L xs more K mg) (says : obsX ex fn K = valX fn) (i : Nat)
    (hd : fn[i]? = some ⟨(x, none), x, x, params, body, c.sc, [], []⟩) (dk : DefOk c ps zs body) (hf : ∀ p, p ∈ c.fns → FnAt Γ lev P w K mg base p) (hc : ∀ p, p ∈ c.css → CstAt Γ K mg p) (hk : (c.cls.all fun p => decide (clsN p.2 = p.1) && (L.contains p.2 && xs.contains p.1)) = true)
    (hx : xs.contains x = true) (hb : ∀ (kV doc pm : Value) (an : Option Addr) (cdv ct : Value) (us : List Value), us.length = ps.length → bindArgs (PySem.W.fnOf x x params body c.sc .none kV doc pm an cdv ct) ⟨us, []⟩ = pure (ps.zip us))
    (hi : ∀ p, p ∈ c.rzs → clsN p.2 = p.1 ∧ IniOk P w K mg base p.2) (ha : Γ.ar k = ps.length) (hcon : Γ.fn k = con) (hm : Meets Γ c.N.length zs con) (hn : c.cal = true → ∀ x k, Γ.nm x = some k → FnAt Γ lev P w K mg base (x, k)) : FnAt Γ (lev + 1) P w K mg base (x, k) := by
  obtain ⟨fd, F⟩ := says_def says i hd
  have F' : FunD K x x params body c.sc [] [] (He.fAd K (x, none)) fd := F
  have fx := mk_fx (Γ := Γ) (lev := lev) (P := P) (w := w) (base := base) W hf hc hk hn hi
  have ok := fn_ok hlev F' dk fx (fun y j e hp => by
    have z := List.all_eq_true.mp hk _ (look_mem e)
    simp only [Bool.and_eq_true, decide_eq_true_eq] at z
    exact W.rz j (by simpa using z.2.1) hp) (fun y j e => hi _ (look_mem e)) hm
  refine ⟨fd, ps, W.glo x (by simpa using hx), F'.kp, F'.bindsN hb, ?_⟩
  show FnOk P w K mg base (L2.CX P w) (lev + 1) (gaK K x) fd ps (spOf K (Γ.ar k) (Γ.fn k))
  rw [ha, hcon]
  exact ok
theorem mk_law {L : List Nat} {xs : List Str} {more : PySem.W.Frag → Bool} {ex : PySem.W.Frag → Bool} {fn : List He.DefD} {c : SC} {zs : List Z} {x px : Str} {params : Arguments} {body : List Stmt} {con : Con} (hlev : 2 ≤ lev) (W : World' L xs more K mg) (says : obsX ex fn K = valX fn) (i : Nat)
    (hd : fn[i]? = some ⟨(x, none), x, x, params, body, c.sc, [], []⟩) (dk : DefOk c [px] zs body) (hf : ∀ base, K.In base → base.Ns mainGlobals mg → ∀ p, p ∈ c.fns → FnAt Γ lev P w K mg base p) (hc : ∀ p, p ∈ c.css → CstAt Γ K mg p) (hk : (c.cls.all fun p => decide (clsN p.2 = p.1) && (L.contains p.2 && xs.contains p.1)) = true)
    (hx : xs.contains x = true) (hb : ∀ (kV doc pm : Value) (an : Option Addr) (cdv ct : Value) (us : List Value), us.length = [px].length → bindArgs (PySem.W.fnOf x x params body c.sc .none kV doc pm an cdv ct) ⟨us, []⟩ = pure ([px].zip us))
    (hi : c.rzs = []) (hn : c.cal = false) (hm : Meets Γ c.N.length zs con) {fa : Addr} (hfa : mg x = some (.ref fa)) : ∃ fd : FuncData, (∀ (s : Shared) (u : Value), BindsTo s fd ⟨[u], []⟩ [(px, u)]) ∧ ∀ base : Heap, K.In base → base.Ns mainGlobals mg → FnOk P w K mg base (L2.CX P w) (lev + 1) fa fd [px] (spOf K 1 con) := by
  obtain ⟨fd, F⟩ := says_def says i hd
  have F' : FunD K x x params body c.sc [] [] (He.fAd K (x, none)) fd := F
  have e := hfa.symm.trans (W.glo x (by simpa using hx))
  cases e
  refine ⟨fd, fun s u => F'.bindsA hb s [u] rfl, fun base b1 b2 => ?_⟩
  have fx := mk_fx (Γ := Γ) (lev := lev) (P := P) (w := w) (base := base) W (hf base b1 b2) hc hk (fun h => absurd h (by rw [hn]; decide)) (fun p h => by rw [hi] at h; cases h)
  exact fn_ok hlev F' dk fx (fun y j e hp => by
    have z := List.all_eq_true.mp hk _ (look_mem e)
    simp only [Bool.and_eq_true, decide_eq_true_eq] at z
    exact W.rz j (by simpa using z.2.1) hp) (fun y j e => by rw [hi] at e; cases e) hm
end
end Sd
namespace Sd
open PySem
section
variable {S : Sto} {P : PD} {i j : Int} {x y d : D} {a b p : Addr} {w : Bool} {l m : List D} {s t : Str}
theorem q_add : opS .Add (.int i) (.int j) S P = P (.int (i + j)) S := rfl
theorem q_sub : opS .Sub (.int i) (.int j) S P = P (.int (i - j)) S := rfl
theorem q_mul : opS .Mult (.int i) (.int j) S P = (IntMulOk i j ∧ P (.int (i * j)) S) := rfl
theorem q_div : opS .FloorDiv (.int i) (.int j) S P = (DivOk j ∧ P (.int (i.fdiv j)) S) := rfl
theorem q_mod : opS .Mod (.int i) (.int j) S P = (j ≠ 0 ∧ P (.int (i.fmod j)) S) := rfl
theorem q_pow : opS .Pow (.int i) (.int j) S P = (L2.CPow i j ∧ P (.int (i ^ j.toNat)) S) := rfl
theorem q_cat : opS .Add (.ref a) (.ref b) S P = (match S a, S b with
    | some (.lst _ l), some (.lst _ m) => l.length + m.length ≤ sizeLine ∧ ∀ p, S p = none → P (.ref p) (S.up p (.lst true (l ++ m)))
    | _, _ => False) := rfl
theorem q_lt : cmpS .Lt (.int i) (.int j) S P = P (.bl (decide (i < j))) S := rfl
theorem q_le : cmpS .LtE (.int i) (.int j) S P = P (.bl (decide (i ≤ j))) S := rfl
theorem q_gt : cmpS .Gt (.int i) (.int j) S P = P (.bl (decide (j < i))) S := rfl
theorem q_ge : cmpS .GtE (.int i) (.int j) S P = P (.bl (decide (j ≤ i))) S := rfl
theorem q_eq : cmpS .Eq (.int i) (.int j) S P = P (.bl (decide (i = j))) S := rfl
theorem q_ne : cmpS .NotEq (.int i) (.int j) S P = P (.bl (!decide (i = j))) S := rfl
theorem q_is : cmpS .Is x .non S P = P (.bl (isNo x)) S := by cases x <;> rfl
theorem q_isnt : cmpS .IsNot x .non S P = P (.bl (!isNo x)) S := by cases x <;> rfl
theorem q_neL : cmpS .NotEq (.ref a) y S P = (match pdS S (.ref a), pdS S y with
    | some p, some q => P (.bl (!PyData.eqv p q)) S
    | _, _ => lenS true (.ref a) y S P) := by cases y <;> rfl
theorem q_tb {k : Bool} : truB S (.bl k) = some k := rfl
theorem q_tn : truB S .non = some false := rfl
theorem q_ti : truB S (.int i) = some (i != 0) := rfl
theorem q_tt : truB S (.tup l) = some (!l.isEmpty) := rfl
theorem q_ixT : ixS (.tup l) (.int i) S P = (match L2.atI l i with
    | some d => P d S
    | none => False) := rfl
theorem q_ixL : ixS (.ref a) (.int i) S P = (match S a with
    | some (.lst _ l) => (match L2.atI l i with
      | some d => P d S
      | none => False)
    | some (.dci l) => (match ifind l i with
      | some d => P d S
      | none => False)
    | _ => False) := rfl
theorem q_sl {lo hi : Option Int} : slS (.ref a) lo hi S P = (match S a with
    | some (.lst _ l) => ∀ p, S p = none → P (.ref p) (S.up p (.lst true (cutD l lo hi)))
    | _ => False) := rfl
theorem q_abs : biS .abs [.int i] S P = P (.int (i.natAbs : Int)) S := by
  have e : (if i < 0 then -i else i) = (i.natAbs : Int) := by split <;> omega
  show P (.int (if i < 0 then -i else i)) S = _
  rw [e]
theorem q_intI : biS .int [.int i] S P = P (.int i) S := rfl
theorem q_intB {k : Bool} : biS .int [.bl k] S P = P (.int (if k then 1 else 0)) S := rfl
theorem q_lenT : biS .len [.tup l] S P = P (.int l.length) S := rfl
theorem q_min2 : biS .min2 [.int i, .int j] S P = P (.int (if j < i then j else i)) S := rfl
theorem q_max2 : biS .max2 [.int i, .int j] S P = P (.int (if j > i then j else i)) S := rfl
theorem at0 : L2.atI (x :: l) 0 = some x := by
  unfold L2.atI L2.ixN
  simp
theorem at1 {x0 : D} : L2.atI (x0 :: x :: l) 1 = some x := by
  unfold L2.atI L2.ixN
  rw [if_pos (by omega), if_pos (by simp; omega)]
  rfl
theorem at2 {x0 x1 : D} : L2.atI (x0 :: x1 :: x :: l) 2 = some x := by
  unfold L2.atI L2.ixN
  rw [if_pos (by omega), if_pos (by simp; omega)]
  rfl
theorem ixn0 {n : Nat} : L2.ixN (n + 1) 0 = some 0 := by
  unfold L2.ixN
  rw [if_pos (by omega), if_pos (by omega)]
  rfl
theorem ixn1 {n : Nat} : L2.ixN (n + 1 + 1) 1 = some 1 := by
  unfold L2.ixN
  rw [if_pos (by omega), if_pos (by omega)]
  rfl
theorem upup {o u : O} : (S.up a o).up a u = S.up a u := by
  funext b
  unfold Sto.up
  split <;> rfl
theorem pd_int {n : Nat} {g : Addr → Option PyData} : pdW g n (.int i) = some (.int i) := by cases n <;> rfl
theorem pd_bl {n : Nat} {g : Addr → Option PyData} {k : Bool} : pdW g n (.bl k) = some (.bool k) := by cases n <;> rfl
theorem pd_tup {n : Nat} {g : Addr → Option PyData} : pdW g (n + 1) (.tup l) = (match pdWs g n l with
    | some ps => some (.tuple ps)
    | none => none) := rfl
theorem pd_nil {n : Nat} {g : Addr → Option PyData} : pdWs g n [] = some [] := by cases n <;> rfl
theorem pd_cons {n : Nat} {g : Addr → Option PyData} : pdWs g n (x :: l) = (match pdW g n x, pdWs g n l with
    | some p, some ps => some (p :: ps)
    | _, _ => none) := rfl
theorem pds_int : pdS S (.int i) = some (.int i) := pd_int
theorem pds_ref : pdS S (.ref a) = (match S a with
    | some (.lst _ l) => (match pdWs (gL S 2) 12 l with
      | some ps => some (.list ps)
      | none => none)
    | _ => none) := rfl
theorem ev_int : PyData.eqv (.int i) (.int j) = decide (i = j) := by
  simp only [PyData.eqv]
  by_cases z : i = j <;> simp [z]
theorem ev_tup {xs ys : List PyData} : PyData.eqv (.tuple xs) (.tuple ys) = PyData.eqvAll xs ys := by simp only [PyData.eqv]
theorem ev_cons {x y : PyData} {xs ys : List PyData} : PyData.eqvAll (x :: xs) (y :: ys) = (PyData.eqv x y && PyData.eqvAll xs ys) := by simp only [PyData.eqvAll]
theorem ev_nil : PyData.eqvAll [] [] = true := by simp only [PyData.eqvAll]
theorem ret_now (h : P d S) : (retE P).rt d S := ⟨S, Sto.le.refl S, h⟩
theorem ret_le {S' : Sto} (l : Sto.le S' S) (h : P d S') : (retE P).rt d S := ⟨S', l, h⟩
theorem if_b {c : Prop} [Decidable c] {A B : Prop} (h1 : c → A) (h2 : ¬ c → B) : if decide c = true then A else B := by
  by_cases h : c
  · rw [if_pos (decide_eq_true h)]; exact h1 h
  · rw [if_neg (by simpa using h)]; exact h2 h
theorem up_ls {p : Addr} {o : O} (h : S p = none) : Sto.le S (S.up p o) := (Sto.le.refl S).up h
end
end Sd
namespace Sd
open PySem
theorem up_oth {S : Sto} {a b : Addr} {o : O} (h : a ≠ b) : (S.up a o) b = S b := by
  unfold Sto.up
  rw [if_neg (fun e => h e.symm)]
theorem le_none {S S' : Sto} {p : Addr} (h : Sto.le S S') (n : S' p = none) : S p = none := by
  cases e : S p with
  | none => rfl
  | some o => rw [h p o e] at n; cases n
theorem for_inv {t : ATg} {b : AS} {src : Src} {N : DE} {W : AW} (R : DSt → Sto → Prop) (ok : ∀ ρ S, R ρ S → src.ok S) (fin : ∀ ρ S, R ρ S → N.nx ρ S)
    {ds : List D} (step : ∀ (F : DSt → Sto → Prop) d ρ S, d ∈ ds → R ρ S → (∀ ρ' S', R ρ' S' → F ρ' S') → t d ρ S (fun ρ1 S1 => b { nx := F, rt := N.rt, bk := N.nx, ct := F } ρ1 S1 W) W) :
    ∀ {ρ : DSt} {S : Sto}, R ρ S → forS t b src N W ds ρ S := by
  induction ds with
  | nil => exact fun {ρ S} h => ⟨ok ρ S h, fin ρ S h⟩
  | cons d ds ih =>
    intro ρ S h
    exact ⟨ok ρ S h, step _ d ρ S (by simp) h fun ρ' S' h' => ih (fun F d ρ S hd => step F d ρ S (by simp [hd])) h'⟩
theorem law_for {Γ : Gam} {m : Nat} {b : List Z} {N : DE} {W : AW} {ρ : DSt} {S : Sto} {a : Addr} {w : Bool} {ns : List Int} {i : Nat} (R : DSt → Prop) (hR : R ρ) (hl : ns.length ≤ 63) (h0 : lk ρ 0 = some (.ref a)) (e : S a = some (.lst w (ns.map D.int)))
    (fin : ∀ ρ S1, R ρ → Sto.le S S1 → N.nx ρ S1)
    (step : ∀ (Sb : Sto) (F : DSt → Sto → Prop) (c : Int) ρ S1, Sto.le S Sb → Sto.le Sb S1 → R ρ → (∀ ρ' S', R ρ' → Sto.le Sb S' → F ρ' S') → wZs Γ b { nx := F, rt := N.rt, bk := N.nx, ct := F } (ρ.set i (some (.int c))) S1 W) :
    wZ Γ (.for_ (.nm i) (.e (.op .Add (.ls [(.c (.int 0))]) (.sl (.var 0) (.c .non) (.aI (.c (.int m)))))) b) N ρ S W := by
  dsimp only [wZ, wI, wE, wEs, lk, partS]
  simp only [List.length_cons, List.length_nil, sizeLine_eq, Nat.reduceAdd, Nat.reduceLeDiff, true_and, h0]
  intro p1 n1
  have d1 : p1 ≠ a := fun x => by rw [x, e] at n1; cases n1
  simp only [q_sl, up_oth d1, e]
  intro p2 n2
  have d2 : p2 ≠ p1 := fun x => by rw [x, up_same] at n2; cases n2
  simp only [q_cat, up_same, up_oth d2]
  have hc : ∀ d, d ∈ [D.int 0] ++ cutD (ns.map D.int) none (some (m : Int)) → ∃ c, d = D.int c := by
    intro d hd
    rcases List.mem_append.mp hd with h | h
    · exact ⟨0, by simpa using h⟩
    · unfold cutD at h
      have := List.mem_of_mem_drop (List.mem_of_mem_take h)
      obtain ⟨c, _, hc⟩ := List.mem_map.mp this
      exact ⟨c, hc.symm⟩
  have hlen : ([D.int 0] : List D).length + (cutD (ns.map D.int) none (some (m : Int))).length ≤ sizeLine := by
    rw [sizeLine_eq]
    unfold cutD
    rw [List.length_take, List.length_drop, List.length_map]
    simp only [List.length_cons, List.length_nil]
    omega
  refine ⟨hlen, fun p3 n3 => ?_⟩
  generalize hit : [D.int 0] ++ cutD (ns.map D.int) none (some (m : Int)) = its at hc
  have l1 : Sto.le S (S.up p1 (.lst true [.int 0])) := up_ls n1
  have l2 := l1.trans (up_ls (o := .lst true (cutD (ns.map D.int) none (some (m : Int)))) n2)
  have l3 := l2.trans (up_ls (o := .lst true its) n3)
  generalize hSb : (((S.up p1 (.lst true [.int 0])).up p2 (.lst true (cutD (ns.map D.int) none (some (m : Int))))).up p3 (.lst true its)) = Sb at l3
  have hp : Sb p3 = some (.lst true its) := by rw [← hSb, up_same]
  refine for_inv (src := .lst p3 true its) (fun ρ S1 => R ρ ∧ Sto.le Sb S1) (fun ρ S1 h => h.2 _ _ hp) (fun ρ S1 h => fin ρ S1 h.1 (l3.trans h.2)) (fun F d ρ S1 hd h hF => ?_) ⟨hR, Sto.le.refl Sb⟩
  obtain ⟨c, rfl⟩ := hc d hd
  exact step Sb F c ρ S1 l3 h.2 h.1 (fun ρ' S' h1 h2 => hF ρ' S' ⟨h1, h2⟩)
section
open PySem PySem.Spec PyProof.Rows L2
end
end Sd
namespace Sd
open PySem
theorem for_ind {t : ATg} {b : AS} {src : Src} {N : DE} {W : AW} (R : List D → DSt → Sto → Prop) (ok : ∀ l ρ S, R l ρ S → src.ok S) (fin : ∀ ρ S, R [] ρ S → N.nx ρ S)
    (step : ∀ (F : DSt → Sto → Prop) d l ρ S, R (d :: l) ρ S → (∀ ρ' S', R l ρ' S' → F ρ' S') → t d ρ S (fun ρ1 S1 => b { nx := F, rt := N.rt, bk := N.nx, ct := F } ρ1 S1 W) W) :
    ∀ {ds : List D} {ρ : DSt} {S : Sto}, R ds ρ S → forS t b src N W ds ρ S
  | [], ρ, S, h => ⟨ok _ ρ S h, fin ρ S h⟩
  | d :: ds, ρ, S, h => ⟨ok _ ρ S h, step _ d ds ρ S h fun _ _ h' => for_ind R ok fin step h'⟩
section
variable {S : Sto} {P : PD} {i j k l : Int}
theorem ev_pair : PyData.eqv (.tuple [.int i, .int j]) (.tuple [.int k, .int l]) = decide (i = k ∧ j = l) := by
  rw [ev_tup, ev_cons, ev_cons, ev_nil, ev_int, ev_int, Bool.and_true]
  by_cases h : i = k <;> by_cases h' : j = l <;> simp [h, h']
theorem pds_bl {b : Bool} : pdS S (.bl b) = some (.bool b) := pd_bl
theorem ev_bl {a b : Bool} : PyData.eqv (.bool a) (.bool b) = decide (a = b) := by
  simp only [PyData.eqv]
  cases a <;> cases b <;> rfl
theorem q_eqB {a b : Bool} : cmpS .Eq (.bl a) (.bl b) S P = P (.bl (decide (a = b))) S := by
  show (match pdS S (.bl a), pdS S (.bl b) with
    | some p, some q => P (.bl (PyData.eqv p q)) S
    | _, _ => False) = _
  simp only [pds_bl, ev_bl]
theorem q_neB {a b : Bool} : cmpS .NotEq (.bl a) (.bl b) S P = P (.bl (!decide (a = b))) S := by
  show (match pdS S (.bl a), pdS S (.bl b) with
    | some p, some q => P (.bl (!PyData.eqv p q)) S
    | _, _ => False) = _
  simp only [pds_bl, ev_bl]
end
theorem wZs_append {Γ : Gam} {ys : List Z} {N : DE} {W : AW} : ∀ {xs : List Z} {ρ : DSt} {S : Sto}, wZs Γ (xs ++ ys) N ρ S W = wZs Γ xs { N with nx := fun ρ1 S1 => wZs Γ ys N ρ1 S1 W } ρ S W
  | [], ρ, S => rfl
  | z :: xs, ρ, S => by
    show wZ Γ z { N with nx := fun ρ1 S1 => wZs Γ (xs ++ ys) N ρ1 S1 W } ρ S W = wZ Γ z { N with nx := fun ρ1 S1 => wZs Γ xs { N with nx := fun ρ1 S1 => wZs Γ ys N ρ1 S1 W } ρ1 S1 W } ρ S W
    have e : (fun ρ1 S1 => wZs Γ (xs ++ ys) N ρ1 S1 W) = fun ρ1 S1 => wZs Γ xs { N with nx := fun ρ1 S1 => wZs Γ ys N ρ1 S1 W } ρ1 S1 W := by
      funext ρ1 S1
      exact wZs_append
    rw [e]
theorem cut {Γ : Gam} (n : Nat) {zs : List Z} {N : DE} {W : AW} {ρ : DSt} {S : Sto} (J : DSt → Sto → Prop) (h1 : ∀ F : DSt → Sto → Prop, (∀ ρ S, J ρ S → F ρ S) → wZs Γ (zs.take n) { N with nx := F } ρ S W) (h2 : ∀ ρ S, J ρ S → wZs Γ (zs.drop n) N ρ S W) : wZs Γ zs N ρ S W := by
  rw [← List.take_append_drop n zs, wZs_append]
  exact h1 _ h2
theorem mul_ok {i j : Int} {a b : Nat} (ha : i.natAbs < 2 ^ a) (hb : j.natAbs < 2 ^ b) (h0 : 0 < a) (h1 : 0 < b) (h : a + b ≤ 1000000) : IntMulOk i j := (L2.wide_mul ha hb h0 h1 h).ok
theorem mul_okR {i j : Int} (h : j.natAbs < 2 ^ 64) : IntMulOk i j := L2.CMul.ok (.inr ⟨by omega, by omega⟩)
theorem mul_okL {i j : Int} (h : i.natAbs < 2 ^ 64) : IntMulOk i j := L2.CMul.ok (.inl ⟨by omega, by omega⟩)
theorem div_ok {j : Int} {n : Nat} (h : j ≠ 0) (hn : j.natAbs < 2 ^ n) (h0 : 0 < n) (h9 : n ≤ 9000) : DivOk j := ⟨h, Nat.lt_of_lt_of_le (PySem.Flt.log2_lt_of h0 hn) h9⟩
def Bd (n : Nat) (x : Int) : Prop := x.natAbs < 2 ^ n
theorem Bd.mono {n m : Nat} {x : Int} (h : Bd n x) (l : n ≤ m) : Bd m x := Nat.lt_of_lt_of_le h (Nat.pow_le_pow_right (by decide) l)
theorem Bd.mul {n m : Nat} {x y : Int} (h : Bd n x) (k : Bd m y) : Bd (n + m) (x * y) := by
  unfold Bd at *
  rw [Int.natAbs_mul, Nat.pow_add]
  exact Nat.mul_lt_mul'' h k
theorem Bd.add {n : Nat} {x y : Int} (h : Bd n x) (k : Bd n y) : Bd (n + 1) (x + y) := by
  unfold Bd at *
  rw [Nat.pow_succ]
  omega
theorem Bd.sub {n : Nat} {x y : Int} (h : Bd n x) (k : Bd n y) : Bd (n + 1) (x - y) := by
  unfold Bd at *
  rw [Nat.pow_succ]
  omega
theorem Bd.neg {n : Nat} {x : Int} (h : Bd n x) : Bd n (0 - x) := by
  unfold Bd at *
  omega
theorem Bd.ok {n m : Nat} {x y : Int} (h : Bd n x) (k : Bd m y) (hl : n + m ≤ 999990) : IntMulOk x y :=
  mul_ok (a := n + 1) (b := m + 1) (h.mono (by omega)) (k.mono (by omega)) (by omega) (by omega) (by omega)
theorem Bd.dv {n : Nat} {x : Int} (h : Bd n x) (hx : x ≠ 0) (hl : n ≤ 8999) : DivOk x := div_ok (n := n + 1) hx (h.mono (by omega)) (by omega) (by omega)
theorem Bd.le {n : Nat} {x y : Int} (h : Bd n y) (l : x.natAbs ≤ y.natAbs) : Bd n x := Nat.lt_of_le_of_lt l h
end Sd
namespace Sd
open PySem
end Sd
namespace Sd
open PySem
end Sd
namespace Sd
open PySem
def z_law_take_2 : List Z := [
  .asg (.ix (.var 0) (.c (.int 1))) (.op .Add (.ix (.var 0) (.c (.int 1))) (.c (.int 1))),
  .iff (.cmp .GtE (.ix (.var 0) (.c (.int 0))) (.op .Pow (.c (.int 10)) (.c (.int 18)))) [
    .asg (.nm 2) (.op .Sub (.op .FloorDiv (.ix (.var 0) (.c (.int 0))) (.op .Pow (.c (.int 10)) (.c (.int 18)))) (.c (.int 1))),
    .asg (.ix (.var 0) (.c (.int 0))) (.op .Mod (.ix (.var 0) (.c (.int 0))) (.op .Pow (.c (.int 10)) (.c (.int 18)))),
    .iff (.cmp .GtE (.var 2) (.var 1)) [
      .asg (.ix (.var 0) (.c (.int 0))) (.op .Add (.ix (.var 0) (.c (.int 0))) (.op .Mult (.op .Add (.op .FloorDiv (.var 2) (.var 1)) (.c (.int 1))) (.op .Pow (.c (.int 10)) (.c (.int 18)))))] [],
    .ret (.op .Mod (.var 2) (.var 1))] [],
  .asg (.nm 3) (.op .Mod (.op .Add (.op .Add (.op .Mult (.op .Mod (.ix (.var 0) (.c (.int 0))) (.c (.int 2147483629))) (.c (.int 48271))) (.op .Mult (.op .Mult (.c (.int 104729)) (.ix (.var 0) (.c (.int 1)))) (.ix (.var 0) (.c (.int 1))))) (.c (.int 17))) (.c (.int 2147483647))),
  .asg (.nm 3) (.op .Mod (.op .Mult (.var 3) (.op .Add (.op .Mod (.var 3) (.c (.int 65521))) (.c (.int 3)))) (.c (.int 2147483587))),
  .ret (.op .Mod (.op .FloorDiv (.var 3) (.c (.int 7))) (.var 1))]
end Sd
namespace Sd
open PySem
end Sd
namespace Sd
open PySem
end Sd
namespace Sd
open PySem
end Sd
namespace Sd
open PySem
end Sd
namespace Sd
open PySem
end Sd
namespace Sd
open PySem
end Sd
namespace Sd
open PySem
end Sd
namespace Sd
open PySem
end Sd
namespace Sd
open PySem
end Sd
namespace Sd
open PySem
end Sd
namespace Sd
open PySem
end Sd
namespace Sd
open PySem
end Sd
namespace Sd
open PySem
end Sd
namespace Sd
open PySem
end Sd
namespace Sd
open PySem
end Sd
namespace Sd
open PySem
end Sd
namespace Sd
open PySem
end Sd
namespace Sd
open PySem
end Sd
namespace Sd
open PySem
end Sd
namespace Sd
open PySem
end Sd
namespace Sd
open PySem
end Sd
namespace Sd
open PySem
end Sd
namespace Sd
open PySem
end Sd
namespace Sd
open PySem
end Sd
namespace Sd
open PySem
end Sd
namespace Sd
open PySem
end Sd
namespace Sd
open PySem
end Sd
namespace Sd
open PySem
end Sd
namespace Sd
open PySem
end Sd
namespace Sd
open PySem
end Sd
namespace Sd
open PySem
end Sd
namespace Sd
open PySem
end Sd
namespace Sd
open PySem
end Sd
namespace Sd
open PySem
end Sd
namespace Sd
open PySem
end Sd
namespace Sd
open PySem
end Sd
namespace Sd
open PySem
end Sd
namespace Sd
open PySem
end Sd
namespace Sd
open PySem
end Sd
namespace Sd
open PySem
end Sd
namespace Sd
open PySem
end Sd
namespace Sd
open PySem
end Sd
namespace Sd
open PySem
end Sd
namespace Sd
open PySem
end Sd
namespace Sd
open PySem
end Sd
namespace Sd
open PySem
def z_law_made_2 : List Z := [
  .asg (.nm 3) (.ls [(.mke 1 false (.c (.str "a"))), (.mke 2 false (.c (.str "b"))), (.mke 3 false (.c (.str "c"))), (.mke 4 true (.var 0)), (.mke 5 false (.c (.str "d"))), (.mke 6 false (.c (.str "e"))), (.mke 7 false (.c (.str "f")))]),
  .asg (.nm 3) (.op .Add (.var 3) (.ls [(.mke 8 false (.c (.str "g"))), (.mke 9 false (.c (.str "h"))), (.mke 10 false (.c (.str "i"))), (.mke 11 false (.c (.str "j"))), (.mke 12 false (.c (.str "k"))), (.mke 13 false (.c (.str "l"))), (.mke 14 false (.c (.str "m")))])),
  .ret (.op .Add (.var 3) (.ls [(.mke 15 true (.var 1)), (.mke 16 false (.c (.str "n"))), (.mke 17 true (.var 2))]))]
def z_law_which : List Z := [
  .asg (.nm 1) (.ls [(.isi (.var 0) [(.cl 1)]), (.isi (.var 0) [(.cl 2)]), (.isi (.var 0) [(.cl 3)])]),
  .asg (.nm 1) (.op .Add (.var 1) (.ls [(.isi (.var 0) [(.cl 4)]), (.isi (.var 0) [(.cl 5)]), (.isi (.var 0) [(.cl 6)])])),
  .asg (.nm 1) (.op .Add (.var 1) (.ls [(.isi (.var 0) [(.cl 7)]), (.isi (.var 0) [(.cl 8)]), (.isi (.var 0) [(.cl 9)])])),
  .asg (.nm 1) (.op .Add (.var 1) (.ls [(.isi (.var 0) [(.cl 10)]), (.isi (.var 0) [(.cl 11)]), (.isi (.var 0) [(.cl 12)])])),
  .asg (.nm 1) (.op .Add (.var 1) (.ls [(.isi (.var 0) [(.cl 13)]), (.isi (.var 0) [(.cl 14)]), (.isi (.var 0) [(.cl 15)])])),
  .ret (.op .Add (.var 1) (.ls [(.isi (.var 0) [(.cl 16)]), (.isi (.var 0) [(.cl 17)])]))]
def z_law_45 : List Z := [
  .for_ (.nm 1) (.e (.op .Add (.ls [(.c (.int 0))]) (.sl (.var 0) (.c .non) (.aI (.c (.int 20)))))) [
    .asg (.nm 2) (.ls [(.var 1), (.c (.int 0))]),
    .asg (.tp [(.nm 3), (.nm 4)]) (.tp [(.fn 0 [(.var 2), (.c (.int 30))]), (.fn 0 [(.var 2), (.c (.int 30))])]),
    .asg (.nm 5) (.ix (.ls [(.tp [(.c (.str "many"))]), (.tp [(.c (.str "piece")), (.var 4)]), (.tp [(.c (.str "beyond")), (.var 3)]), (.tp [(.c (.str "lap")), (.var 3), (.var 4)]), (.tp [(.c (.str "left")), (.tp [(.op .Add (.c (.int 1)) (.var 3)), (.op .Add (.c (.int 1)) (.var 4))])])]) (.fn 0 [(.var 2), (.c (.int 5))])),
    .asg (.nm 6) (.fn 0 [(.var 2), (.c (.int 32))]),
    .asg (.nm 7) (.sm .join (.c (.str "")) (.lc (.ix (.c (.str "abcdefghijklmnopqrstuvwxyz")) (.fn 0 [(.var 2), (.c (.int 26))])) (.nm 8) (.rng1 (.op .Add (.c (.int 1)) (.fn 0 [(.var 2), (.c (.int 8))]))) (.c (.bl true)) [8])),
    .asg (.nm 9) (.fn 106 [(.var 5), (.var 6), (.var 7)]),
    .for_ (.nm 10) (.rng1 (.c (.int 17))) [
      .iff (.ro (.no (.isi (.ix (.var 9) (.var 10)) [(.cl 0)])) (.no (.isi (.ix (.var 9) (.var 10)) [(.bt "ValueError")]))) [
        .ret (.c (.bl false))] [],
      .iff (.cmp .NotEq (.lc (.var 11) (.nm 11) (.rng1 (.c (.int 17))) (.ix (.fn 262 [(.ix (.var 9) (.var 10))]) (.var 11)) [11]) (.ls [(.var 10)])) [
        .ret (.c (.bl false))] []],
    .iff (.ro (.cmp .NotEq (.fld "fault" (.ix (.var 9) (.c (.int 3)))) (.var 5)) (.ro (.cmp .NotEq (.fld "at" (.ix (.var 9) (.c (.int 14)))) (.var 6)) (.cmp .NotEq (.fld "name" (.ix (.var 9) (.c (.int 16)))) (.var 7)))) [
      .ret (.c (.bl false))] []],
  .ret (.c (.bl true))]
end Sd
namespace K35
open PySem PySem.Spec PyProof.Rows L2 Sd
def top (i : Nat) : Stmt := PySem.Challenge.pw_likeshards_k35_refusals_apart.main.body.getD i (.Pass ⟨0, 0, 0, 0⟩)
def s_law_take_2 : SC := { N := ["_law_row", "_law_base", "_law_rest", "_law_number"], sc := defScope (top 21), st := fun _ => true, fns := [], css := [], cls := [] }
theorem k_law_take_2 : DefOk s_law_take_2 ["_law_row", "_law_base"] z_law_take_2 (defBody (top 21)) := ⟨⟨rfl, rfl, rfl, by decide +kernel, rfl, by decide +kernel, by decide +kernel⟩, rfl, by kernel_rfl⟩
def s_law_made_2 : SC := { N := ["_law_fault", "_law_at", "_law_name", "_law_found"], sc := defScope (top 23), st := fun _ => true, fns := [], css := [], cls := [("NoNumber", 1), ("NoPrime", 2), ("NoField", 3), ("NoCutting", 4), ("NoLine", 5), ("NoFrame", 6), ("NoDoor", 7), ("NoPaper", 8), ("NoAreas", 9), ("NoWay", 10), ("NoSpot", 11), ("NoMove", 12), ("NoBend", 13), ("TooMany", 14), ("NoText", 15), ("NoRow", 16), ("NoName", 17)], rzs := [("NoCutting", 4), ("NoText", 15), ("NoName", 17)] }
theorem k_law_made_2 : DefOk s_law_made_2 ["_law_fault", "_law_at", "_law_name"] z_law_made_2 (defBody (top 23)) := ⟨⟨rfl, rfl, rfl, by decide +kernel, rfl, by decide +kernel, by decide +kernel⟩, rfl, by kernel_rfl⟩
def s_law_which : SC := { N := ["_law_error", "_law_some"], sc := defScope (top 22), st := fun _ => true, fns := [], css := [], cls := [("NoNumber", 1), ("NoPrime", 2), ("NoField", 3), ("NoCutting", 4), ("NoLine", 5), ("NoFrame", 6), ("NoDoor", 7), ("NoPaper", 8), ("NoAreas", 9), ("NoWay", 10), ("NoSpot", 11), ("NoMove", 12), ("NoBend", 13), ("TooMany", 14), ("NoText", 15), ("NoRow", 16), ("NoName", 17)] }
theorem k_law_which : DefOk s_law_which ["_law_error"] z_law_which (defBody (top 22)) := ⟨⟨rfl, rfl, rfl, by decide +kernel, rfl, by decide +kernel, by decide +kernel⟩, rfl, by kernel_rfl⟩
def s_law_45 : SC := { N := ["_law_script", "_law_cell", "_law_row", "_law_j", "_law_k", "_law_fault", "_law_at", "_law_name", "_law_letter", "_law_made_here", "_law_one", "_law_number"], sc := defScope (top 24), st := fun _ => true, fns := [("_law_take", 0), ("_law_made", 106), ("_law_which", 262)], css := [], cls := [("ShardError", 0)] }
theorem k_law_45 : DefOk s_law_45 ["_law_script"] z_law_45 (defBody (top 24)) := ⟨⟨rfl, rfl, rfl, by decide +kernel, rfl, by decide +kernel, by decide +kernel⟩, rfl, by kernel_rfl⟩
def names : List Str := ["_law_take", "_law_made", "_law_which", "law", "ShardError", "NoNumber", "NoPrime", "NoField", "NoCutting", "NoLine", "NoFrame", "NoDoor", "NoPaper", "NoAreas", "NoWay", "NoSpot", "NoMove", "NoBend", "TooMany", "NoText", "NoRow", "NoName"]
def classes : List Nat := [0, 1, 2, 3, 4, 5, 6, 7, 8, 9, 10, 11, 12, 13, 14, 15, 16, 17]
def cb (i j : Nat) : Stmt := (match top i with | .ClassDef _ _ _ b _ _ _ _ _ _ _ => b | _ => []).getD j (.Pass ⟨0, 0, 0, 0⟩)
def fn : List He.DefD := [⟨("_law_take", none), "_law_take", "_law_take", defArgs (top 21), defBody (top 21), defScope (top 21), [], []⟩,
  ⟨("_law_made", none), "_law_made", "_law_made", defArgs (top 23), defBody (top 23), defScope (top 23), [], []⟩,
  ⟨("_law_which", none), "_law_which", "_law_which", defArgs (top 22), defBody (top 22), defScope (top 22), [], []⟩,
  ⟨("law", none), "law", "law", defArgs (top 24), defBody (top 24), defScope (top 24), [], []⟩,
  ⟨("NoCutting", some "__init__"), "__init__", "NoCutting.__init__", defArgs (cb 5 0), defBody (cb 5 0), defScope (cb 5 0), [], []⟩,
  ⟨("NoText", some "__init__"), "__init__", "NoText.__init__", defArgs (cb 16 0), defBody (cb 16 0), defScope (cb 16 0), [], []⟩,
  ⟨("NoName", some "__init__"), "__init__", "NoName.__init__", defArgs (cb 18 0), defBody (cb 18 0), defScope (cb 18 0), [], []⟩]
def more (K : PySem.W.Frag) : Bool := ([iniB K 4, iniB K 15, iniB K 17].all id)
theorem more_ini_NoCutting {K : PySem.W.Frag} (h : more K = true) : (iniB K 4) = true := List.all_eq_true.mp h _ (List.Mem.head _)
theorem more_ini_NoText {K : PySem.W.Frag} (h : more K = true) : (iniB K 15) = true := List.all_eq_true.mp h _ (List.Mem.tail _ (List.Mem.head _))
theorem more_ini_NoName {K : PySem.W.Frag} (h : more K = true) : (iniB K 17) = true := List.all_eq_true.mp h _ (List.Mem.tail _ (List.Mem.tail _ (List.Mem.head _)))
def look : PySem.W.Frag → Bool := lookB classes names more
abbrev R : PySem.W.OpenRow := PySem.W.OpenLaw.row PySem.Challenge.rw_likeshards_k35_refusals_apart
def refsC (g : Addr → Option Obj) (a : Addr) : List Addr := match g a with
  | some ob => He.refsD ob
  | none => []
def asC (g : Addr → Option Obj) : List Addr := He.asD g 2 ++ (["NoCutting", "NoText", "NoName"] : List Str).flatMap fun x => (refsC g (gaK (He.frG g (He.asD g 2)) x)).flatMap fun a => a :: (refsC g a).flatMap fun b => b :: refsC g b
def obC (g : Addr → Option Obj) : He.AlD := obsX look fn (He.frG g (asC g))
abbrev hk : PySem.W.Hook where
  α := He.AlD
  obs := fun s => obC s.heap.get?
  val := fun _ => valX fn
  says := fun _ h => ∃ F : PySem.W.Frag, F.In h ∧ obsX look fn F = valX fn
  of := fun _ _ hh => ⟨_, He.frG_in, hh⟩
  keeps := fun _ _ _ ⟨F, hF, hc⟩ kp => ⟨F, hF.keeps kp, hc⟩
def ob (s : PySem.W.SharedT) : He.AlD := obC (HandSHeadRun.getT s)
theorem ob_eq (s : PySem.W.SharedT) : ob s = hk.obs s.abs := by
  have hg : HandSHeadRun.getT s = s.abs.heap.get? := funext (HandSHeadRun.getT_eq s)
  show obC _ = obC _
  rw [hg]
def loose0 : List Str := ["ShardError", "NoNumber", "NoPrime", "NoField", "NoCutting", "NoLine", "NoFrame", "NoDoor", "NoPaper", "NoAreas", "NoWay", "NoSpot", "NoMove", "NoBend", "TooMany", "NoText", "NoRow", "NoName", "_law_cell_at", "_law_take", "_law_which", "_law_made"]
abbrev loose : List Str := loose0
open HandSHeadRun PySem.W in
theorem run0 (w : World) (os : OsState) : (endF (stepQ (denQ tabQ) R.prog w) 40000 R.prog w os).map (fun s => looksF R.prog (boot_heap w.params) s.abs) = some true := by
  kernel_rfl
open HandSHeadRun PySem.W in
theorem run1 (w : World) (os : OsState) : (endF (stepQ (denQ tabQ) R.prog w) 40000 R.prog w os).map (fun s => seenQ (PySem.W.view R.prog [24]) loose (importedModules R.prog.main.body) (fun s => xlAt (PySem.W.view R.prog [24]) [] s && recOk R.toRowW.records s) s.abs) = some (openGood (PySem.W.view R.prog [24]) loose) := by
  kernel_rfl
open HandSHeadRun PySem.W in
theorem run2 (w : World) (os : OsState) : (endF (stepQ (denQ tabQ) R.prog w) 40000 R.prog w os).map (fun s => look (He.frG (HandSHeadRun.getT s) (asC (HandSHeadRun.getT s)))) = some true := by
  kernel_rfl
open HandSHeadRun PySem.W in
theorem run3 (w : World) (os : OsState) : (endF (stepQ (denQ tabQ) R.prog w) 40000 R.prog w os).map (fun s => fn.all fun d => d.ok (He.frG (HandSHeadRun.getT s) (asC (HandSHeadRun.getT s)))) = some true := by
  kernel_rfl
open HandSHeadRun PySem.W in
theorem run4 (w : World) (os : OsState) : (endF (stepQ (denQ tabQ) R.prog w) 40000 R.prog w os).map (fun s => fn.map fun d => He.fnW (He.frG (HandSHeadRun.getT s) (asC (HandSHeadRun.getT s))) d.at_) = some (fn.map He.DefD.val) := by
  kernel_rfl
theorem run (w : World) : HandSHeadRun.RunEq R (PySem.W.view R.prog [24]) hk ob 40000 loose w := by
  intro os
  have h0 := run0 w os
  have h1 := run1 w os
  have h2 := run2 w os
  have h3 := run3 w os
  have h4 := run4 w os
  revert h0 h1 h2 h3 h4
  generalize (HandSHeadRun.endF (HandSHeadRun.stepQ (HandSHeadRun.denQ HandSHeadRun.tabQ) R.prog w) 40000 R.prog w os) = x
  intro h0 h1 h2 h3 h4
  cases x with
  | none => cases h0
  | some s =>
    simp only [Option.map_some, Option.some.injEq] at h0 h1 h2 h3 h4 ⊢
    rw [h0, h1]
    show (true, _, ((_ && _ : Bool), _)) = _
    rw [h2, h3, h4]
    rfl
end K35
namespace Sd
open PySem
theorem fmod_rng {a b : Int} (h : 0 < b) : 0 ≤ a.fmod b ∧ a.fmod b < b := by
  rw [Int.fmod_eq_emod_of_nonneg _ (by omega)]
  exact ⟨Int.emod_nonneg _ (by omega), Int.emod_lt_of_pos _ h⟩
def c_law_take : Con := fun ds S P _ => match ds with
  | [.ref a, .int b] => (match S a with
    | some (.lst true [.int c, .int n]) => (0 < b ∧ b < 2 ^ 200) ∧ (0 ≤ n ∧ n < 2 ^ 60) ∧ ∀ k c', 0 ≤ k → k < b → P (.int k) (S.up a (.lst true [.int c', .int (n + 1)]))
    | _ => False)
  | _ => False
def gs (t b : Int) : Int := if b < 0 then 0 - (Int.gcd t b : Int) else (Int.gcd t b : Int)
def c_law_whole : Con := fun ds S P _ => match ds with
  | [d] => (match btOf S d with
    | some k => P (.bl (k == "int")) S
    | none => False)
  | _ => False
theorem whole_int {S : Sto} {P : PD} {W : FW} {i : Int} : c_law_whole [.int i] S P W = P (.bl true) S := rfl
theorem whole_bl {S : Sto} {P : PD} {W : FW} {i : Bool} : c_law_whole [.bl i] S P W = P (.bl false) S := rfl
theorem whole_tup {S : Sto} {P : PD} {W : FW} {l : List D} : c_law_whole [.tup l] S P W = P (.bl false) S := rfl
theorem whole_non {S : Sto} {P : PD} {W : FW} : c_law_whole [.non] S P W = P (.bl false) S := rfl
def c_lawT : Con := fun ds S P _ => match ds with
  | [.ref a] => ∃ (w : Bool) (ns : List Int), S a = some (.lst w (ns.map D.int)) ∧ ns.length ≤ 63 ∧ P (.bl true) S
  | _ => False
theorem lawT_con : LawCon c_lawT := fun a w ns S hl hb e => ⟨w, ns, e, hl, rfl⟩
end Sd
namespace Sd
open PySem
abbrev Fr := Int × Int
def Low (x : Fr) : Prop := 0 < x.2 ∧ Int.gcd x.1 x.2 = 1
instance {x : Fr} : Decidable (Low x) := inferInstanceAs (Decidable (_ ∧ _))
end Sd
namespace Sd
open PySem
abbrev c_law_take_2 : Con := c_law_take
theorem m_law_take_2 {Γ : Gam} : Meets Γ 4 z_law_take_2 c_law_take_2 := by
  intro ds S P W h
  unfold c_law_take_2 c_law_take at h
  split at h
  · rename_i a b
    split at h
    · rename_i c n e
      obtain ⟨⟨hb, hb2⟩, ⟨hn0, hn⟩, h⟩ := h
      change wZs Γ z_law_take_2 (retE P) [some (.ref a), some (.int b), none, none] S (errW W)
      dsimp only [z_law_take_2, wZs, wZ, wE, wEs, wT, wTs, lk, List.set, aTru]
      simp only [q_ixL, e, at0, at1, q_add, q_sub, q_mul, q_div, q_mod, q_pow, q_ge, q_gt, q_tb, List.length_cons, List.length_nil, ixn0, ixn1, List.set, up_same, upup]
      have p18 : L2.CPow 10 18 := ⟨by decide, by decide, by decide⟩
      have e18 : (10 : Int) ^ Int.toNat 18 = 1000000000000000000 := by decide
      rw [e18]
      have db : DivOk b := div_ok (n := 200) (by omega) (by omega) (by decide) (by decide)
      have bn : b ≠ 0 := by omega
      refine ⟨p18, if_b (fun h1 => ⟨p18, div_ok (n := 64) (by decide) (by decide) (by decide) (by decide), p18, by decide, if_b (fun h2 => ?_) fun h2 => ?_⟩) fun h1 => ?_⟩
      · exact ⟨db, p18, mul_okR (by decide), bn, ret_now (h _ _ (fmod_rng hb).1 (fmod_rng hb).2)⟩
      · exact ⟨bn, ret_now (h _ _ (fmod_rng hb).1 (fmod_rng hb).2)⟩
      · have r1 := fmod_rng (a := c) (b := 2147483629) (by decide)
        generalize c.fmod 2147483629 = u at r1
        have r2 := fmod_rng (a := u * 48271 + 104729 * (n + 1) * (n + 1) + 17) (b := 2147483647) (by decide)
        generalize (u * 48271 + 104729 * (n + 1) * (n + 1) + 17).fmod 2147483647 = v at r2
        have r3 := fmod_rng (a := v) (b := 65521) (by decide)
        have d7 : DivOk 7 := div_ok (n := 64) (by decide) (by decide) (by decide) (by decide)
        exact ⟨by decide, mul_okR (by decide), mul_okL (by decide), mul_okR (by omega), by decide, by decide, mul_okL (by omega), by decide, d7, bn, ret_now (h _ _ (fmod_rng hb).1 (fmod_rng hb).2)⟩
    · exact h.elim
  · exact h.elim
def Kd (S : Sto) (d : D) : Prop := ∃ k, btOf S d = some k
theorem bt_ref {S : Sto} {a : Addr} : btOf S (.ref a) = (match S a with
    | some (.lst _ _) => some "list"
    | _ => none) := rfl
theorem kd_ref {S : Sto} {p : Addr} {w : Bool} {l : List D} (h : S p = some (.lst w l)) : Kd S (.ref p) := by
  refine ⟨"list", ?_⟩
  rw [bt_ref, h]
end Sd
namespace Sd
def Sz (n : Nat) (x : Rat) : Prop := x.num.natAbs < 2 ^ n ∧ x.den < 2 ^ n
theorem Sz.mono {n m : Nat} {x : Rat} (h : Sz n x) (l : n ≤ m) : Sz m x :=
  ⟨Nat.lt_of_lt_of_le h.1 (Nat.pow_le_pow_right (by decide) l), Nat.lt_of_lt_of_le h.2 (Nat.pow_le_pow_right (by decide) l)⟩
theorem div_small {t b : Int} (hb : b ≠ 0) : ((t : Rat) / b).num.natAbs ≤ t.natAbs ∧ ((t : Rat) / b).den ≤ b.natAbs := by
  rw [← Rat.divInt_eq_div]
  have hbn : 0 < b.natAbs := by omega
  constructor
  · rw [Rat.num_divInt]
    have hg : b.gcd t ≠ 0 := fun e => hb (Int.gcd_eq_zero_iff.mp e).1
    have hd : (b.gcd t : Int) ∣ b.sign * t := Int.dvd_trans (Int.gcd_dvd_right ..) (Int.dvd_mul_left ..)
    have e : b.sign * t / (b.gcd t : Int) * (b.gcd t : Int) = b.sign * t := Int.ediv_mul_cancel hd
    have e2 : (b.sign * t).natAbs = (b.sign * t / (b.gcd t : Int)).natAbs * ((b.gcd t : Int)).natAbs := by rw [← Int.natAbs_mul, e]
    have e3 : (b.sign * t).natAbs = t.natAbs := by
      rw [Int.natAbs_mul, Int.natAbs_sign, if_neg hb, Nat.one_mul]
    rw [← e3, e2]
    exact Nat.le_mul_of_pos_right _ (by omega)
  · rw [Rat.den_divInt, if_neg hb]
    exact Nat.div_le_self ..
theorem sz_div {t b : Int} {n : Nat} (hb : b ≠ 0) (h1 : t.natAbs < 2 ^ n) (h2 : b.natAbs < 2 ^ n) : Sz n ((t : Rat) / b) :=
  ⟨Nat.lt_of_le_of_lt (div_small hb).1 h1, Nat.lt_of_le_of_lt (div_small hb).2 h2⟩
theorem rat_eq (x : Rat) : x = (x.num : Rat) / ((x.den : Int) : Rat) := by
  rw [← Rat.divInt_eq_div, Rat.divInt_ofNat, Rat.mkRat_self]
theorem den_ne (x : Rat) : ((x.den : Int) : Rat) ≠ 0 := by
  have := x.den_nz
  intro h
  have h' : ((x.den : Int) : Rat) = ((0 : Int) : Rat) := h
  have := Rat.intCast_inj.mp h'
  omega
theorem den_neI (x : Rat) : (x.den : Int) ≠ 0 := by have := x.den_nz; omega
theorem cast_ne {b : Int} (h : b ≠ 0) : (b : Rat) ≠ 0 := fun e => h (Rat.intCast_inj.mp (show (b : Rat) = ((0 : Int) : Rat) from e))
theorem bits_mul {a b : Nat} {n m : Nat} (h : a < 2 ^ n) (k : b < 2 ^ m) : a * b < 2 ^ (n + m) := by
  rw [Nat.pow_add]
  exact Nat.mul_lt_mul'' h k
theorem Sz.mul {n m : Nat} {x y : Rat} (h : Sz n x) (k : Sz m y) : Sz (n + m) (x * y) := by
  have e : x * y = ((x.num * y.num : Int) : Rat) / (((x.den : Int) * (y.den : Int) : Int) : Rat) := by
    have h1 := rat_eq x; have h2 := rat_eq y; have h3 := den_ne x; have h4 := den_ne y
    rw [Rat.intCast_mul, Rat.intCast_mul]
    grind
  rw [e]
  refine sz_div (Int.mul_ne_zero (den_neI x) (den_neI y)) ?_ ?_
  · rw [Int.natAbs_mul]; exact bits_mul h.1 k.1
  · rw [Int.natAbs_mul]; exact bits_mul h.2 k.2
theorem Sz.neg {n : Nat} {x : Rat} (h : Sz n x) : Sz n (-x) := by
  refine ⟨?_, h.2⟩
  rw [Rat.neg_num, Int.natAbs_neg]
  exact h.1
theorem Sz.add {n m : Nat} {x y : Rat} (h : Sz n x) (k : Sz m y) : Sz (n + m + 1) (x + y) := by
  have e : x + y = ((x.num * y.den + y.num * x.den : Int) : Rat) / (((x.den : Int) * (y.den : Int) : Int) : Rat) := by
    have h1 := rat_eq x; have h2 := rat_eq y; have h3 := den_ne x; have h4 := den_ne y
    rw [Rat.intCast_mul, Rat.intCast_add, Rat.intCast_mul, Rat.intCast_mul]
    grind
  rw [e]
  refine sz_div (Int.mul_ne_zero (den_neI x) (den_neI y)) ?_ ?_
  · have a1 := bits_mul h.1 k.2
    have a2 := bits_mul k.1 h.2
    rw [Nat.add_comm m n] at a2
    have b1 : (x.num * y.den).natAbs < 2 ^ (n + m) := by rw [Int.natAbs_mul]; exact a1
    have b2 : (y.num * x.den).natAbs < 2 ^ (n + m) := by rw [Int.natAbs_mul]; exact a2
    have := Int.natAbs_add_le (x.num * y.den) (y.num * x.den)
    rw [Nat.pow_succ]
    omega
  · rw [Int.natAbs_mul]
    exact Nat.lt_of_lt_of_le (bits_mul h.2 k.2) (Nat.pow_le_pow_right (by decide) (by omega))
theorem Sz.sub {n m : Nat} {x y : Rat} (h : Sz n x) (k : Sz m y) : Sz (n + m + 1) (x - y) := by
  rw [Rat.sub_eq_add_neg]
  exact h.add k.neg
abbrev Spot := Rat × Rat
def tw (a b c : Spot) : Rat := (b.1 - a.1) * (c.2 - a.2) - (c.1 - a.1) * (b.2 - a.2)
def ah (a b : Spot) : Prop := a.1 < b.1 ∨ a.1 = b.1 ∧ a.2 < b.2
instance {a b : Spot} : Decidable (ah a b) := inferInstanceAs (Decidable (_ ∨ _))
def SzS (n : Nat) (s : Spot) : Prop := Sz n s.1 ∧ Sz n s.2
theorem SzS.mono {n m : Nat} {x : Spot} (h : SzS n x) (l : n ≤ m) : SzS m x := ⟨h.1.mono l, h.2.mono l⟩
end Sd
namespace Sd
open PySem
def Rowed (S S' : Sto) (a : Addr) : Prop := ∀ b o, b ≠ a → S b = some o → S' b = some o
theorem Rowed.le {S S1 S2 : Sto} {a : Addr} (h : Rowed S S1 a) (l : Sto.le S1 S2) : Rowed S S2 a := fun b o hb e => l _ _ (h b o hb e)
theorem Rowed.ble {S S1 Sb : Sto} {a : Addr} (h : Rowed S S1 a) (l : Sto.le Sb S) (n : Sb a = none) : Sto.le Sb S1 := fun b o e => h b o (fun x => by rw [x, n] at e; cases e) (l _ _ e)
theorem Rowed.trans {S S1 S2 : Sto} {a : Addr} (h : Rowed S S1 a) (k : Rowed S1 S2 a) : Rowed S S2 a := fun b o hb e => k b o hb (h b o hb e)
theorem rowed_refl {S : Sto} {a : Addr} : Rowed S S a := fun _ _ _ e => e
theorem Rowed.up {S S1 : Sto} {a : Addr} {o : O} (h : Rowed S S1 a) : Rowed S (S1.up a o) a := fun b u hb e => by
  rw [up_oth hb.symm]
  exact h b u hb e
theorem Rowed.new {S S1 : Sto} {a p : Addr} {o : O} (h : Rowed S S1 a) (n : S1 p = none) : Rowed S (S1.up p o) a := h.le (up_ls n)
def Row (S : Sto) (a : Addr) (n : Int) : Prop := ∃ c m : Int, S a = some (.lst true [.int c, .int m]) ∧ 0 ≤ m ∧ m ≤ n
theorem Row.le {S S1 : Sto} {a : Addr} {n : Int} (h : Row S a n) (l : Sto.le S S1) : Row S1 a n := by
  obtain ⟨c, m, e, h1, h2⟩ := h
  exact ⟨c, m, l _ _ e, h1, h2⟩
theorem Row.mono {S : Sto} {a : Addr} {n m : Int} (h : Row S a n) (l : n ≤ m) : Row S a m := by
  obtain ⟨c, k, e, h1, h2⟩ := h
  exact ⟨c, k, e, h1, by omega⟩
theorem Row.ne {S : Sto} {a b : Addr} {n : Int} (h : Row S a n) (e : S b = none) : b ≠ a := fun x => by
  obtain ⟨c, k, e', _⟩ := h
  rw [x, e'] at e
  cases e
theorem row_new {S : Sto} {p : Addr} {c : Int} : Row (S.up p (.lst true [.int c, .int 0])) p 0 := ⟨c, 0, up_same, by decide, by decide⟩
theorem Row.ne' {S : Sto} {a b : Addr} {n : Int} {o : O} (h : Row S a n) (e : S b = none) : Row (S.up b o) a n := h.le (up_ls e)
theorem take_row {S : Sto} {a : Addr} {n b : Int} {P : PD} {W : FW} (h : Row S a n) (hn : n < 2 ^ 59) (hb : 0 < b ∧ b < 2 ^ 200) (hP : ∀ k S', 0 ≤ k → k < b → Row S' a (n + 1) → Rowed S S' a → P (.int k) S') : c_law_take [.ref a, .int b] S P W := by
  obtain ⟨c, m, e, m0, m1⟩ := h
  unfold c_law_take
  simp only [e]
  exact ⟨hb, ⟨m0, by omega⟩, fun k c' k0 k1 => hP k _ k0 k1 ⟨c', m + 1, up_same, by omega, by omega⟩ rowed_refl.up⟩
def dQ (x : Rat) : D := .tup [.int x.num, .int x.den]
def dS (s : Spot) : D := .tup [dQ s.1, dQ s.2]
theorem dQ_inj {x y : Rat} : (x.num = y.num ∧ (x.den : Int) = y.den) ↔ x = y := ⟨fun h => Rat.ext h.1 (by omega), fun h => h ▸ ⟨rfl, rfl⟩⟩
section
variable {S : Sto} {P : PD} {W : FW} {x y : Rat} {t b : Int}
theorem q_ixQ0 : ixS (dQ x) (.int 0) S P = P (.int x.num) S := by unfold dQ; rw [q_ixT, at0]
theorem q_ixQ1 : ixS (dQ x) (.int 1) S P = P (.int x.den) S := by unfold dQ; rw [q_ixT, at1]
theorem q_ixS0 {s : Spot} : ixS (dS s) (.int 0) S P = P (dQ s.1) S := by unfold dS; rw [q_ixT, at0]
theorem q_ixS1 {s : Spot} : ixS (dS s) (.int 1) S P = P (dQ s.2) S := by unfold dS; rw [q_ixT, at1]
end
theorem cmp_eq {S : Sto} {P : PD} {x y : D} {p q : PyData} (hx : pdS S x = some p) (hy : pdS S y = some q) : cmpS .Eq x y S P = P (.bl (PyData.eqv p q)) S := by
  by_cases hi : ∃ i j, x = .int i ∧ y = .int j
  · obtain ⟨i, j, rfl, rfl⟩ := hi
    rw [pds_int] at hx hy
    cases hx
    cases hy
    rw [q_eq, ev_int]
  · have : cmpS .Eq x y S P = (match pdS S x, pdS S y with
      | some p, some q => P (.bl (PyData.eqv p q)) S
      | _, _ => lenS false x y S P) := by
      cases x <;> cases y <;> first | rfl | exact (hi ⟨_, _, rfl, rfl⟩).elim
    rw [this, hx, hy]
theorem cmp_ne {S : Sto} {P : PD} {x y : D} {p q : PyData} (hx : pdS S x = some p) (hy : pdS S y = some q) : cmpS .NotEq x y S P = P (.bl (!PyData.eqv p q)) S := by
  by_cases hi : ∃ i j, x = .int i ∧ y = .int j
  · obtain ⟨i, j, rfl, rfl⟩ := hi
    rw [pds_int] at hx hy
    cases hx
    cases hy
    rw [q_ne, ev_int]
  · have : cmpS .NotEq x y S P = (match pdS S x, pdS S y with
      | some p, some q => P (.bl (!PyData.eqv p q)) S
      | _, _ => lenS true x y S P) := by
      cases x <;> cases y <;> first | rfl | exact (hi ⟨_, _, rfl, rfl⟩).elim
    rw [this, hx, hy]
structure Enc {α : Type} [DecidableEq α] (enc : α → D) (pe : α → PyData) (k : Nat) : Prop where
  pd : ∀ g n a, k ≤ n → pdW g n (enc a) = some (pe a)
  ev : ∀ a b, PyData.eqv (pe a) (pe b) = decide (a = b)
section
variable {α β : Type} [DecidableEq α] [DecidableEq β] {enc : α → D} {pe : α → PyData} {k : Nat} {enc' : β → D} {pe' : β → PyData}
theorem Enc.pds (h : Enc enc pe k) {g : Addr → Option PyData} {n : Nat} (hn : k ≤ n) : ∀ l : List α, pdWs g n (l.map enc) = some (l.map pe)
  | [] => pd_nil
  | x :: l => by
    rw [List.map_cons, pd_cons, h.pd g n x hn, h.pds hn l]
    rfl
theorem Enc.evs (h : Enc enc pe k) : ∀ l m : List α, PyData.eqvAll (l.map pe) (m.map pe) = decide (l = m)
  | [], [] => ev_nil
  | [], y :: m => by simp [PyData.eqvAll]
  | x :: l, [] => by simp [PyData.eqvAll]
  | x :: l, y :: m => by
    rw [List.map_cons, List.map_cons, ev_cons, h.ev, h.evs l m]
    by_cases h1 : x = y <;> by_cases h2 : l = m <;> simp [h1, h2]
theorem Enc.tup (h : Enc enc pe k) : Enc (fun l : List α => D.tup (l.map enc)) (fun l => PyData.tuple (l.map pe)) (k + 1) where
  pd g n a hn := by
    cases n with
    | zero => omega
    | succ n => rw [pd_tup, h.pds (by omega)]
  ev a b := by rw [ev_tup, h.evs]
theorem Enc.pair (h : Enc enc pe k) (h' : Enc enc' pe' k) : Enc (fun p : α × β => D.tup [enc p.1, enc' p.2]) (fun p => PyData.tuple [pe p.1, pe' p.2]) (k + 1) where
  pd g n a hn := by
    cases n with
    | zero => omega
    | succ n => rw [pd_tup, pd_cons, pd_cons, h.pd g n _ (by omega), h'.pd g n _ (by omega), pd_nil]
  ev a b := by
    rw [ev_tup, ev_cons, ev_cons, ev_nil, h.ev, h'.ev, Bool.and_true]
    obtain ⟨a1, a2⟩ := a
    obtain ⟨b1, b2⟩ := b
    by_cases h1 : a1 = b1 <;> by_cases h2 : a2 = b2 <;> simp [h1, h2]
theorem Enc.up {m : Nat} (h : Enc enc pe k) (l : k ≤ m) : Enc enc pe m := ⟨fun g n a hn => h.pd g n a (by omega), h.ev⟩
theorem Enc.pdS (h : Enc enc pe k) {S : Sto} (hk : k ≤ 12) (a : α) : Sd.pdS S (enc a) = some (pe a) := by
  unfold Sd.pdS
  exact h.pd _ _ a hk
theorem Enc.ref (h : Enc enc pe k) {S : Sto} (hk : k ≤ 12) {a : Addr} {w : Bool} {l : List α} (e : S a = some (.lst w (l.map enc))) : Sd.pdS S (.ref a) = some (.list (l.map pe)) := by
  rw [pds_ref, e]
  simp only [h.pds hk]
theorem ev_list {xs ys : List PyData} : PyData.eqv (.list xs) (.list ys) = PyData.eqvAll xs ys := by simp only [PyData.eqv]
theorem Enc.q_eq (h : Enc enc pe k) (hk : k ≤ 12) {S : Sto} {P : PD} {a b : α} : cmpS .Eq (enc a) (enc b) S P = P (.bl (decide (a = b))) S := by
  rw [cmp_eq (h.pdS hk a) (h.pdS hk b), h.ev]
theorem Enc.q_ne (h : Enc enc pe k) (hk : k ≤ 12) {S : Sto} {P : PD} {a b : α} : cmpS .NotEq (enc a) (enc b) S P = P (.bl (!decide (a = b))) S := by
  rw [cmp_ne (h.pdS hk a) (h.pdS hk b), h.ev]
theorem Enc.q_neL (h : Enc enc pe k) (hk : k ≤ 12) {S : Sto} {P : PD} {a b : Addr} {w v : Bool} {l m : List α} (e1 : S a = some (.lst w (l.map enc))) (e2 : S b = some (.lst v (m.map enc))) : cmpS .NotEq (.ref a) (.ref b) S P = P (.bl (!decide (l = m))) S := by
  rw [cmp_ne (h.ref hk e1) (h.ref hk e2), ev_list, h.evs]
end
theorem encI : Enc D.int PyData.int 0 := ⟨fun _ _ _ _ => pd_int, fun _ _ => ev_int⟩
def pQ (x : Rat) : PyData := .tuple [.int x.num, .int x.den]
def pSp (s : Spot) : PyData := .tuple [pQ s.1, pQ s.2]
theorem encQ : Enc dQ pQ 1 where
  pd g n a hn := by
    cases n with
    | zero => omega
    | succ n => unfold dQ; rw [pd_tup, pd_cons, pd_cons, pd_int, pd_int, pd_nil]; rfl
  ev a b := by
    unfold pQ
    rw [ev_pair, decide_eq_decide.mpr dQ_inj]
theorem encS : Enc dS pSp 2 := encQ.pair encQ
section
variable {S : Sto} {P : PD} {x y : Rat} {s t : Spot}
theorem q_eqQ : cmpS .Eq (dQ x) (dQ y) S P = P (.bl (decide (x = y))) S := encQ.q_eq (by decide)
theorem q_neQ : cmpS .NotEq (dQ x) (dQ y) S P = P (.bl (!decide (x = y))) S := encQ.q_ne (by decide)
theorem q_eqSp : cmpS .Eq (dS s) (dS t) S P = P (.bl (decide (s = t))) S := encS.q_eq (by decide)
theorem q_neSp : cmpS .NotEq (dS s) (dS t) S P = P (.bl (!decide (s = t))) S := encS.q_ne (by decide)
theorem q_isntB {a b : Bool} : cmpS .IsNot (.bl a) (.bl b) S P = P (.bl (!decide (a = b))) S := rfl
theorem q_isB {a b : Bool} : cmpS .Is (.bl a) (.bl b) S P = P (.bl (decide (a = b))) S := rfl
end
mutual
def Wf (S : Sto) (n : Nat) : D → Prop
  | .int i => Bd n i
  | .ref a => ∃ w l, S a = some (.lst w l)
  | .tup l => Wfs S n l
  | .ty _ => False
  | .non => True
  | .bl _ => True
  | .str _ => True
def Wfs (S : Sto) (n : Nat) : List D → Prop
  | [] => True
  | d :: r => Wf S n d ∧ Wfs S n r
end
theorem wfs_mem {S : Sto} {n : Nat} : ∀ {l : List D}, Wfs S n l ↔ ∀ d ∈ l, Wf S n d
  | [] => by simp [Wfs]
  | d :: l => by simp [Wfs, wfs_mem]
theorem Wfs.app {S : Sto} {n : Nat} {l m : List D} (h : Wfs S n l) (k : Wfs S n m) : Wfs S n (l ++ m) := by
  rw [wfs_mem] at *
  intro d hd
  rcases List.mem_append.mp hd with z | z
  · exact h d z
  · exact k d z
theorem Wf.kd {S : Sto} {n : Nat} {d : D} (h : Wf S n d) : Kd S d := by
  cases d with
  | ref a =>
    obtain ⟨w, l, e⟩ := h
    exact kd_ref e
  | ty _ => exact h.elim
  | _ => exact ⟨_, rfl⟩
theorem lc_encF {α : Type} {t : ATg} {cond : AT} {e : AE} {src : Src} {p : Addr} {ρ : DSt} {Pd : Sto → Prop} {S1 : Sto} (enc f : α → D) (c : α → Bool) {l : List α} (np : S1 p = none) (hs : src.ok S1) (hl : l.length ≤ sizeLine)
    (step : ∀ x ∈ l, ∀ (T : Sto) (K : D → Sto → Prop) (G : Sto → Prop), Sto.le S1 T → (c x = true → ∀ T', Sto.le T T' → K (f x) T') → (c x = false → ∀ T', Sto.le T T' → G T') → t (enc x) ρ T (fun ρ1 T1 => cond ρ1 T1 (fun b T2 => if b = true then e ρ1 T2 K (fun _ _ _ _ => False) else G T2) (fun _ _ _ _ => False)) (fun _ _ _ _ => False))
    (fin : ∀ T, Sto.le S1 T → T p = some (.lst true ((l.filter c).map f)) → Pd T) : lcS t cond e src p ρ Pd (l.map enc) (S1.up p (.lst true [])) := by
  have sok : ∀ T, Sto.le S1 T → src.ok T := by
    intro T hT
    cases src with
    | free => trivial
    | lst a w l => exact hT _ _ hs
    | two a w l b v m => exact ⟨hT _ _ hs.1, hT _ _ hs.2⟩
    | thr a w l b v m c u n => exact ⟨hT _ _ hs.1, hT _ _ hs.2.1, hT _ _ hs.2.2⟩
  have main : ∀ (rest done : List α) (T : Sto), l = done ++ rest → Sto.le S1 T → T p = some (.lst true ((done.filter c).map f)) → lcS t cond e src p ρ Pd (rest.map enc) T := by
    intro rest
    induction rest with
    | nil =>
      intro done T hd hT hTp
      rw [List.append_nil] at hd
      subst hd
      exact ⟨sok T hT, fin T hT hTp⟩
    | cons d rest ih =>
      intro done T hd hT hTp
      have hmem : d ∈ l := by rw [hd]; simp
      refine ⟨sok T hT, ?_⟩
      refine step d hmem T _ _ hT (fun hc T' hT' => ?_) fun hc T' hT' => ?_
      · show match T' p with
          | some (.lst true acc) => acc.length < sizeLine ∧ lcS t cond e src p ρ Pd (rest.map enc) (T'.up p (.lst true (acc ++ [f d])))
          | _ => False
        rw [hT' _ _ hTp]
        refine ⟨?_, ih (done ++ [d]) _ (by rw [hd]; simp) (fun b o hb => ?_) ?_⟩
        · rw [List.length_map]
          have h1 := List.length_filter_le c done
          have h2 : l.length = done.length + (rest.length + 1) := by rw [hd]; simp
          omega
        · rw [up_oth (fun x => by rw [x, hb] at np; cases np)]
          exact hT' _ _ (hT _ _ hb)
        · rw [up_same, List.filter_append, List.map_append]
          simp [hc]
      · refine ih (done ++ [d]) T' (by rw [hd]; simp) (hT.trans hT') ?_
        rw [hT' _ _ hTp, List.filter_append, List.map_append]
        simp [hc]
  exact main l [] _ rfl (up_ls np) up_same
theorem rng_cons {lo : Int} {n : Nat} : rngItems lo (n + 1) = .int lo :: rngItems (lo + 1) n := by
  unfold rngItems
  rw [List.range_succ_eq_map, List.map_cons, List.map_map]
  congr 1
  · simp
  · apply List.map_congr_left
    intro i _
    simp only [Function.comp, Nat.succ_eq_add_one]
    congr 1
    omega
theorem lc_draw {α : Type} {t : ATg} {cond : AT} {e : AE} {p a : Addr} {ρ : DSt} {Pd : Sto → Prop} {ds : List D} {S1 : Sto} {n : Int} (enc : α → D) (good : α → Prop) (c : Nat) (np : S1 p = none) (r : Row S1 a n) (hl : ds.length ≤ sizeLine)
    (step : ∀ d ∈ ds, ∀ (T : Sto) (m : Int) (K : D → Sto → Prop) (G : Sto → Prop), Row T a m → m ≤ n + c * ds.length → Rowed S1 T a → (∀ x T', good x → Row T' a (m + c) → Rowed T T' a → K (enc x) T') → t d ρ T (fun ρ1 T1 => cond ρ1 T1 (fun b T2 => if b = true then e ρ1 T2 K (fun _ _ _ _ => False) else G T2) (fun _ _ _ _ => False)) (fun _ _ _ _ => False))
    (fin : ∀ (l : List α) T, l.length = ds.length → (∀ x ∈ l, good x) → T p = some (.lst true (l.map enc)) → Row T a (n + c * ds.length) → Rowed S1 T a → Pd T) : lcS t cond e .free p ρ Pd ds (S1.up p (.lst true [])) := by
  have dp : p ≠ a := r.ne np
  have main : ∀ (rest : List D) (l : List α) (T : Sto), rest.length + l.length = ds.length → (∀ d ∈ rest, d ∈ ds) → (∀ x ∈ l, good x) → T p = some (.lst true (l.map enc)) → Row T a (n + c * l.length) → Rowed S1 T a → lcS t cond e .free p ρ Pd rest T := by
    intro rest
    induction rest with
    | nil =>
      intro l T hlen _ hg hT hr ho
      have : l.length = ds.length := by simpa using hlen
      exact ⟨trivial, fin l T this hg hT (by rw [← this]; exact hr) ho⟩
    | cons d rest ih =>
      intro l T hlen hsub hg hT hr ho
      have hlen' : rest.length + 1 + l.length = ds.length := by simpa using hlen
      have hle : (c : Int) * (l.length : Int) ≤ (c : Int) * (ds.length : Int) := Int.mul_le_mul_of_nonneg_left (by omega) (by omega)
      refine ⟨trivial, step d (hsub d (by simp)) T (n + c * l.length) _ _ hr (by omega) ho fun x T' hx hr' ho' => ?_⟩
      show match T' p with
        | some (.lst true acc) => acc.length < sizeLine ∧ lcS t cond e .free p ρ Pd rest (T'.up p (.lst true (acc ++ [enc x])))
        | _ => False
      rw [ho' _ _ dp hT]
      refine ⟨by rw [List.length_map]; omega, ih (l ++ [x]) _ (by rw [List.length_append]; simp only [List.length_cons, List.length_nil]; omega) (fun d hd => hsub d (by simp [hd])) (fun y hy => ?_) (by rw [up_same, List.map_append]; rfl) ?_ ?_⟩
      · rcases List.mem_append.mp hy with z | z
        · exact hg y z
        · rw [List.mem_singleton.mp z]; exact hx
      · obtain ⟨k, m, e, m0, m1⟩ := hr'
        refine ⟨k, m, by rw [up_oth dp]; exact e, m0, ?_⟩
        rw [List.length_append]
        simp only [List.length_cons, List.length_nil]
        have : (c : Int) * (((l.length + (0 + 1) : Nat)) : Int) = (c : Int) * (l.length : Int) + c := by
          rw [show (((l.length + (0 + 1) : Nat)) : Int) = (l.length : Int) + 1 by omega, Int.mul_add, Int.mul_one]
        omega
      · intro b o hb e
        rw [up_oth (fun x => by rw [x, e] at np; cases np)]
        exact (ho.trans ho') b o hb e
  exact main ds [] _ (by simp) (fun _ h => h) (by simp) up_same (by simpa using (r.ne' np)) (rowed_refl.new np)
end Sd
namespace Sd
open PySem
end Sd
namespace Sd
theorem q_nn {c y : Rat} (hc : 0 < c) (h : 0 ≤ c * y) : 0 ≤ y := by
  have : c * 0 ≤ c * y := by rw [Rat.mul_zero]; exact h
  exact Rat.le_of_mul_le_mul_left this hc
def btw (p m q : Rat) : Prop := (p ≤ m ∧ m ≤ q) ∨ (m ≤ p ∧ q ≤ m)
instance {p m q : Rat} : Decidable (btw p m q) := inferInstanceAs (Decidable (_ ∨ _))
def amid (s a b : Spot) : Prop := tw a b s = 0 ∧ (ah a s ∧ ah s b ∨ ah b s ∧ ah s a)
instance {s a b : Spot} : Decidable (amid s a b) := inferInstanceAs (Decidable (_ ∧ _))
theorem tw_swap {a b c : Spot} : tw b a c = - tw a b c := by unfold tw; grind
theorem tw_rot {a b c : Spot} : tw b c a = tw a b c := by unfold tw; grind
def qsum : List Rat → Rat
  | [] => 0
  | x :: l => x + qsum l
theorem qsum_app {l m : List Rat} : qsum (l ++ m) = qsum l + qsum m := by
  induction l with
  | nil => simp only [List.nil_append, qsum, Rat.zero_add]
  | cons x l ih => rw [List.cons_append, qsum, qsum, ih, Rat.add_assoc]
theorem sz_zero {n : Nat} (h : 0 < n) : Sz n 0 := ⟨by show 0 < _; exact Nat.pow_pos (by decide), by show 1 < _; exact Nat.one_lt_two_pow (by omega)⟩
theorem Sz.sum {n : Nat} : ∀ {l : List Rat}, (∀ x ∈ l, Sz n x) → Sz (l.length * (n + 1) + 1) (qsum l)
  | [], _ => sz_zero (by simp)
  | x :: l, h => by
    have h1 := h x (by simp)
    have h2 := Sz.sum (n := n) (l := l) fun y hy => h y (by simp [hy])
    exact (h1.add h2).mono (by rw [List.length_cons, Nat.succ_mul]; omega)
theorem SzS.tw {n : Nat} {a b c : Spot} (ha : SzS n a) (hb : SzS n b) (hc : SzS n c) : Sz (8 * n + 5) (Sd.tw a b c) := by
  have h1 := (hb.1.sub ha.1).mul (hc.2.sub ha.2)
  have h2 := (hc.1.sub ha.1).mul (hb.2.sub ha.2)
  exact (h1.sub h2).mono (by omega)
end Sd
namespace Sd
open PySem
end Sd
namespace Sd
open PySem
def wsm (f : Spot → Rat) (ps : List (Spot × Int)) : Rat := qsum (ps.map fun p => (p.2 : Rat) * f p.1)
structure Mi (f : Spot → Rat) (n m : Nat) (ps : List (Spot × Int)) (t b : Int) : Prop where
  eq : (t : Rat) = wsm f ps * (b : Rat)
  pos : 0 < b
  tb : Bd ((n + 1) * ps.length + m + 1) t
  bb : Bd (n * ps.length + 1) b
theorem Mi.dv {f : Spot → Rat} {n m : Nat} {ps : List (Spot × Int)} {t b c : Int} (h : Mi f n m ps t b) (hc : c ≠ 0) : (t : Rat) / ((b * c : Int) : Rat) = wsm f ps / (c : Rat) := by
  have h1 := h.eq
  have h2 := cast_ne (b := b) (by have := h.pos; omega)
  have h3 := cast_ne hc
  rw [Rat.intCast_mul, h1]
  grind
end Sd
namespace Sd
open PySem
section
open PySem PySem.Spec PyProof.Rows L2
end
def primesL : List Int := [2, 3, 5, 7, 11, 13, 17, 19, 23, 29, 31, 37, 41, 43, 47, 53, 59, 61, 67, 71, 73, 79, 83, 89, 97]
def Val (p x : Int) (k : Nat) : Prop := p ^ k ∣ x ∧ ¬ p ^ (k + 1) ∣ x
def Pw (p t b : Int) (n : Int) : Prop := ∃ i j : Nat, Val p t i ∧ Val p b j ∧ n = (i : Int) - (j : Int)
end Sd
namespace Sd
open PySem
def dvs (n : Int) : Int → Nat → List Int
  | _, 0 => []
  | lo, k + 1 => if n.fmod lo = 0 then lo :: dvs n (lo + 1) k else dvs n (lo + 1) k
end Sd
namespace Sd
open PySem
noncomputable def vq (p : Int) (x : Rat) : Int := Classical.epsilon fun n => Pw p x.num x.den n
section
variable {p : Int} (hp : p ∈ primesL) {x y : Rat}
include hp
end
section
variable {p : Int} (hp : p ∈ primesL) {x y : Rat}
include hp
end
noncomputable def col (p : Int) (x y : Rat) : Int :=
  if (x = 0 ∨ 0 < vq p x) ∧ (y = 0 ∨ 0 < vq p y) then 0 else if x ≠ 0 ∧ (y = 0 ∨ vq p x ≤ vq p y) then 1 else 2
end Sd
namespace Sd
open PySem
def d3 (a b c : Spot) : D := .tup [dS a, dS b, dS c]
end Sd
namespace Sd
open PySem
end Sd
namespace Sd
open PySem
def pieceP (d : D) : Prop := ∃ a b c, d = d3 a b c ∧ 0 < tw a b c
noncomputable instance pieceDec (d : D) : Decidable (pieceP d) := Classical.propDecidable _
end Sd
namespace Sd
def cr (a b : Spot) : Rat := a.1 * b.2 - a.2 * b.1
theorem np {a b : Rat} (h1 : a ≤ 0) (h2 : 0 ≤ b) : a * b ≤ 0 := by
  have := Rat.mul_nonneg (a := -a) (b := b) (by grind) h2
  grind
theorem nn {a b : Rat} (h1 : a ≤ 0) (h2 : b ≤ 0) : 0 ≤ a * b := by
  have := Rat.mul_nonneg (a := -a) (b := -b) (by grind) (by grind)
  grind
def cns (t : Spot × Spot × Spot) : List Spot := [t.1, t.2.1, t.2.2]
def sds (t : Spot × Spot × Spot) : List (Spot × Spot) := [(t.2.2, t.1), (t.1, t.2.1), (t.2.1, t.2.2)]
def bh (t o : Spot × Spot × Spot) : Prop := ∃ e ∈ sds t, ∀ x ∈ cns o, tw e.1 e.2 x ≤ 0
end Sd
namespace Sd
def gsep (t o : Spot × Spot × Spot) : Prop := ∃ u v : Spot, u ≠ v ∧ (∀ x ∈ cns t, tw u v x ≤ 0) ∧ ∀ x ∈ cns o, 0 ≤ tw u v x
theorem gsep_symm {t o : Spot × Spot × Spot} (h : gsep t o) : gsep o t := by
  obtain ⟨u, v, hn, h1, h2⟩ := h
  exact ⟨v, u, fun e => hn e.symm, fun x hx => by rw [tw_swap]; have := h2 x hx; grind, fun x hx => by rw [tw_swap]; have := h1 x hx; grind⟩
end Sd
namespace Sd
def Cvx : List Spot → Prop
  | [] => True
  | a :: l => l.Pairwise (fun b c => 0 < tw a b c) ∧ Cvx l
theorem Cvx.sub {m l : List Spot} (h : m.Sublist l) (hl : Cvx l) : Cvx m := by
  induction h with
  | slnil => trivial
  | cons a _ ih => exact ih hl.2
  | cons_cons a h ih => exact ⟨hl.1.sublist h, ih hl.2⟩
def g (l : List Spot) (i : Nat) : Spot := l.getD i (0, 0)
theorem g_cons0 {a : Spot} {l : List Spot} : g (a :: l) 0 = a := rfl
theorem g_cons {a : Spot} {l : List Spot} {i : Nat} : g (a :: l) (i + 1) = g l i := rfl
theorem g_get {l : List Spot} {i : Nat} (h : i < l.length) : l[i]? = some (g l i) := by
  unfold g
  rw [List.getD_eq_getElem?_getD]
  rw [List.getElem?_eq_getElem h]
  rfl
theorem g_mem {l : List Spot} {i : Nat} (h : i < l.length) : g l i ∈ l := List.mem_of_getElem? (g_get h)
theorem mem_g {l : List Spot} {x : Spot} (h : x ∈ l) : ∃ i, i < l.length ∧ g l i = x := by
  obtain ⟨i, hi, e⟩ := List.mem_iff_getElem.mp h
  refine ⟨i, hi, ?_⟩
  have := g_get hi
  rw [List.getElem?_eq_getElem hi, e] at this
  exact (Option.some.inj this).symm
theorem pw_g {R : Spot → Spot → Prop} : ∀ {l : List Spot} {j k : Nat}, l.Pairwise R → j < k → k < l.length → R (g l j) (g l k)
  | [], _, _, _, _, h => by simp at h
  | a :: l, 0, k + 1, p, _, h => by
    rw [List.pairwise_cons] at p
    exact p.1 _ (g_mem (by simpa using h))
  | a :: l, j + 1, k + 1, p, jk, h => by
    rw [List.pairwise_cons] at p
    exact pw_g (l := l) (j := j) (k := k) p.2 (by omega) (by simpa using h)
theorem g_pw {R : Spot → Spot → Prop} : ∀ {l : List Spot}, (∀ j k, j < k → k < l.length → R (g l j) (g l k)) → l.Pairwise R
  | [], _ => List.Pairwise.nil
  | a :: l, h => List.pairwise_cons.mpr ⟨fun x hx => by
      obtain ⟨i, hi, rfl⟩ := mem_g hx
      exact h 0 (i + 1) (by omega) (by simpa using hi), g_pw fun j k jk hk => h (j + 1) (k + 1) (by omega) (by simpa using hk)⟩
theorem Cvx.tri : ∀ {l : List Spot} {i j k : Nat}, Cvx l → i < j → j < k → k < l.length → 0 < tw (g l i) (g l j) (g l k)
  | [], _, _, _, _, _, _, h => by simp at h
  | a :: l, 0, j + 1, k + 1, h, _, jk, hk => pw_g (l := l) (j := j) (k := k) (R := fun b c => 0 < tw a b c) h.1 (by omega) (by simpa using hk)
  | a :: l, i + 1, j + 1, k + 1, h, ij, jk, hk => Cvx.tri (l := l) (i := i) (j := j) (k := k) h.2 (by omega) (by omega) (by simpa using hk)
theorem cvx_of : ∀ {l : List Spot}, (∀ i j k, i < j → j < k → k < l.length → 0 < tw (g l i) (g l j) (g l k)) → Cvx l
  | [], _ => trivial
  | a :: l, h => ⟨g_pw fun j k jk hk => h 0 (j + 1) (k + 1) (by omega) (by omega) (by simpa using hk), cvx_of fun i j k ij jk hk => h (i + 1) (j + 1) (k + 1) (by omega) (by omega) (by simpa using hk)⟩
def nx (l : List Spot) (k : Nat) : Spot := g l ((k + 1) % l.length)
def Rnd (l : List Spot) : Prop := ∀ k j, k < l.length → j < l.length → j ≠ k → j ≠ (k + 1) % l.length → 0 < tw (g l k) (nx l k) (g l j)
theorem nx_in {l : List Spot} {k : Nat} (h : k + 1 < l.length) : nx l k = g l (k + 1) := by
  unfold nx
  rw [Nat.mod_eq_of_lt h]
theorem nx_last {l : List Spot} {k : Nat} (h : k + 1 = l.length) : nx l k = g l 0 := by
  unfold nx
  rw [h, Nat.mod_self]
theorem Cvx.rnd {l : List Spot} (h : Cvx l) : Rnd l := by
  intro k j hk hj n1 n2
  by_cases c : k + 1 < l.length
  · rw [nx_in c]
    rw [Nat.mod_eq_of_lt c] at n2
    by_cases g1 : j < k
    · have := h.tri g1 (Nat.lt_succ_self k) c
      rw [tw_rot]; exact this
    · exact h.tri (Nat.lt_succ_self k) (by omega) hj
  · have c' : k + 1 = l.length := by omega
    rw [nx_last c']
    rw [c', Nat.mod_self] at n2
    have := h.tri (i := 0) (j := j) (k := k) (by omega) (by omega) hk
    rw [← tw_rot]; exact this
theorem plk {o u v w x : Spot} : tw o u w * tw o v x = tw o u v * tw o w x + tw o u x * tw o v w := by unfold tw; grind
theorem Rnd.cvx {l : List Spot} (h : Rnd l) : Cvx l := by
  refine cvx_of fun i j k ij jk hk => ?_
  -- sides
  have sd : ∀ a b, a + 1 < l.length → b < l.length → b ≠ a → b ≠ a + 1 → 0 < tw (g l a) (g l (a + 1)) (g l b) := fun a b h1 h2 n1 n2 => by
    have := h a b (by omega) h2 n1 (by rw [Nat.mod_eq_of_lt h1]; exact n2)
    rwa [nx_in h1] at this
  have base : ∀ b, i < b → b + 1 < l.length → 0 < tw (g l i) (g l b) (g l (b + 1)) := fun b h1 h2 => by
    have := sd b i h2 (by omega) (by omega) (by omega)
    rw [← tw_rot]; exact this
  have main : ∀ d, j + 1 + d < l.length → 0 < tw (g l i) (g l j) (g l (j + 1 + d)) := by
    intro d
    induction d with
    | zero => exact fun hd => base j ij hd
    | succ d ih =>
      intro hd
      have h1 := ih (by omega)
      have h2 := base (j + 1 + d) (by omega) (by omega)
      by_cases c : j = i + 1
      · subst c
        exact sd i (i + 1 + 1 + (d + 1)) (by omega) hd (by omega) (by omega)
      · have r1 := sd i j (by omega) (by omega) (by omega) (by omega)
        have r2 := sd i (j + 1 + d) (by omega) (by omega) (by omega) (by omega)
        have r3 := sd i (j + 1 + (d + 1)) (by omega) (by omega) (by omega) (by omega)
        have id := plk (o := g l i) (u := g l (i + 1)) (v := g l j) (w := g l (j + 1 + d)) (x := g l (j + 1 + (d + 1)))
        have p1 := Rat.mul_pos r1 (show 0 < tw (g l i) (g l (j + 1 + d)) (g l (j + 1 + (d + 1))) from h2)
        have p2 := Rat.mul_pos r3 h1
        have p3 : 0 < tw (g l i) (g l (i + 1)) (g l (j + 1 + d)) * tw (g l i) (g l j) (g l (j + 1 + (d + 1))) := by rw [id]; grind
        by_cases z : 0 < tw (g l i) (g l j) (g l (j + 1 + (d + 1)))
        · exact z
        · have := np (a := tw (g l i) (g l j) (g l (j + 1 + (d + 1)))) (b := tw (g l i) (g l (i + 1)) (g l (j + 1 + d))) (by grind) (Rat.le_of_lt r2)
          grind
  have := main (k - (j + 1)) (by omega)
  rwa [show j + 1 + (k - (j + 1)) = k by omega] at this
def InC (l : List Spot) (x : Spot) : Prop := ∀ k, k < l.length → 0 ≤ tw (g l k) (nx l k) x
theorem tw_self1 {a b : Spot} : tw a b a = 0 := by unfold tw; grind
theorem tw_self2 {a b : Spot} : tw a b b = 0 := by unfold tw; grind
theorem Cvx.corner {l : List Spot} (h : Cvx l) {x : Spot} (hx : x ∈ l) : InC l x := by
  intro k hk
  obtain ⟨j, hj, rfl⟩ := mem_g hx
  by_cases c1 : j = k
  · subst c1; rw [tw_self1]; exact Rat.le_refl
  · by_cases c2 : j = (k + 1) % l.length
    · subst c2
      unfold nx
      rw [tw_self2]; exact Rat.le_refl
    · exact Rat.le_of_lt (h.rnd k j hk hj c1 c2)
abbrev T3 := Spot × Spot × Spot
def tw3 (t : T3) : Rat := tw t.1 t.2.1 t.2.2
def InT0 (t : T3) (z : Spot) : Prop := 0 ≤ tw t.1 t.2.1 z ∧ 0 ≤ tw t.2.1 t.2.2 z ∧ 0 ≤ tw t.2.2 t.1 z
theorem in0_pos {t : T3} {z u v : Spot} (ht : 0 < tw3 t) (h : InT0 t z) (hc : ∀ x ∈ cns t, 0 ≤ tw u v x) : 0 ≤ tw u v z := by
  obtain ⟨a, b, c⟩ := t
  obtain ⟨h1, h2, h3⟩ := h
  simp only at h1 h2 h3
  simp only [cns, List.mem_cons, List.not_mem_nil, or_false, forall_eq_or_imp, forall_eq] at hc
  obtain ⟨ca, cb, cc⟩ := hc
  have id1 : tw a b c * tw u v z = tw b c z * tw u v a + tw c a z * tw u v b + tw a b z * tw u v c := by unfold tw; grind
  have n1 := Rat.mul_nonneg h2 ca
  have n2 := Rat.mul_nonneg h3 cb
  have n3 := Rat.mul_nonneg h1 cc
  exact q_nn (show 0 < tw a b c from ht) (by rw [id1]; exact Rat.add_nonneg (Rat.add_nonneg n1 n2) n3)
theorem in0_neg {t : T3} {z u v : Spot} (ht : 0 < tw3 t) (h : InT0 t z) (hc : ∀ x ∈ cns t, tw u v x ≤ 0) : tw u v z ≤ 0 := by
  have := in0_pos (u := v) (v := u) ht h fun x hx => by rw [tw_swap]; have := hc x hx; grind
  rw [tw_swap] at this
  grind
def fan (a : Spot) : List Spot → Rat
  | b :: c :: r => tw a b c + fan a (c :: r)
  | _ => 0
def ar2 : List Spot → Rat
  | [] => 0
  | a :: l => fan a l
def fanP (a : Spot) : List Spot → List T3
  | b :: c :: r => (a, b, c) :: fanP a (c :: r)
  | _ => []
structure Parts (t : T3) (ps : List T3) : Prop where
  pos : ∀ p ∈ ps, 0 < tw3 p
  ins : ∀ p ∈ ps, ∀ x ∈ cns p, InT0 t x
  sep : ps.Pairwise gsep
  sum : qsum (ps.map tw3) = tw3 t
structure Cutting (f : List Spot) (ps : List T3) : Prop where
  pos : ∀ p ∈ ps, 0 < tw3 p
  ins : ∀ p ∈ ps, ∀ x ∈ cns p, InC f x
  sep : ps.Pairwise gsep
  sum : qsum (ps.map tw3) = ar2 f
theorem qsum_perm {l m : List Rat} (h : l.Perm m) : qsum l = qsum m := by
  induction h with
  | nil => rfl
  | cons x _ ih => simp only [qsum, ih]
  | swap x y l => simp only [qsum]; grind
  | trans _ _ h1 h2 => exact h1.trans h2
theorem Cutting.perm {f : List Spot} {ps qs : List T3} (h : Cutting f ps) (p : ps.Perm qs) : Cutting f qs :=
  ⟨fun x hx => h.pos x (p.mem_iff.mpr hx), fun x hx => h.ins x (p.mem_iff.mpr hx), p.pairwise h.sep fun h => gsep_symm h, by rw [← h.sum]; exact qsum_perm (p.symm.map _)⟩
theorem gsep_in {t o p : T3} (ht : 0 < tw3 t) (h : gsep t o) (hp : ∀ x ∈ cns p, InT0 t x) : gsep p o := by
  obtain ⟨u, v, hn, h1, h2⟩ := h
  exact ⟨u, v, hn, fun x hx => in0_neg ht (hp x hx) h1, h2⟩
theorem Cutting.cut {f : List Spot} {A B qs : List T3} {t : T3} (h : Cutting f (A ++ t :: B)) (hq : Parts t qs) : Cutting f (A ++ B ++ qs) := by
  have ht : 0 < tw3 t := h.pos t (by simp)
  have h' : Cutting f (t :: (A ++ B)) := h.perm List.perm_middle
  have hs := List.pairwise_cons.mp h'.sep
  refine ⟨fun p hp => ?_, fun p hp x hx => ?_, List.pairwise_append.mpr ⟨hs.2, hq.sep, fun a ha b hb => ?_⟩, ?_⟩
  · rcases List.mem_append.mp hp with z | z
    · exact h'.pos p (List.mem_cons_of_mem _ z)
    · exact hq.pos p z
  · rcases List.mem_append.mp hp with z | z
    · exact h'.ins p (List.mem_cons_of_mem _ z) x hx
    · intro k hk
      exact in0_pos ht (hq.ins p z x hx) fun y hy => h'.ins t List.mem_cons_self y hy k hk
  · exact gsep_symm (gsep_in ht (hs.1 a ha) (hq.ins b hb))
  · rw [List.map_append, qsum_app, hq.sum, ← h'.sum]
    simp only [List.map_cons, qsum]
    grind
theorem fanP_mem {a : Spot} : ∀ {l : List Spot} {p : T3}, p ∈ fanP a l → ∀ x ∈ cns p, x = a ∨ x ∈ l
  | [], _, h => by simp [fanP] at h
  | [_], _, h => by simp [fanP] at h
  | b :: c :: r, p, h => by
    intro x hx
    rcases List.mem_cons.mp (show p ∈ (a, b, c) :: fanP a (c :: r) from h) with rfl | z
    · simp only [cns, List.mem_cons, List.not_mem_nil, or_false] at hx
      rcases hx with rfl | rfl | rfl
      · exact .inl rfl
      · exact .inr (by simp)
      · exact .inr (by simp)
    · rcases fanP_mem (l := c :: r) z x hx with h1 | h1
      · exact .inl h1
      · exact .inr (List.mem_cons_of_mem _ h1)
theorem fanP_cut {a : Spot} : ∀ {l : List Spot}, l.Pairwise (fun b c => 0 < tw a b c) → (∀ p ∈ fanP a l, 0 < tw3 p) ∧ (fanP a l).Pairwise gsep ∧ qsum ((fanP a l).map tw3) = fan a l
  | [], _ => ⟨by simp [fanP], by simp [fanP], rfl⟩
  | [_], _ => ⟨by simp [fanP], by simp [fanP], rfl⟩
  | b :: c :: r, h => by
    have h1 := List.pairwise_cons.mp h
    have h2 := List.pairwise_cons.mp h1.2
    obtain ⟨p1, p2, p3⟩ := fanP_cut (l := c :: r) h1.2
    have bc : 0 < tw a b c := h1.1 c (by simp)
    refine ⟨fun p hp => ?_, List.pairwise_cons.mpr ⟨fun p hp => ?_, p2⟩, ?_⟩
    · rcases List.mem_cons.mp (show p ∈ (a, b, c) :: fanP a (c :: r) from hp) with rfl | z
      · exact bc
      · exact p1 p z
    · refine ⟨a, c, fun e => ?_, fun x hx => ?_, fun x hx => ?_⟩
      · rw [e, tw_self1] at bc; exact Rat.lt_irrefl bc
      · simp only [cns, List.mem_cons, List.not_mem_nil, or_false] at hx
        rcases hx with rfl | rfl | rfl
        · rw [tw_self1]; exact Rat.le_refl
        · unfold tw at *; grind
        · rw [tw_self2]; exact Rat.le_refl
      · rcases fanP_mem hp x hx with rfl | z
        · rw [tw_self1]; exact Rat.le_refl
        · rcases List.mem_cons.mp z with rfl | z
          · rw [tw_self2]; exact Rat.le_refl
          · exact Rat.le_of_lt (h2.1 x z)
    · show tw3 (a, b, c) + qsum ((fanP a (c :: r)).map tw3) = tw a b c + fan a (c :: r)
      rw [p3]
      rfl
theorem Cvx.fan {a : Spot} {l : List Spot} (h : Cvx (a :: l)) : Cutting (a :: l) (fanP a l) := by
  obtain ⟨p1, p2, p3⟩ := fanP_cut h.1
  exact ⟨p1, fun p hp x hx => h.corner (by rcases fanP_mem hp x hx with rfl | z <;> simp [*]), p2, p3⟩
def SameT (t o : T3) : Prop := (∀ x, x ∈ cns t ↔ x ∈ cns o) ∧ tw3 t = tw3 o
theorem gsep_same {t o t' o' : T3} (h : gsep t o) (ht : SameT t t') (ho : SameT o o') : gsep t' o' := by
  obtain ⟨u, v, hn, h1, h2⟩ := h
  exact ⟨u, v, hn, fun x hx => h1 x ((ht.1 x).mpr hx), fun x hx => h2 x ((ho.1 x).mpr hx)⟩
theorem Cutting.same {f : List Spot} {ps : List T3} (h : Cutting f ps) (r : T3 → T3) (hr : ∀ p ∈ ps, SameT p (r p)) : Cutting f (ps.map r) := by
  refine ⟨fun p hp => ?_, fun p hp x hx => ?_, ?_, ?_⟩
  · obtain ⟨q, hq, rfl⟩ := List.mem_map.mp hp
    rw [← (hr q hq).2]; exact h.pos q hq
  · obtain ⟨q, hq, rfl⟩ := List.mem_map.mp hp
    exact h.ins q hq x (((hr q hq).1 x).mpr hx)
  · rw [List.pairwise_map]
    exact List.Pairwise.imp_of_mem (fun {a b} ha hb hab => gsep_same hab (hr a ha) (hr b hb)) h.sep
  · rw [← h.sum, List.map_map]
    congr 1
    exact List.map_congr_left fun p hp => (hr p hp).2.symm
end Sd
namespace Sd
def pv (l : List Spot) (k : Nat) : Nat := if k = 0 then l.length - 1 else k - 1
inductive Pl where
  | co (k : Nat)
  | si (k : Nat)
  | out
  | ins
def Dn (D M : Nat) (x : Rat) : Prop := 0 < D ∧ ∃ k : Int, x * (D : Rat) = (k : Rat) ∧ k.natAbs ≤ M * D
theorem natR {n : Nat} : ((n : Nat) : Rat) = (((n : Nat) : Int) : Rat) := rfl
theorem Dn.eq {D M : Nat} {x : Rat} (h : Dn D M x) : ∃ k : Int, x = (k : Rat) / ((D : Int) : Rat) ∧ k.natAbs ≤ M * D := by
  obtain ⟨h0, k, e, hk⟩ := h
  refine ⟨k, ?_, hk⟩
  have : (((D : Nat) : Int) : Rat) ≠ 0 := cast_ne (by omega)
  rw [natR] at e
  rw [← e, Rat.mul_div_cancel this]
theorem Dn.sz {D M n : Nat} {x : Rat} (h : Dn D M x) (h1 : M * D < 2 ^ n) (h2 : D < 2 ^ n) : Sz n x := by
  obtain ⟨k, rfl, hk⟩ := h.eq
  exact sz_div (by have := h.1; omega) (by omega) (by omega)
theorem Dn.mono {D M M' : Nat} {x : Rat} (h : Dn D M x) (l : M ≤ M') : Dn D M' x := by
  obtain ⟨h0, k, e, hk⟩ := h
  exact ⟨h0, k, e, Nat.le_trans hk (Nat.mul_le_mul_right _ l)⟩
theorem Dn.add {D E M N : Nat} {x y : Rat} (h : Dn D M x) (k : Dn E N y) : Dn (D * E) (M + N) (x + y) := by
  obtain ⟨h0, a, e, ha⟩ := h
  obtain ⟨k0, b, f, hb⟩ := k
  refine ⟨Nat.mul_pos h0 k0, a * E + b * D, ?_, ?_⟩
  · rw [natR] at *
    rw [Rat.intCast_add, Rat.intCast_mul, Rat.intCast_mul, ← e, ← f, Int.natCast_mul, Rat.intCast_mul]; grind
  · have h1 : (a * E).natAbs ≤ M * D * E := by rw [Int.natAbs_mul, Int.natAbs_natCast]; exact Nat.mul_le_mul_right _ ha
    have h2 : (b * D).natAbs ≤ N * E * D := by rw [Int.natAbs_mul, Int.natAbs_natCast]; exact Nat.mul_le_mul_right _ hb
    have h3 := Int.natAbs_add_le (a * E) (b * D)
    have e1 : (M + N) * (D * E) = M * D * E + N * E * D := by
      rw [Nat.add_mul, Nat.mul_assoc, Nat.mul_assoc, Nat.mul_comm E D]
    omega
theorem Dn.add1 {D M N : Nat} {x y : Rat} (h : Dn D M x) (k : Dn D N y) : Dn D (M + N) (x + y) := by
  obtain ⟨h0, a, e, ha⟩ := h
  obtain ⟨k0, b, f, hb⟩ := k
  refine ⟨h0, a + b, ?_, ?_⟩
  · rw [natR] at *
    rw [Rat.intCast_add, ← e, ← f]; grind
  · have h3 := Int.natAbs_add_le a b
    rw [Nat.add_mul]; omega
theorem Dn.neg {D M : Nat} {x : Rat} (h : Dn D M x) : Dn D M (-x) := by
  obtain ⟨h0, a, e, ha⟩ := h
  exact ⟨h0, -a, by rw [Rat.intCast_neg, ← e]; grind, by rw [Int.natAbs_neg]; exact ha⟩
theorem Dn.sub1 {D M N : Nat} {x y : Rat} (h : Dn D M x) (k : Dn D N y) : Dn D (M + N) (x - y) := by
  rw [Rat.sub_eq_add_neg]; exact h.add1 k.neg
theorem Dn.mul {D E M N : Nat} {x y : Rat} (h : Dn D M x) (k : Dn E N y) : Dn (D * E) (M * N) (x * y) := by
  obtain ⟨h0, a, e, ha⟩ := h
  obtain ⟨k0, b, f, hb⟩ := k
  refine ⟨Nat.mul_pos h0 k0, a * b, ?_, ?_⟩
  · rw [natR] at *
    rw [Rat.intCast_mul, ← e, ← f, Int.natCast_mul, Rat.intCast_mul]; grind
  · rw [Int.natAbs_mul, show M * N * (D * E) = (M * D) * (N * E) by rw [Nat.mul_mul_mul_comm]]
    exact Nat.mul_le_mul ha hb
def DnS (D M : Nat) (s : Spot) : Prop := Dn D M s.1 ∧ Dn D M s.2
def DnT (D M : Nat) (t : T3) : Prop := DnS D M t.1 ∧ DnS D M t.2.1 ∧ DnS D M t.2.2
theorem DnS.tw {D M : Nat} {a b c : Spot} (ha : DnS D M a) (hb : DnS D M b) (hc : DnS D M c) : Dn (D * D) (8 * (M * M)) (tw a b c) := by
  have h1 := (hb.1.sub1 ha.1).mul (hc.2.sub1 ha.2)
  have h2 := (hc.1.sub1 ha.1).mul (hb.2.sub1 ha.2)
  have h3 := h1.sub1 h2
  have e : (M + M) * (M + M) + (M + M) * (M + M) = 8 * (M * M) := by grind
  rw [e] at h3
  exact h3
theorem Dn.sum {D M : Nat} (hD : 0 < D) : ∀ {l : List Rat}, (∀ x ∈ l, ∃ E, E ≤ D ∧ Dn E M x) → ∃ E, E ≤ D ^ l.length ∧ Dn E (l.length * M) (qsum l)
  | [], _ => ⟨1, by simp, by decide, 0, by simp [qsum], by simp⟩
  | x :: l, h => by
    obtain ⟨E, hE, e⟩ := Dn.sum hD (l := l) fun y hy => h y (List.mem_cons_of_mem _ hy)
    obtain ⟨E', hE', e'⟩ := h x List.mem_cons_self
    refine ⟨E' * E, ?_, ?_⟩
    · rw [List.length_cons, Nat.pow_succ, Nat.mul_comm]
      exact Nat.mul_le_mul hE hE'
    · have := e'.add e
      rw [List.length_cons, Nat.succ_mul, Nat.add_comm (l.length * M)]
      exact this
end Sd
namespace Sd
open PySem
abbrev Tri := Spot × Spot × Spot
def twT (t : Tri) : Rat := tw t.1 t.2.1 t.2.2
def SzT (n : Nat) (t : Tri) : Prop := SzS n t.1 ∧ SzS n t.2.1 ∧ SzS n t.2.2
theorem SzT.tw {n : Nat} {t : Tri} (h : SzT n t) : Sz (8 * n + 5) (twT t) := h.1.tw h.2.1 h.2.2
end Sd
namespace Sd
open PySem
theorem for_rng {t : ATg} {b : AS} {N : DE} {W : AW} {lo : Int} {n : Nat} (R : Nat → DSt → Sto → Prop) (fin : ∀ ρ S, R n ρ S → N.nx ρ S)
    (step : ∀ (F : DSt → Sto → Prop) (k : Nat) ρ S, k < n → R k ρ S → (∀ ρ' S', R (k + 1) ρ' S' → F ρ' S') → t (.int (lo + (k : Int))) ρ S (fun ρ1 S1 => b { nx := F, rt := N.rt, bk := N.nx, ct := F } ρ1 S1 W) W)
    {ρ : DSt} {S : Sto} (h : R 0 ρ S) : forS t b .free N W (rngItems lo n) ρ S := by
  refine for_ind (src := .free) (fun rr ρ S' => ∃ k : Nat, k + rr.length = n ∧ rr = rngItems (lo + (k : Int)) rr.length ∧ R k ρ S') (fun _ _ _ _ => trivial) ?_ ?_ ⟨0, by rw [rng_len]; omega, by rw [rng_len]; congr 1; omega, h⟩
  · rintro ρ S' ⟨k, hk, _, hr⟩
    have : k = n := by simpa using hk
    subst this
    exact fin ρ S' hr
  · rintro F d rr ρ S' ⟨k, hk, he, hr⟩ hF
    have hk' : k + (rr.length + 1) = n := hk
    rw [List.length_cons, rng_cons] at he
    injection he with e1 e2
    subst e1
    exact step F k ρ S' (by omega) hr fun ρ' S'' h' => hF ρ' S'' ⟨k + 1, by omega, by rw [e2, rng_len]; congr 1; omega, h'⟩
theorem atI_nat {l : List D} {k : Nat} (h : k < l.length) : L2.atI l (k : Int) = l[k]? := by
  unfold L2.atI L2.ixN
  rw [if_pos (by omega), if_pos (by omega)]
  rfl
noncomputable instance rndDec (l : List Spot) : Decidable (Rnd l) := Classical.propDecidable _
noncomputable instance cvxDec (l : List Spot) : Decidable (Cvx l) := Classical.propDecidable _
end Sd
namespace Sd
open PySem
theorem isi_cl {S : Sto} {a : Addr} {k j : Nat} {f : Option D} (e : S a = some (.exc k f)) : isiAny S (.ref a) [.cl j] = some (subK k j) := by
  simp only [isiAny, isiOne, btOf, e]
  cases subK k j <;> rfl
theorem isi_ve {S : Sto} {a : Addr} {k : Nat} {f : Option D} (e : S a = some (.exc k f)) : isiAny S (.ref a) [.bt "ValueError"] = some true := by
  simp only [isiAny, isiOne, btOf, e]
  rfl
end Sd
namespace Sd
open PySem PySem.StrLaws TL L2
theorem joinL_free {s : Nat} {S : List Nat} (hs : s ∉ S) : ∀ {l : List (List Nat)}, (∀ p ∈ l, s ∉ p) → s ∉ joinL S l
  | [], _ => List.not_mem_nil
  | [p], h => h p (List.mem_singleton.mpr rfl)
  | p :: q :: r, h => by
    show s ∉ p ++ (S ++ joinL S (q :: r))
    intro hm
    rcases List.mem_append.mp hm with hm | hm
    · exact h p (List.mem_cons_self ..) hm
    · rcases List.mem_append.mp hm with hm | hm
      · exact hs hm
      · exact joinL_free hs (fun z hz => h z (List.mem_cons_of_mem _ hz)) hm
theorem sum_len {k : Nat} : ∀ {l : List Str}, (∀ x ∈ l, x.length ≤ k) → (l.map (·.length)).sum ≤ l.length * k
  | [], _ => Nat.zero_le _
  | x :: l, h => by
    have h1 := h x (List.mem_cons_self ..)
    have h2 := sum_len (l := l) fun z hz => h z (List.mem_cons_of_mem _ hz)
    rw [List.map_cons, List.sum_cons, List.length_cons, Nat.add_mul, Nat.one_mul]
    omega
def asc (x : Str) : Prop := ∀ c ∈ tl x, c < 128
theorem asc_ok {x : Str} (h : asc x) : PyData.strOk x = true := by
  unfold PyData.strOk
  rw [Array.all_eq_true']
  intro c hc
  have := h c (by show c ∈ x.cps.toList; exact Array.mem_toList_iff.mpr hc)
  rw [decide_eq_true_eq]
  omega
end Sd
namespace Sd
open PySem
end Sd
namespace Sd
def chain : List Spot → Rat
  | b :: c :: r => cr b c + chain (c :: r)
  | _ => 0
end Sd
namespace Sd
open PySem
theorem DnS.mono {D M M' : Nat} {x : Spot} (h : DnS D M x) (l : M ≤ M') : DnS D M' x := ⟨h.1.mono l, h.2.mono l⟩
end Sd
namespace Sd
open PySem
end Sd
namespace Sd
open PySem
theorem DnS.sz {D M n : Nat} {s : Spot} (h : DnS D M s) (h1 : M * D < 2 ^ n) (h2 : D < 2 ^ n) : SzS n s := ⟨h.1.sz h1 h2, h.2.sz h1 h2⟩
end Sd
namespace Sd
open PySem
theorem Cvx.map {F : Spot → Spot} {c : Rat} (hc : 0 < c) (h : ∀ p q r, tw (F p) (F q) (F r) = c * tw p q r) : ∀ {l : List Spot}, Cvx l → Cvx (l.map F)
  | [], _ => trivial
  | a :: l, hl => ⟨List.pairwise_map.mpr (hl.1.imp fun {x y} z => by rw [h]; exact Rat.mul_pos hc z), Cvx.map hc h hl.2⟩
structure Fld (f : List Spot) (D M : Nat) : Prop where
  cvx : Cvx f
  lo : 3 ≤ f.length
  hi : f.length ≤ 6
  d0 : 0 < D
  d6 : D ≤ 6
  dn : ∀ s ∈ f, DnS D M s
theorem q_catL {S : Sto} {P : PD} {a b : Addr} {w v : Bool} {l m : List D} (e1 : S a = some (.lst w l)) (e2 : S b = some (.lst v m)) (hz : l.length + m.length ≤ sizeLine) (h : ∀ p, S p = none → P (.ref p) (S.up p (.lst true (l ++ m)))) : opS .Add (.ref a) (.ref b) S P := by
  rw [q_cat, e1, e2]
  exact ⟨hz, h⟩
end Sd
namespace Sd
open PySem
theorem Cutting.head {f : List Spot} {t t' : T3} {l : List T3} (h : Cutting f (t :: l)) (hs : SameT t t') : Cutting f (t' :: l) := by
  have hp := List.pairwise_cons.mp h.sep
  refine ⟨fun p hp => ?_, fun p hp x hx => ?_, List.pairwise_cons.mpr ⟨fun o ho => gsep_same (hp.1 o ho) hs ⟨fun _ => Iff.rfl, rfl⟩, hp.2⟩, ?_⟩
  · rcases List.mem_cons.mp hp with rfl | z
    · rw [← hs.2]; exact h.pos t (by simp)
    · exact h.pos p (by simp [z])
  · rcases List.mem_cons.mp hp with rfl | z
    · exact h.ins t (by simp) x ((hs.1 x).mpr hx)
    · exact h.ins p (by simp [z]) x hx
  · rw [← h.sum]
    simp only [List.map_cons, qsum, hs.2]
structure Cts (f : List Spot) (M : Nat) (xs : List (T3 × Int)) : Prop where
  cut : Cutting f (xs.map (·.1))
  lo : 1 ≤ xs.length
  dn : ∀ x ∈ xs, 0 ≤ x.2 ∧ x.2 ≤ 12 ∧ ∃ E, E ≤ 6 * 9 ^ x.2.toNat ∧ DnT E M x.1
theorem Cts.step {f : List Spot} {M : Nat} {A B : List (T3 × Int)} {x : T3 × Int} {qs : List T3} (h : Cts f M (A ++ x :: B)) (hx : x.2 < 12) (hq : Parts x.1 qs) (l2 : 2 ≤ qs.length) {D : Nat} (hD : D ≤ 6 * 9 ^ x.2.toNat) (hE : ∀ p ∈ qs, ∃ E, E ≤ D * 9 ∧ DnT E M p) : Cts f M (A ++ B ++ qs.map fun t => (t, x.2 + 1)) where
  cut := by
    have := h.cut
    rw [List.map_append, List.map_cons] at this
    have := this.cut hq
    rw [List.map_append, List.map_append, List.map_map]
    rwa [show qs.map ((fun x : T3 × Int => x.1) ∘ fun t => (t, x.2 + 1)) = qs from by
      rw [show ((fun x : T3 × Int => x.1) ∘ fun t => (t, x.2 + 1)) = id from rfl, List.map_id]]
  lo := by rw [List.length_append, List.length_map]; omega
  dn := fun y hy => by
    have hx0 := (h.dn x (by simp)).1
    rcases List.mem_append.mp hy with z | z
    · refine h.dn y ?_
      rcases List.mem_append.mp z with z | z <;> simp [z]
    · obtain ⟨t, ht, rfl⟩ := List.mem_map.mp z
      obtain ⟨E, h1, h2⟩ := hE t ht
      refine ⟨by show 0 ≤ x.2 + 1; omega, by show x.2 + 1 ≤ 12; omega, E, ?_, h2⟩
      show E ≤ 6 * 9 ^ (x.2 + 1).toNat
      rw [show (x.2 + 1).toNat = x.2.toNat + 1 by omega, Nat.pow_succ]
      have : D * 9 ≤ 6 * 9 ^ x.2.toNat * 9 := Nat.mul_le_mul_right _ hD
      omega
end Sd
namespace Sd
open PySem
theorem Fld.mono {f : List Spot} {D M M' : Nat} (h : Fld f D M) (l : M ≤ M') : Fld f D M' := ⟨h.cvx, h.lo, h.hi, h.d0, h.d6, fun s hs => (h.dn s hs).mono l⟩
end Sd
namespace Sd
open PySem
noncomputable instance bhDec (t o : Tri) : Decidable (bh t o) := Classical.propDecidable _
noncomputable instance lapDec (t o : Tri) : Decidable (¬ bh t o ∧ ¬ bh o t) := Classical.propDecidable _
end Sd
namespace Sd
open PySem
end Sd
namespace Sd
open PySem
noncomputable instance inCDec (f : List Spot) (s : Spot) : Decidable (InC f s) := Classical.propDecidable _
end Sd
namespace Sd
open PySem
end Sd
namespace Sd
end Sd
namespace Sd
def sl (c : Rat → Rat → Rat) : Rat → List Rat → Rat
  | _, [] => 0
  | p, q :: r => c p q + sl c q r
end Sd
namespace Sd
end Sd
namespace Sd
end Sd
namespace Sd
end Sd
namespace Sd
end Sd
namespace Sd
def chW (z : Spot) : List Spot → Prop
  | b :: c :: r => 0 ≤ tw b c z ∧ chW z (c :: r)
  | _ => True
def lastS : Spot → List Spot → Spot
  | b, [] => b
  | _, c :: r => lastS c r
theorem in_fan {a z : Spot} : ∀ {r : List Spot} {b : Spot}, r ≠ [] → chW z (b :: r) → 0 ≤ tw a b z → tw a (lastS b r) z ≤ 0 → ∃ p ∈ fanP a (b :: r), InT0 p z
  | [], _, h, _, _, _ => (h rfl).elim
  | c :: r, b, _, hc, h0, h1 => by
    by_cases k : tw a c z ≤ 0
    · refine ⟨(a, b, c), by simp [fanP], h0, hc.1, ?_⟩
      show 0 ≤ tw c a z
      have : tw c a z = -tw a c z := by unfold tw; grind
      rw [this]
      grind
    · have hr : r ≠ [] := fun e => by
        subst e
        exact k h1
      obtain ⟨p, hp, hi⟩ := in_fan (a := a) (b := c) hr hc.2 (by grind) h1
      exact ⟨p, by simp [fanP, hp], hi⟩
theorem chW_of {z : Spot} : ∀ {l : List Spot}, (∀ k, k + 1 < l.length → 0 ≤ tw (g l k) (g l (k + 1)) z) → chW z l
  | [], _ => trivial
  | [_], _ => trivial
  | b :: c :: r, h => ⟨h 0 (by simp), chW_of fun k hk => h (k + 1) (by simpa using hk)⟩
theorem lastS_g : ∀ {r : List Spot} {b : Spot}, lastS b r = g (b :: r) r.length
  | [], _ => rfl
  | c :: r, b => by
    show lastS c r = g (b :: c :: r) (r.length + 1)
    rw [lastS_g, g_cons]
theorem InC.fan {a z : Spot} {l : List Spot} (h : InC (a :: l) z) (hl : 2 ≤ l.length) : ∃ p ∈ fanP a l, InT0 p z := by
  match l, hl with
  | b :: r, hl =>
    have hr : r ≠ [] := fun e => by subst e; simp at hl
    refine in_fan hr (chW_of fun k hk => ?_) ?_ ?_
    · have := h (k + 1) (by simpa using Nat.lt_of_succ_lt hk)
      rw [nx_in (by simpa using hk), g_cons, g_cons] at this
      exact this
    · have := h 0 (by simp)
      rw [nx_in (by simp), g_cons0, g_cons, g_cons0] at this
      exact this
    · have := h (r.length + 1) (by simp)
      rw [nx_last (by simp), g_cons, g_cons0] at this
      rw [lastS_g]
      have e : tw (g (b :: r) r.length) a z = -tw a (g (b :: r) r.length) z := by unfold tw; grind
      rw [e] at this
      grind
end Sd
namespace Sd
end Sd
namespace Sd
end Sd
namespace Sd
end Sd
namespace Sd
end Sd
namespace Sd
open PySem
theorem ev_str {x : Str} : PyData.eqv (.str x) (.str x) = true := by simp [PyData.eqv]
mutual
theorem pdW_refl {g : Addr → Option PyData} (hg : ∀ a p, g a = some p → PyData.eqv p p = true) : ∀ d n p, pdW g n d = some p → PyData.eqv p p = true
  | .non, n, p, h => by
    have : p = .none := by cases n <;> (cases h; rfl)
    subst this
    simp [PyData.eqv]
  | .bl b, n, p, h => by
    have : p = .bool b := by cases n <;> (cases h; rfl)
    subst this
    simp [PyData.eqv]
  | .int i, n, p, h => by
    have : p = .int i := by cases n <;> (cases h; rfl)
    subst this
    simp [PyData.eqv]
  | .str x, n, p, h => by
    have h' : (if PyData.strOk x = true then some (PyData.str x) else none) = some p := by cases n <;> exact h
    split at h'
    · cases h'
      exact ev_str
    · cases h'
  | .ty _, n, p, h => by cases n <;> cases h
  | .ref a, n, p, h => by
    have : g a = some p := by cases n <;> exact h
    exact hg a p this
  | .tup l, 0, p, h => by cases h
  | .tup l, n + 1, p, h => by
    rw [pd_tup] at h
    cases e : pdWs g n l with
    | none => rw [e] at h; cases h
    | some ps =>
      rw [e] at h
      cases h
      rw [ev_tup]
      exact pdWs_refl hg l n ps e
theorem pdWs_refl {g : Addr → Option PyData} (hg : ∀ a p, g a = some p → PyData.eqv p p = true) : ∀ l n ps, pdWs g n l = some ps → PyData.eqvAll ps ps = true
  | [], n, ps, h => by
    rw [pd_nil] at h
    cases h
    exact ev_nil
  | d :: l, n, ps, h => by
    rw [pd_cons] at h
    cases e1 : pdW g n d with
    | none => rw [e1] at h; cases h
    | some p =>
      cases e2 : pdWs g n l with
      | none => rw [e1, e2] at h; cases h
      | some qs =>
        rw [e1, e2] at h
        cases h
        rw [ev_cons, pdW_refl hg d n p e1, pdWs_refl hg l n qs e2]
        rfl
end
theorem gL_refl {S : Sto} : ∀ k a p, gL S k a = some p → PyData.eqv p p = true
  | 0, a, p, h => by cases h
  | k + 1, a, p, h => by
    unfold gL at h
    split at h
    · split at h
      · rename_i e
        cases h
        rw [ev_list]
        exact pdWs_refl (gL_refl k) _ _ _ e
      · cases h
    · cases h
def See (S : Sto) (d : D) : Prop := ∃ p, pdS S d = some p
theorem See.refl {S : Sto} {d : D} {p : PyData} (h : pdS S d = some p) : PyData.eqv p p = true := pdW_refl (gL_refl 3) _ _ _ h
theorem See.ne {S : Sto} {P : PD} {d e : D} (h : See S d) (he : pdS S e = pdS S d) (hp : P (.bl false) S) : cmpS .NotEq d e S P := by
  obtain ⟨p, e1⟩ := h
  rw [cmp_ne e1 (he.trans e1), See.refl e1]
  exact hp
theorem See.eq {S : Sto} {P : PD} {d e : D} (h : See S d) (he : pdS S e = pdS S d) (hp : P (.bl true) S) : cmpS .Eq d e S P := by
  obtain ⟨p, e1⟩ := h
  rw [cmp_eq e1 (he.trans e1), See.refl e1]
  exact hp
mutual
theorem pdW_sm {g g' : Addr → Option PyData} (hg : ∀ a, (∃ p, g a = some p) → ∃ p, g' a = some p) : ∀ d n, (∃ p, pdW g n d = some p) → ∃ p, pdW g' n d = some p
  | .non, n, h => ⟨.none, by cases n <;> rfl⟩
  | .bl b, n, h => ⟨.bool b, by cases n <;> rfl⟩
  | .int i, n, h => ⟨.int i, by cases n <;> rfl⟩
  | .str x, n, h => by cases n <;> exact h
  | .ty _, n, h => by cases n <;> exact h
  | .ref a, n, h => by cases n <;> exact hg a h
  | .tup l, 0, h => by obtain ⟨p, h⟩ := h; cases h
  | .tup l, n + 1, h => by
    obtain ⟨p, h⟩ := h
    rw [pd_tup] at h
    cases e : pdWs g n l with
    | none => rw [e] at h; cases h
    | some ps =>
      obtain ⟨qs, e'⟩ := pdWs_sm hg l n ⟨ps, e⟩
      exact ⟨.tuple qs, by rw [pd_tup, e']⟩
theorem pdWs_sm {g g' : Addr → Option PyData} (hg : ∀ a, (∃ p, g a = some p) → ∃ p, g' a = some p) : ∀ l n, (∃ ps, pdWs g n l = some ps) → ∃ ps, pdWs g' n l = some ps
  | [], n, h => ⟨[], pd_nil⟩
  | d :: l, n, h => by
    obtain ⟨ps, h⟩ := h
    rw [pd_cons] at h
    cases e1 : pdW g n d with
    | none => rw [e1] at h; cases h
    | some p =>
      cases e2 : pdWs g n l with
      | none => rw [e1, e2] at h; cases h
      | some qs =>
        obtain ⟨p', e1'⟩ := pdW_sm hg d n ⟨p, e1⟩
        obtain ⟨qs', e2'⟩ := pdWs_sm hg l n ⟨qs, e2⟩
        exact ⟨p' :: qs', by rw [pd_cons, e1', e2']⟩
end
theorem gL_sm {S S' : Sto} (h : ∀ a w l, S a = some (.lst w l) → S' a = some (.lst w l) ∨ ∃ w' i j, S' a = some (.lst w' [.int i, .int j])) : ∀ k a, (∃ p, gL S k a = some p) → ∃ p, gL S' k a = some p
  | 0, a, h' => by obtain ⟨p, h'⟩ := h'; cases h'
  | k + 1, a, h' => by
    obtain ⟨p, h'⟩ := h'
    unfold gL at h'
    split at h'
    · rename_i w l e
      split at h'
      · rename_i ps e'
        rcases h a w l e with c | ⟨w', i, j, c⟩
        · obtain ⟨qs, e2⟩ := pdWs_sm (gL_sm h k) l 12 ⟨ps, e'⟩
          exact ⟨.list qs, by simp only [gL, c, e2]⟩
        · exact ⟨.list [.int i, .int j], by simp only [gL, c, pd_cons, pd_int, pd_nil]⟩
      · cases h'
    · cases h'
theorem See.le {S S' : Sto} {d : D} (h : Sto.le S S') (s : See S d) : See S' d := pdW_sm (gL_sm (fun a w l e => .inl (h _ _ e)) 3) d 12 s
theorem See.row {S S' : Sto} {d : D} {r : Addr} {n : Int} (h : Rowed S S' r) (hr : Row S' r n) (s : See S d) : See S' d := pdW_sm (gL_sm (fun a w l e => by
  by_cases c : a = r
  · obtain ⟨i, j, e', _⟩ := hr
    exact .inr ⟨_, _, _, c ▸ e'⟩
  · exact .inl (h _ _ c e)) 3) d 12 s
def t0 : Tri := ((0, 0), (0, 0), (0, 0))
def tri (ps : List Tri) (k : Nat) : Tri := ps.getD k t0
section
variable {f : List Spot} {ps : List Tri}
end
end Sd
namespace Sd
open PySem PySem.StrLaws TL L2
theorem wE_ls5 {Γ : Gam} {es : List X} : wE Γ (.ls es) = fun ρ S P W => wEs Γ es ρ S (fun ds S1 => ds.length ≤ sizeLine ∧ ∀ p, S1 p = none → P (.ref p) (S1.up p (.lst true ds))) W := rfl
def errO (f a n : D) (k : Nat) : O := .exc (k + 1) (if k = 3 then some f else if k = 14 then some a else if k = 16 then some n else none)
def ErrL (F : Nat → O) (S : Sto) (as : List Addr) (k0 : Nat) : Prop := ∀ i a, as[i]? = some a → S a = some (F (k0 + i))
theorem ErrL.le {F : Nat → O} {S S' : Sto} {as : List Addr} {k0 : Nat} (h : ErrL F S as k0) (l : Sto.le S S') : ErrL F S' as k0 := fun i a e => l _ _ (h i a e)
theorem ErrL.nil {F : Nat → O} {S : Sto} {k0 : Nat} : ErrL F S [] k0 := fun i a e => by simp at e
theorem ErrL.cons {F : Nat → O} {S : Sto} {a : Addr} {as : List Addr} {k0 : Nat} (e : S a = some (F k0)) (h : ErrL F S as (k0 + 1)) : ErrL F S (a :: as) k0 := fun i b eb => by
  cases i with
  | zero =>
    have : some a = some b := eb
    injection this with this
    rw [← this]
    exact e
  | succ i =>
    have := h i b eb
    rw [show k0 + (i + 1) = k0 + 1 + i by omega]
    exact this
theorem ErrL.app {F : Nat → O} {S : Sto} {as bs : List Addr} {k0 k1 : Nat} (hk : k1 = k0 + as.length) (h : ErrL F S as k0) (h2 : ErrL F S bs k1) : ErrL F S (as ++ bs) k0 := fun i b eb => by
  by_cases hi : i < as.length
  · rw [List.getElem?_append_left hi] at eb
    exact h i b eb
  · rw [List.getElem?_append_right (by omega)] at eb
    have := h2 _ b eb
    rw [show k0 + i = k1 + (i - as.length) by omega]
    exact this
section
variable {Γ : Gam} {ρ : DSt} {S : Sto} {P : PD} {W : AW} {k : Nat} {o : Bool} {a : X} {d : D}
theorem sv_mke (ha : ∀ Q : PD, Q d S → wE Γ a ρ S Q W) (h : ∀ p S', S p = none → Sto.le S S' → S' p = some (.exc k (if o then some d else none)) → P (.ref p) S') : wE Γ (.mke k o a) ρ S P W := by
  show wE Γ a ρ S (fun d S1 => ∀ p, S1 p = none → P (.ref p) (S1.up p (.exc k (if o then some d else none)))) W
  exact ha _ fun p np => h p _ np (up_ls np) up_same
theorem sv_con : ∀ Q : PD, Q d S → wE Γ (.c d) ρ S Q W := fun Q h => h
theorem sv_var5 {i : Nat} (hi : lk ρ i = some d) : ∀ Q : PD, Q d S → wE Γ (.var i) ρ S Q W := fun Q h => by
  simp only [wE, hi]
  exact h
end
def c_law_made_2 : Con := fun ds S P _ => match ds with
  | [f, a, n] => ∀ p S' as, S p = none → Sto.le S S' → S' p = some (.lst true (as.map D.ref)) → as.length = 17 → ErrL (errO f a n) S' as 0 → P (.ref p) S'
  | _ => False
theorem m_law_made_2 {Γ : Gam} : Meets Γ 4 z_law_made_2 c_law_made_2 := by
  intro ds S P W h
  unfold c_law_made_2 at h
  split at h
  · rename_i f a n
    have hs9 : sizeLine = 16777216 := sizeLine_eq
    change wZs Γ z_law_made_2 (retE P) [some f, some a, some n, none] S (errW W)
    refine cut 1 (fun ρ T => ∃ p as, ρ = [some f, some a, some n, some (.ref p)] ∧ T p = some (.lst true (as.map D.ref)) ∧ as.length = 7 ∧ ErrL (errO f a n) T as 0 ∧ Sto.le S T) (fun G hG => ?_) ?_
    · dsimp only [z_law_made_2, List.take]
      simp only [wZs, wZ, wE_ls5, wEs]
      refine sv_mke sv_con fun p1 S1 n1 l1 e1 => ?_
      refine sv_mke sv_con fun p2 S2 n2 l2 e2 => ?_
      refine sv_mke sv_con fun p3 S3 n3 l3 e3 => ?_
      refine sv_mke (sv_var5 rfl) fun p4 S4 n4 l4 e4 => ?_
      refine sv_mke sv_con fun p5 S5 n5 l5 e5 => ?_
      refine sv_mke sv_con fun p6 S6 n6 l6 e6 => ?_
      refine sv_mke sv_con fun p7 S7 n7 l7 e7 => ?_
      refine ⟨by simp only [List.length_cons, List.length_nil]; omega, fun q nq => ?_⟩
      have lq := up_ls (o := .lst true [.ref p1, .ref p2, .ref p3, .ref p4, .ref p5, .ref p6, .ref p7]) nq
      have l67 := l7
      have l57 := l6.trans l67
      have l47 := l5.trans l57
      have l37 := l4.trans l47
      have l27 := l3.trans l37
      have l17 := l2.trans l27
      refine hG _ _ ⟨q, [p1, p2, p3, p4, p5, p6, p7], rfl, up_same, rfl, ?_, (l1.trans l17).trans lq⟩
      refine ErrL.le (.cons (l17 _ _ e1) (.cons (l27 _ _ e2) (.cons (l37 _ _ e3) (.cons (l47 _ _ e4) (.cons (l57 _ _ e5) (.cons (l67 _ _ e6) (.cons e7 .nil))))))) lq
    rintro ρ T ⟨p, as, rfl, ep, las, hE, lT⟩
    refine cut 1 (fun ρ T' => ∃ p as, ρ = [some f, some a, some n, some (.ref p)] ∧ T' p = some (.lst true (as.map D.ref)) ∧ as.length = 14 ∧ ErrL (errO f a n) T' as 0 ∧ Sto.le S T') (fun G hG => ?_) ?_
    · dsimp only [z_law_made_2, List.take, List.drop]
      simp only [wZs, wZ]
      rw [show wE Γ (.op .Add (.var 3) (.ls [(.mke 8 false (.c (.str "g"))), (.mke 9 false (.c (.str "h"))), (.mke 10 false (.c (.str "i"))), (.mke 11 false (.c (.str "j"))), (.mke 12 false (.c (.str "k"))), (.mke 13 false (.c (.str "l"))), (.mke 14 false (.c (.str "m")))])) = fun ρ S P W => wE Γ (.var 3) ρ S (fun x S1 => wE Γ (.ls [(.mke 8 false (.c (.str "g"))), (.mke 9 false (.c (.str "h"))), (.mke 10 false (.c (.str "i"))), (.mke 11 false (.c (.str "j"))), (.mke 12 false (.c (.str "k"))), (.mke 13 false (.c (.str "l"))), (.mke 14 false (.c (.str "m")))]) ρ S1 (fun y S2 => opS .Add x y S2 P) W) W from rfl]
      refine sv_var5 rfl _ ?_
      simp only [wE_ls5, wEs]
      refine sv_mke sv_con fun p1 S1 n1 l1 e1 => ?_
      refine sv_mke sv_con fun p2 S2 n2 l2 e2 => ?_
      refine sv_mke sv_con fun p3 S3 n3 l3 e3 => ?_
      refine sv_mke sv_con fun p4 S4 n4 l4 e4 => ?_
      refine sv_mke sv_con fun p5 S5 n5 l5 e5 => ?_
      refine sv_mke sv_con fun p6 S6 n6 l6 e6 => ?_
      refine sv_mke sv_con fun p7 S7 n7 l7 e7 => ?_
      refine ⟨by simp only [List.length_cons, List.length_nil]; omega, fun q nq => ?_⟩
      have lq := up_ls (o := .lst true [.ref p1, .ref p2, .ref p3, .ref p4, .ref p5, .ref p6, .ref p7]) nq
      have l67 := l7
      have l57 := l6.trans l67
      have l47 := l5.trans l57
      have l37 := l4.trans l47
      have l27 := l3.trans l37
      have l17 := l2.trans l27
      have l07 := (l1.trans l17).trans lq
      have hB : ErrL (errO f a n) (S7.up q (.lst true [.ref p1, .ref p2, .ref p3, .ref p4, .ref p5, .ref p6, .ref p7])) [p1, p2, p3, p4, p5, p6, p7] 7 := ErrL.le (.cons (l17 _ _ e1) (.cons (l27 _ _ e2) (.cons (l37 _ _ e3) (.cons (l47 _ _ e4) (.cons (l57 _ _ e5) (.cons (l67 _ _ e6) (.cons e7 .nil))))))) lq
      refine q_catL (l07 _ _ ep) up_same (by rw [List.length_map, las]; simp only [List.length_cons, List.length_nil]; omega) fun u nu => ?_
      have lu := up_ls (o := .lst true (as.map D.ref ++ [.ref p1, .ref p2, .ref p3, .ref p4, .ref p5, .ref p6, .ref p7])) nu
      refine hG _ _ ⟨u, as ++ [p1, p2, p3, p4, p5, p6, p7], rfl, by rw [up_same, List.map_append]; rfl, by rw [List.length_append, las]; rfl, ?_, lT.trans (l07.trans lu)⟩
      exact ErrL.app (by omega) (hE.le (l07.trans lu)) (hB.le lu)
    rintro ρ T2 ⟨p2, as2, rfl, ep2, las2, hE2, lT2⟩
    dsimp only [z_law_made_2, List.drop]
    simp only [wZs, wZ]
    rw [show wE Γ (.op .Add (.var 3) (.ls [(.mke 15 true (.var 1)), (.mke 16 false (.c (.str "n"))), (.mke 17 true (.var 2))])) = fun ρ S P W => wE Γ (.var 3) ρ S (fun x S1 => wE Γ (.ls [(.mke 15 true (.var 1)), (.mke 16 false (.c (.str "n"))), (.mke 17 true (.var 2))]) ρ S1 (fun y S2 => opS .Add x y S2 P) W) W from rfl]
    refine sv_var5 rfl _ ?_
    simp only [wE_ls5, wEs]
    refine sv_mke (sv_var5 rfl) fun p1 S1 n1 l1 e1 => ?_
    refine sv_mke sv_con fun p2' S2 n2 l2 e2 => ?_
    refine sv_mke (sv_var5 rfl) fun p3 S3 n3 l3 e3 => ?_
    refine ⟨by simp only [List.length_cons, List.length_nil]; omega, fun q nq => ?_⟩
    have lq := up_ls (o := .lst true [.ref p1, .ref p2', .ref p3]) nq
    have l23 := l3
    have l13 := l2.trans l23
    have l03 := (l1.trans l13).trans lq
    have hB : ErrL (errO f a n) (S3.up q (.lst true [.ref p1, .ref p2', .ref p3])) [p1, p2', p3] 14 := ErrL.le (.cons (l13 _ _ e1) (.cons (l23 _ _ e2) (.cons e3 .nil))) lq
    refine q_catL (l03 _ _ ep2) up_same (by rw [List.length_map, las2]; simp only [List.length_cons, List.length_nil]; omega) fun u nu => ?_
    have lu := up_ls (o := .lst true (as2.map D.ref ++ [.ref p1, .ref p2', .ref p3])) nu
    refine ret_now (h u _ (as2 ++ [p1, p2', p3]) ?_ (lT2.trans (l03.trans lu)) (by rw [up_same, List.map_append]; rfl) (by rw [List.length_append, las2]; rfl) (ErrL.app (by omega) (hE2.le (l03.trans lu)) (hB.le lu)))
    cases ew : S u with
    | none => rfl
    | some o =>
      have := (lT2.trans l03) _ _ ew
      rw [this] at nu
      cases nu
  · exact h.elim
end Sd
namespace Sd
open PySem
structure FOk (f : List Spot) : Prop where
  cvx : Cvx f
  lo : 3 ≤ f.length
  hi : f.length ≤ 6
  sz : ∀ s ∈ f, SzS 490 s
  ar : ∀ k, Sz 3900 (ar2 (f.take k))
structure POk (ps : List Tri) : Prop where
  len : ps.length ≤ 30
  sz : ∀ t ∈ ps, SzT 490 t
  sm : ∀ k, Sz 3900 (qsum ((ps.map twT).take k))
theorem FOk.all {f : List Spot} (h : FOk f) : Sz 3900 (ar2 f) := by
  have := h.ar f.length
  rwa [List.take_length] at this
theorem POk.all {ps : List Tri} (h : POk ps) : Sz 3900 (qsum (ps.map twT)) := by
  have := h.sm (ps.map twT).length
  rwa [List.take_length] at this
theorem ok_str {x : Str} {n : Nat} {g : Addr → Option PyData} (h : PyData.strOk x = true) : pdW g n (.str x) = some (.str x) := by
  have : pdW g n (.str x) = if PyData.strOk x = true then some (.str x) else none := by cases n <;> rfl
  rw [this, if_pos h]
end Sd
namespace Sd
open PySem PySem.StrLaws TL L2
def kl5 (k m : Nat) : List D := (List.range m).map fun i => .bl (subK k (i + 1))
def c_law_which : Con := fun ds S P _ => match ds with
  | [.ref a] => ∃ k f, S a = some (.exc k f) ∧ ∀ p S', S p = none → Sto.le S S' → S' p = some (.lst true (kl5 k 17)) → P (.ref p) S'
  | _ => False
theorem m_law_which {Γ : Gam} : Meets Γ 2 z_law_which c_law_which := by
  intro ds S P W h
  unfold c_law_which at h
  split at h
  · rename_i a
    obtain ⟨k, f, e, h⟩ := h
    have hs9 : sizeLine = 16777216 := sizeLine_eq
    change wZs Γ z_law_which (retE P) [some (.ref a), none] S (errW W)
    have nn : ∀ {T : Sto} {u : Addr}, Sto.le S T → T u = none → S u = none := fun {T u} l n => by
      cases ew : S u with
      | none => rfl
      | some o =>
        have := l _ _ ew
        rw [this] at n
        cases n
    refine cut 1 (fun ρ T => ∃ p, ρ = [some (.ref a), some (.ref p)] ∧ T p = some (.lst true (kl5 k 3)) ∧ Sto.le S T) (fun G hG => ?_) ?_
    · dsimp only [z_law_which, List.take]
      dsimp only [wZs, wZ, wE, wEs, wT, wTs, wI, lk, List.set, aTru, partS, List.take, List.drop]
      try simp only [isi_cl e, q_add, q_sub, q_mul, q_div, q_mod, q_pow, q_lt, q_le, q_gt, q_ge, q_eq, q_ne, q_is, q_isnt, q_isntB, q_isB, q_tb, q_ti, q_tn, q_tt, q_ixQ0, q_ixQ1, q_ixS0, q_ixS1, q_eqQ, q_neQ, q_eqSp, q_neSp, q_eqB, q_neB, q_ixT, q_lenT, q_abs, q_intI, q_intB, q_min2, q_max2, at0, at1, at2, List.length_cons, List.length_nil, sizeLine_eq, Nat.reduceAdd, Nat.reduceLeDiff, true_and, Bool.not_true, Bool.not_false, Bool.false_eq_true, if_false, reduceIte, lk, List.set, whole_int, whole_bl, whole_tup, whole_non]
      intro q nq
      exact hG _ _ ⟨q, rfl, up_same, up_ls nq⟩
    have step : ∀ (m : Nat) (p : Addr) (T : Sto) (K : D → Sto → Prop), Sto.le S T → T p = some (.lst true (kl5 k m)) → m ≤ 14 → ∀ j : Nat, (∀ v T', S v = none → Sto.le S T' → T' v = some (.lst true (kl5 k m ++ [.bl (subK k (m + 1)), .bl (subK k (m + 2)), .bl (subK k (m + 3))])) → K (.ref v) T') → ∀ q, T q = none → opS .Add (.ref p) (.ref q) (T.up q (.lst true [.bl (subK k (m + 1)), .bl (subK k (m + 2)), .bl (subK k (m + 3))])) K := fun m p T K l ep hm _ hK q nq => by
      refine q_catL (up_ls nq _ _ ep) up_same (by unfold kl5; rw [List.length_map, List.length_range]; simp only [List.length_cons, List.length_nil]; omega) fun v nv => ?_
      exact hK v _ (nn (l.trans (up_ls nq)) nv) (l.trans ((up_ls nq).trans (up_ls nv))) up_same
    rintro ρ T1 ⟨p1, rfl, e1, l1⟩
    refine cut 1 (fun ρ T => ∃ p, ρ = [some (.ref a), some (.ref p)] ∧ T p = some (.lst true (kl5 k 6)) ∧ Sto.le S T) (fun G hG => ?_) ?_
    · dsimp only [z_law_which, List.take, List.drop]
      dsimp only [wZs, wZ, wE, wEs, wT, wTs, wI, lk, List.set, aTru, partS, List.take, List.drop]
      try simp only [isi_cl (l1 _ _ e), q_add, q_sub, q_mul, q_div, q_mod, q_pow, q_lt, q_le, q_gt, q_ge, q_eq, q_ne, q_is, q_isnt, q_isntB, q_isB, q_tb, q_ti, q_tn, q_tt, q_ixQ0, q_ixQ1, q_ixS0, q_ixS1, q_eqQ, q_neQ, q_eqSp, q_neSp, q_eqB, q_neB, q_ixT, q_lenT, q_abs, q_intI, q_intB, q_min2, q_max2, at0, at1, at2, List.length_cons, List.length_nil, sizeLine_eq, Nat.reduceAdd, Nat.reduceLeDiff, true_and, Bool.not_true, Bool.not_false, Bool.false_eq_true, if_false, reduceIte, lk, List.set, whole_int, whole_bl, whole_tup, whole_non]
      intro q nq
      exact step 3 p1 T1 _ l1 e1 (by decide) 0 (fun v T' nv l' ev => hG _ _ ⟨v, rfl, ev, l'⟩) q nq
    rintro ρ T2 ⟨p2, rfl, e2, l2⟩
    refine cut 1 (fun ρ T => ∃ p, ρ = [some (.ref a), some (.ref p)] ∧ T p = some (.lst true (kl5 k 9)) ∧ Sto.le S T) (fun G hG => ?_) ?_
    · dsimp only [z_law_which, List.take, List.drop]
      dsimp only [wZs, wZ, wE, wEs, wT, wTs, wI, lk, List.set, aTru, partS, List.take, List.drop]
      try simp only [isi_cl (l2 _ _ e), q_add, q_sub, q_mul, q_div, q_mod, q_pow, q_lt, q_le, q_gt, q_ge, q_eq, q_ne, q_is, q_isnt, q_isntB, q_isB, q_tb, q_ti, q_tn, q_tt, q_ixQ0, q_ixQ1, q_ixS0, q_ixS1, q_eqQ, q_neQ, q_eqSp, q_neSp, q_eqB, q_neB, q_ixT, q_lenT, q_abs, q_intI, q_intB, q_min2, q_max2, at0, at1, at2, List.length_cons, List.length_nil, sizeLine_eq, Nat.reduceAdd, Nat.reduceLeDiff, true_and, Bool.not_true, Bool.not_false, Bool.false_eq_true, if_false, reduceIte, lk, List.set, whole_int, whole_bl, whole_tup, whole_non]
      intro q nq
      exact step 6 p2 T2 _ l2 e2 (by decide) 0 (fun v T' nv l' ev => hG _ _ ⟨v, rfl, ev, l'⟩) q nq
    rintro ρ T3 ⟨p3, rfl, e3, l3⟩
    refine cut 1 (fun ρ T => ∃ p, ρ = [some (.ref a), some (.ref p)] ∧ T p = some (.lst true (kl5 k 12)) ∧ Sto.le S T) (fun G hG => ?_) ?_
    · dsimp only [z_law_which, List.take, List.drop]
      dsimp only [wZs, wZ, wE, wEs, wT, wTs, wI, lk, List.set, aTru, partS, List.take, List.drop]
      try simp only [isi_cl (l3 _ _ e), q_add, q_sub, q_mul, q_div, q_mod, q_pow, q_lt, q_le, q_gt, q_ge, q_eq, q_ne, q_is, q_isnt, q_isntB, q_isB, q_tb, q_ti, q_tn, q_tt, q_ixQ0, q_ixQ1, q_ixS0, q_ixS1, q_eqQ, q_neQ, q_eqSp, q_neSp, q_eqB, q_neB, q_ixT, q_lenT, q_abs, q_intI, q_intB, q_min2, q_max2, at0, at1, at2, List.length_cons, List.length_nil, sizeLine_eq, Nat.reduceAdd, Nat.reduceLeDiff, true_and, Bool.not_true, Bool.not_false, Bool.false_eq_true, if_false, reduceIte, lk, List.set, whole_int, whole_bl, whole_tup, whole_non]
      intro q nq
      exact step 9 p3 T3 _ l3 e3 (by decide) 0 (fun v T' nv l' ev => hG _ _ ⟨v, rfl, ev, l'⟩) q nq
    rintro ρ T4 ⟨p4, rfl, e4, l4⟩
    refine cut 1 (fun ρ T => ∃ p, ρ = [some (.ref a), some (.ref p)] ∧ T p = some (.lst true (kl5 k 15)) ∧ Sto.le S T) (fun G hG => ?_) ?_
    · dsimp only [z_law_which, List.take, List.drop]
      dsimp only [wZs, wZ, wE, wEs, wT, wTs, wI, lk, List.set, aTru, partS, List.take, List.drop]
      try simp only [isi_cl (l4 _ _ e), q_add, q_sub, q_mul, q_div, q_mod, q_pow, q_lt, q_le, q_gt, q_ge, q_eq, q_ne, q_is, q_isnt, q_isntB, q_isB, q_tb, q_ti, q_tn, q_tt, q_ixQ0, q_ixQ1, q_ixS0, q_ixS1, q_eqQ, q_neQ, q_eqSp, q_neSp, q_eqB, q_neB, q_ixT, q_lenT, q_abs, q_intI, q_intB, q_min2, q_max2, at0, at1, at2, List.length_cons, List.length_nil, sizeLine_eq, Nat.reduceAdd, Nat.reduceLeDiff, true_and, Bool.not_true, Bool.not_false, Bool.false_eq_true, if_false, reduceIte, lk, List.set, whole_int, whole_bl, whole_tup, whole_non]
      intro q nq
      exact step 12 p4 T4 _ l4 e4 (by decide) 0 (fun v T' nv l' ev => hG _ _ ⟨v, rfl, ev, l'⟩) q nq
    rintro ρ T5 ⟨p5, rfl, e5, l5⟩
    dsimp only [z_law_which, List.drop]
    dsimp only [wZs, wZ, wE, wEs, wT, wTs, wI, lk, List.set, aTru, partS, List.take, List.drop]
    try simp only [isi_cl (l5 _ _ e), q_add, q_sub, q_mul, q_div, q_mod, q_pow, q_lt, q_le, q_gt, q_ge, q_eq, q_ne, q_is, q_isnt, q_isntB, q_isB, q_tb, q_ti, q_tn, q_tt, q_ixQ0, q_ixQ1, q_ixS0, q_ixS1, q_eqQ, q_neQ, q_eqSp, q_neSp, q_eqB, q_neB, q_ixT, q_lenT, q_abs, q_intI, q_intB, q_min2, q_max2, at0, at1, at2, List.length_cons, List.length_nil, sizeLine_eq, Nat.reduceAdd, Nat.reduceLeDiff, true_and, Bool.not_true, Bool.not_false, Bool.false_eq_true, if_false, reduceIte, lk, List.set, whole_int, whole_bl, whole_tup, whole_non]
    intro q nq
    refine q_catL (up_ls nq _ _ e5) up_same (by unfold kl5; rw [List.length_map, List.length_range]; simp only [List.length_cons, List.length_nil]; omega) fun v nv => ?_
    exact ret_now (h v _ (nn (l5.trans (up_ls nq)) nv) (l5.trans ((up_ls nq).trans (up_ls nv))) up_same)
  · exact h.elim
theorem one_17 : ∀ one, one < 17 → (List.range 17).filter (fun n => subK (one + 1) (n + 1)) = [one] := by decide
theorem kl_at {k n : Nat} (hn : n < 17) : L2.atI (kl5 k 17) (n : Int) = some (.bl (subK k (n + 1))) := by
  refine L2.atI_nat ?_
  unfold kl5
  rw [List.getElem?_map, List.getElem?_range hn]
  rfl
theorem see_str {s : Str} (h : PyData.strOk s = true) (S : Sto) : See S (.str s) := ⟨_, ok_str h⟩
end Sd
namespace Sd
open PySem PySem.StrLaws TL L2
theorem asc_15 {c : Nat} (h : c < 128) : asc ⟨#[c]⟩ := by
  intro d hd
  have : d ∈ [c] := hd
  rw [List.mem_singleton.mp this]
  exact h
theorem see_tup {l : List D} {S : Sto} (h : ∃ ps, pdWs (gL S 3) 11 l = some ps) : See S (.tup l) := by
  obtain ⟨ps, e⟩ := h
  refine ⟨.tuple ps, ?_⟩
  unfold pdS
  rw [pd_tup, e]
theorem strL_map5 : ∀ l : List Str, strL (l.map D.str) = some l
  | [] => rfl
  | z :: l => by
    show (match strL (l.map D.str) with
      | some l => some (z :: l)
      | none => none) = _
    rw [strL_map5 l]
theorem q_join5 {a : Str} {p : Addr} {w : Bool} {l : List Str} {S : Sto} {P : PD} (e : S p = some (.lst w (l.map D.str))) : smS .join (.str a) (.ref p) S P = ((l.map fun z : Str => z.length).sum + l.length * a.length ≤ 16777216 ∧ P (.str (Txt.join a l)) S) := by
  show (match S p with
    | some (.lst _ l) => (match strL l with
      | some ys => (ys.map fun z : Str => z.length).sum + ys.length * a.length ≤ 16777216 ∧ P (.str (Txt.join a ys)) S
      | none => False)
    | _ => False) = _
  rw [e]
  show (match strL (l.map D.str) with
      | some ys => (ys.map fun z : Str => z.length).sum + ys.length * a.length ≤ 16777216 ∧ P (.str (Txt.join a ys)) S
      | none => False) = _
  rw [strL_map5]
theorem join_asc5 {L : List Str} (h : ∀ x ∈ L, Sd.asc x) : Sd.asc (Txt.join "" L) := fun c hc => by
  by_cases h' : c < 128
  · exact h'
  · refine absurd hc ?_
    rw [join_eq, tl_join, show tl ("" : Str) = [] by decide +kernel]
    refine joinL_free List.not_mem_nil fun p hp => ?_
    obtain ⟨z, hz, rfl⟩ := List.mem_map.mp hp
    exact fun hm => h' (h z hz c hm)
theorem ix_abc {k : Int} (h0 : 0 ≤ k) (h1 : k < 26) {S : Sto} {P : PD} (h : ∀ c, c < 128 → P (.str ⟨#[c]⟩) S) : ixS (.str "abcdefghijklmnopqrstuvwxyz") (.int k) S P := by
  obtain ⟨n, rfl⟩ := Int.eq_ofNat_of_zero_le h0
  have e : tl ("abcdefghijklmnopqrstuvwxyz" : Str) = (List.range 26).map (97 + ·) := by decide +kernel
  have hl : ("abcdefghijklmnopqrstuvwxyz" : Str).length ≤ sizeLine := by
    rw [len_tl, e, List.length_map, List.length_range, sizeLine_eq]
    decide
  show ("abcdefghijklmnopqrstuvwxyz" : Str).length ≤ sizeLine ∧ (match atI (tl ("abcdefghijklmnopqrstuvwxyz" : Str)) ((n : Nat) : Int) with
    | some c => P (.str ⟨#[c]⟩) S
    | none => False)
  rw [e]
  have hn : n < 26 := by omega
  have e2 : L2.atI ((List.range 26).map (97 + ·)) ((n : Nat) : Int) = some (97 + n) := L2.atI_nat (by rw [List.getElem?_map, List.getElem?_range hn]; rfl)
  rw [e2]
  exact ⟨hl, h _ (by omega)⟩
theorem m_law_45 {Γ : Gam} (h0 : Γ.fn 0 = c_law_take_2) (a0 : Γ.ar 0 = 2) (h106 : Γ.fn 106 = c_law_made_2) (a106 : Γ.ar 106 = 3) (h262 : Γ.fn 262 = c_law_which) (a262 : Γ.ar 262 = 1) : Meets Γ 12 z_law_45 c_lawT := by
  intro ds S P W h
  unfold c_lawT at h
  split at h
  · rename_i a
    obtain ⟨w, ns, e, hl, hp⟩ := h
    have hs9 : sizeLine = 16777216 := sizeLine_eq
    change wZs Γ z_law_45 _ [some (.ref a), none, none, none, none, none, none, none, none, none, none, none] S (errW W)
    refine law_for (m := 20) (fun ρ => ∃ x1 x2 x3 x4 x5 x6 x7 x8 x9 x10 x11, ρ = [some (.ref a), x1, x2, x3, x4, x5, x6, x7, x8, x9, x10, x11]) ⟨_, _, _, _, _, _, _, _, _, _, _, rfl⟩ hl rfl e (fun ρ S1 hr hs => ret_le hs hp) fun Sb F c ρ S1 l1 l2 hr hF => ?_
    obtain ⟨x1, x2, x3, x4, x5, x6, x7, x8, x9, x10, x11, rfl⟩ := hr
    refine cut 3 (fun ρ T => ∃ (r : Addr) (j k : Int) (f : D), ρ = [some (.ref a), some (.int c), some (.ref r), some (.int j), some (.int k), some f, x6, x7, x8, x9, x10, x11] ∧ (∀ T', See T' f) ∧ Row T r 10 ∧ Sto.le Sb T ∧ Sb r = none) (fun G hG => ?_) ?_
    · dsimp only [List.take]
      dsimp only [wZs, wZ, wE, wEs, wT, wTs, wI, lk, List.set, aTru, partS, List.take, List.drop]
      try simp only [true_and, q_add, q_sub, q_mul, q_div, q_mod, q_pow, q_lt, q_le, q_gt, q_ge, q_eq, q_ne, q_is, q_isnt, q_isntB, q_isB, q_tb, q_ti, q_tn, q_tt, q_ixQ0, q_ixQ1, q_ixS0, q_ixS1, q_eqQ, q_neQ, q_eqSp, q_neSp, q_eqB, q_neB, q_ixT, q_lenT, q_abs, q_intI, q_intB, q_min2, q_max2, at0, at1, at2, List.length_cons, List.length_nil, sizeLine_eq, Nat.reduceAdd, Nat.reduceLeDiff, true_and, Bool.not_true, Bool.not_false, Bool.false_eq_true, if_false, reduceIte, lk, List.set, whole_int, whole_bl, whole_tup, whole_non]
      intro r nr
      have lr := up_ls (o := .lst true [.int c, .int 0]) nr
      have nr' := le_none l2 nr
      try simp only [h0, a0, q_add, q_sub, q_mul, q_div, q_mod, q_pow, q_lt, q_le, q_gt, q_ge, q_eq, q_ne, q_is, q_isnt, q_isntB, q_isB, q_tb, q_ti, q_tn, q_tt, q_ixQ0, q_ixQ1, q_ixS0, q_ixS1, q_eqQ, q_neQ, q_eqSp, q_neSp, q_eqB, q_neB, q_ixT, q_lenT, q_abs, q_intI, q_intB, q_min2, q_max2, at0, at1, at2, List.length_cons, List.length_nil, sizeLine_eq, Nat.reduceAdd, Nat.reduceLeDiff, true_and, Bool.not_true, Bool.not_false, Bool.false_eq_true, if_false, reduceIte, lk, List.set, whole_int, whole_bl, whole_tup, whole_non]
      refine take_row row_new (by decide) (by decide) fun j S2 j0 j1 r2 o2 => ?_
      refine take_row r2 (by decide) (by decide) fun k S3 k0 k1 r3 o3 => ?_
      try simp only [h0, a0, q_add, q_sub, q_mul, q_div, q_mod, q_pow, q_lt, q_le, q_gt, q_ge, q_eq, q_ne, q_is, q_isnt, q_isntB, q_isB, q_tb, q_ti, q_tn, q_tt, q_ixQ0, q_ixQ1, q_ixS0, q_ixS1, q_eqQ, q_neQ, q_eqSp, q_neSp, q_eqB, q_neB, q_ixT, q_lenT, q_abs, q_intI, q_intB, q_min2, q_max2, at0, at1, at2, List.length_cons, List.length_nil, sizeLine_eq, Nat.reduceAdd, Nat.reduceLeDiff, true_and, Bool.not_true, Bool.not_false, Bool.false_eq_true, if_false, reduceIte, lk, List.set, whole_int, whole_bl, whole_tup, whole_non]
      intro p np
      have hpr : p ≠ r := r3.ne np
      have lp := up_ls (o := .lst true [.tup [.str "many"], .tup [.str "piece", .int k], .tup [.str "beyond", .int j], .tup [.str "lap", .int j, .int k], .tup [.str "left", .tup [.int (1 + j), .int (1 + k)]]]) np
      refine take_row (r3.le lp) (by decide) (by decide) fun m S4 m0 m1 r4 o4 => ?_
      have ep := o4 _ _ hpr up_same
      have lSb : Sto.le Sb S4 := o4.ble ((o3.ble (o2.ble (l2.trans lr) nr') nr').trans lp) nr'
      have pi : ∀ (i : Int) {g : Addr → Option PyData} {n : Nat}, pdW g (n + 1) (.int i) = some (.int i) := fun i g n => encI.pd g (n + 1) i (by omega)
      have hd : ∃ d, L2.atI [D.tup [.str "many"], .tup [.str "piece", .int k], .tup [.str "beyond", .int j], .tup [.str "lap", .int j, .int k], .tup [.str "left", .tup [.int (1 + j), .int (1 + k)]]] m = some d ∧ ∀ T', See T' d := by
        have : m = 0 ∨ m = 1 ∨ m = 2 ∨ m = 3 ∨ m = 4 := by omega
        rcases this with rfl | rfl | rfl | rfl | rfl
        · exact ⟨_, rfl, fun T' => see_tup ⟨_, by rw [pd_cons, pd_nil, ok_str (by decide +kernel)]⟩⟩
        · exact ⟨_, rfl, fun T' => see_tup ⟨_, by rw [pd_cons, pd_cons, pd_nil, ok_str (by decide +kernel), pi]⟩⟩
        · exact ⟨_, rfl, fun T' => see_tup ⟨_, by rw [pd_cons, pd_cons, pd_nil, ok_str (by decide +kernel), pi]⟩⟩
        · exact ⟨_, rfl, fun T' => see_tup ⟨_, by rw [pd_cons, pd_cons, pd_cons, pd_nil, ok_str (by decide +kernel), pi, pi]⟩⟩
        · exact ⟨_, rfl, fun T' => see_tup ⟨_, by rw [pd_cons, pd_cons, pd_nil, ok_str (by decide +kernel), pd_tup, pd_cons, pd_cons, pd_nil, pi, pi]⟩⟩
      obtain ⟨d, d1, d2⟩ := hd
      try simp only [q_ixL, ep, d1, q_add, q_sub, q_mul, q_div, q_mod, q_pow, q_lt, q_le, q_gt, q_ge, q_eq, q_ne, q_is, q_isnt, q_isntB, q_isB, q_tb, q_ti, q_tn, q_tt, q_ixQ0, q_ixQ1, q_ixS0, q_ixS1, q_eqQ, q_neQ, q_eqSp, q_neSp, q_eqB, q_neB, q_ixT, q_lenT, q_abs, q_intI, q_intB, q_min2, q_max2, at0, at1, at2, List.length_cons, List.length_nil, sizeLine_eq, Nat.reduceAdd, Nat.reduceLeDiff, true_and, Bool.not_true, Bool.not_false, Bool.false_eq_true, if_false, reduceIte, lk, List.set, whole_int, whole_bl, whole_tup, whole_non]
      exact hG _ _ ⟨r, j, k, d, rfl, d2, r4.mono (by decide), lSb, nr'⟩
    rintro ρ T ⟨r, j, k, f, rfl, hf, rT, lT, nr⟩
    refine cut 2 (fun ρ T => ∃ (t : Int) (n : Str) (x8 : Option D), ρ = [some (.ref a), some (.int c), some (.ref r), some (.int j), some (.int k), some f, some (.int t), some (.str n), x8, x9, x10, x11] ∧ asc n ∧ Sto.le Sb T) (fun G hG => ?_) ?_
    · dsimp only [List.take, List.drop]
      dsimp only [wZs, wZ, wE, wEs, wT, wTs, wI, lk, List.set, aTru, partS, List.take, List.drop]
      try simp only [h0, a0, q_add, q_sub, q_mul, q_div, q_mod, q_pow, q_lt, q_le, q_gt, q_ge, q_eq, q_ne, q_is, q_isnt, q_isntB, q_isB, q_tb, q_ti, q_tn, q_tt, q_ixQ0, q_ixQ1, q_ixS0, q_ixS1, q_eqQ, q_neQ, q_eqSp, q_neSp, q_eqB, q_neB, q_ixT, q_lenT, q_abs, q_intI, q_intB, q_min2, q_max2, at0, at1, at2, List.length_cons, List.length_nil, sizeLine_eq, Nat.reduceAdd, Nat.reduceLeDiff, true_and, Bool.not_true, Bool.not_false, Bool.false_eq_true, if_false, reduceIte, lk, List.set, whole_int, whole_bl, whole_tup, whole_non]
      refine take_row rT (by decide) (by decide) fun t S2 t0 t1 r2 o2 => ?_
      have l2 := o2.ble lT nr
      try simp only [q_isS, h0, a0, q_add, q_sub, q_mul, q_div, q_mod, q_pow, q_lt, q_le, q_gt, q_ge, q_eq, q_ne, q_is, q_isnt, q_isntB, q_isB, q_tb, q_ti, q_tn, q_tt, q_ixQ0, q_ixQ1, q_ixS0, q_ixS1, q_eqQ, q_neQ, q_eqSp, q_neSp, q_eqB, q_neB, q_ixT, q_lenT, q_abs, q_intI, q_intB, q_min2, q_max2, at0, at1, at2, List.length_cons, List.length_nil, sizeLine_eq, Nat.reduceAdd, Nat.reduceLeDiff, true_and, Bool.not_true, Bool.not_false, Bool.false_eq_true, if_false, reduceIte, lk, List.set, whole_int, whole_bl, whole_tup, whole_non]
      refine ⟨trivial, ?_⟩
      refine take_row r2 (by decide) (by decide) fun b S3 b0 b1 r3 o3 => ?_
      have l3 := o3.ble l2 nr
      try simp only [true_and, q_add, q_sub, q_mul, q_div, q_mod, q_pow, q_lt, q_le, q_gt, q_ge, q_eq, q_ne, q_is, q_isnt, q_isntB, q_isB, q_tb, q_ti, q_tn, q_tt, q_ixQ0, q_ixQ1, q_ixS0, q_ixS1, q_eqQ, q_neQ, q_eqSp, q_neSp, q_eqB, q_neB, q_ixT, q_lenT, q_abs, q_intI, q_intB, q_min2, q_max2, at0, at1, at2, List.length_cons, List.length_nil, sizeLine_eq, Nat.reduceAdd, Nat.reduceLeDiff, true_and, Bool.not_true, Bool.not_false, Bool.false_eq_true, if_false, reduceIte, lk, List.set, whole_int, whole_bl, whole_tup, whole_non]
      refine ⟨by omega, fun p np => ?_⟩
      have hpr : p ≠ r := r3.ne np
      have hbl : (rngItems 0 (1 + b).toNat).length ≤ 8 := by
        rw [rng_len]
        omega
      refine lc_draw (n := 12) D.str (fun s : Str => s.length = 1 ∧ asc s) 1 np (r3.mono (by decide)) (by omega) (fun d hd T m K G' rT' hm oT' hK => ?_) fun l T hl hg eT rT' oT' => ?_
      · dsimp only [aTru]
        try simp only [wipeD, h0, a0, q_add, q_sub, q_mul, q_div, q_mod, q_pow, q_lt, q_le, q_gt, q_ge, q_eq, q_ne, q_is, q_isnt, q_isntB, q_isB, q_tb, q_ti, q_tn, q_tt, q_ixQ0, q_ixQ1, q_ixS0, q_ixS1, q_eqQ, q_neQ, q_eqSp, q_neSp, q_eqB, q_neB, q_ixT, q_lenT, q_abs, q_intI, q_intB, q_min2, q_max2, at0, at1, at2, List.length_cons, List.length_nil, sizeLine_eq, Nat.reduceAdd, Nat.reduceLeDiff, true_and, Bool.not_true, Bool.not_false, Bool.false_eq_true, if_false, reduceIte, lk, List.set, whole_int, whole_bl, whole_tup, whole_non]
        refine take_row rT' (by omega) (by decide) fun i T' i0 i1 rT2 oT2 => ?_
        exact ix_abc i0 i1 fun ch hch => hK _ T' ⟨rfl, asc_15 hch⟩ (rT2.mono (by omega)) oT2
      · rw [q_join5 eT]
        have h3 := sum_len (k := 1) (l := l) fun x hx => by have := (hg x hx).1; omega
        have h4 : ("" : Str).length = 0 := by decide +kernel
        rw [h4]
        refine ⟨by omega, hG _ _ ⟨t, _, _, rfl, join_asc5 fun x hx => (hg x hx).2, oT'.ble l3 nr⟩⟩
    rintro ρ T2 ⟨t, n, x8, rfl, hn, l3⟩
    refine cut 1 (fun ρ T => ∃ (p : Addr) (as : List Addr), ρ = [some (.ref a), some (.int c), some (.ref r), some (.int j), some (.int k), some f, some (.int t), some (.str n), x8, some (.ref p), x10, x11] ∧ T p = some (.lst true (as.map D.ref)) ∧ as.length = 17 ∧ ErrL (errO f (.int t) (.str n)) T as 0 ∧ Sto.le Sb T) (fun G hG => ?_) ?_
    · dsimp only [List.take, List.drop]
      dsimp only [wZs, wZ, wE, wEs, wT, wTs, wI, lk, List.set, aTru, partS, List.take, List.drop]
      try simp only [h106, a106, q_add, q_sub, q_mul, q_div, q_mod, q_pow, q_lt, q_le, q_gt, q_ge, q_eq, q_ne, q_is, q_isnt, q_isntB, q_isB, q_tb, q_ti, q_tn, q_tt, q_ixQ0, q_ixQ1, q_ixS0, q_ixS1, q_eqQ, q_neQ, q_eqSp, q_neSp, q_eqB, q_neB, q_ixT, q_lenT, q_abs, q_intI, q_intB, q_min2, q_max2, at0, at1, at2, List.length_cons, List.length_nil, sizeLine_eq, Nat.reduceAdd, Nat.reduceLeDiff, true_and, Bool.not_true, Bool.not_false, Bool.false_eq_true, if_false, reduceIte, lk, List.set, whole_int, whole_bl, whole_tup, whole_non]
      exact fun p S' as np l e1 e2 e3 => hG _ _ ⟨p, as, rfl, e1, e2, e3, l3.trans l⟩
    rintro ρ T3 ⟨p, as, rfl, ep, las, hE, l4⟩
    refine cut 1 (fun ρ T => ∃ (x10 x11 : Option D), ρ = [some (.ref a), some (.int c), some (.ref r), some (.int j), some (.int k), some f, some (.int t), some (.str n), x8, some (.ref p), x10, x11] ∧ T p = some (.lst true (as.map D.ref)) ∧ ErrL (errO f (.int t) (.str n)) T as 0 ∧ Sto.le Sb T) (fun G hG => ?_) ?_
    · dsimp only [List.take, List.drop]
      dsimp only [wZs, wZ, wE, wEs, wT, wTs, wI, lk, List.set, aTru, partS, List.take, List.drop]
      try simp only [true_and, q_add, q_sub, q_mul, q_div, q_mod, q_pow, q_lt, q_le, q_gt, q_ge, q_eq, q_ne, q_is, q_isnt, q_isntB, q_isB, q_tb, q_ti, q_tn, q_tt, q_ixQ0, q_ixQ1, q_ixS0, q_ixS1, q_eqQ, q_neQ, q_eqSp, q_neSp, q_eqB, q_neB, q_ixT, q_lenT, q_abs, q_intI, q_intB, q_min2, q_max2, at0, at1, at2, List.length_cons, List.length_nil, sizeLine_eq, Nat.reduceAdd, Nat.reduceLeDiff, true_and, Bool.not_true, Bool.not_false, Bool.false_eq_true, if_false, reduceIte, lk, List.set, whole_int, whole_bl, whole_tup, whole_non]
      refine ⟨by omega, ?_⟩
      refine for_rng (fun i ρ T => (∃ x10 x11 : Option D, ρ = [some (.ref a), some (.int c), some (.ref r), some (.int j), some (.int k), some f, some (.int t), some (.str n), x8, some (.ref p), x10, x11]) ∧ T p = some (.lst true (as.map D.ref)) ∧ ErrL (errO f (.int t) (.str n)) T as 0 ∧ Sto.le Sb T) ?_ ?_ ⟨⟨_, _, rfl⟩, ep, hE, l4⟩
      · rintro ρ T ⟨⟨x10, x11, rfl⟩, ep, hE, l⟩
        exact hG _ _ ⟨x10, x11, rfl, ep, hE, l⟩
      · rintro F' i ρ T hi ⟨⟨x10, x11, rfl⟩, ep, hE, l⟩ hF'
        have hi : i < 17 := hi
        have hia : i < as.length := by omega
        have eb : T as[i] = some (errO f (.int t) (.str n) (0 + i)) := hE i _ (List.getElem?_eq_getElem hia)
        rw [Nat.zero_add] at eb
        have hat : L2.atI (as.map D.ref) (i : Int) = some (.ref as[i]) := L2.atI_nat (by rw [List.getElem?_map, List.getElem?_eq_getElem hia]; rfl)
        rw [Int.zero_add]
        have hs0 : subK (i + 1) 0 = true := by unfold subK; simp
        have i0 : isiAny T (.ref as[i]) [.cl 0] = some true := by rw [isi_cl eb, hs0]
        try simp only [q_ixL, ep, hat, i0, isi_ve eb, q_add, q_sub, q_mul, q_div, q_mod, q_pow, q_lt, q_le, q_gt, q_ge, q_eq, q_ne, q_is, q_isnt, q_isntB, q_isB, q_tb, q_ti, q_tn, q_tt, q_ixQ0, q_ixQ1, q_ixS0, q_ixS1, q_eqQ, q_neQ, q_eqSp, q_neSp, q_eqB, q_neB, q_ixT, q_lenT, q_abs, q_intI, q_intB, q_min2, q_max2, at0, at1, at2, List.length_cons, List.length_nil, sizeLine_eq, Nat.reduceAdd, Nat.reduceLeDiff, true_and, Bool.not_true, Bool.not_false, Bool.false_eq_true, if_false, reduceIte, lk, List.set, whole_int, whole_bl, whole_tup, whole_non]
        refine ⟨by omega, fun q nq => ?_⟩
        have er : rngItems 0 (Int.toNat 17) = (List.range 17).map (fun k : Nat => D.int (k : Int)) := by
          unfold rngItems
          exact List.map_congr_left fun k _ => by rw [Int.zero_add]
        rw [er]
        refine lc_encF (l := List.range 17) (fun k : Nat => D.int (k : Int)) (fun k : Nat => D.int (k : Int)) (fun m => subK (i + 1) (m + 1)) nq trivial (by rw [List.length_range]; omega) (fun m hm T2 K G' hT hK hGG => ?_) fun T2 hT eT => ?_
        · have hm' := List.mem_range.mp hm
          dsimp only [aTru]
          try simp only [wipeD, q_ixL, hT _ _ ep, hat, h262, a262, q_add, q_sub, q_mul, q_div, q_mod, q_pow, q_lt, q_le, q_gt, q_ge, q_eq, q_ne, q_is, q_isnt, q_isntB, q_isB, q_tb, q_ti, q_tn, q_tt, q_ixQ0, q_ixQ1, q_ixS0, q_ixS1, q_eqQ, q_neQ, q_eqSp, q_neSp, q_eqB, q_neB, q_ixT, q_lenT, q_abs, q_intI, q_intB, q_min2, q_max2, at0, at1, at2, List.length_cons, List.length_nil, sizeLine_eq, Nat.reduceAdd, Nat.reduceLeDiff, true_and, Bool.not_true, Bool.not_false, Bool.false_eq_true, if_false, reduceIte, lk, List.set, whole_int, whole_bl, whole_tup, whole_non]
          refine ⟨i + 1, _, hT _ _ eb, fun u S' nu l' eu => ?_⟩
          try simp only [q_ixL, eu, kl_at hm', q_add, q_sub, q_mul, q_div, q_mod, q_pow, q_lt, q_le, q_gt, q_ge, q_eq, q_ne, q_is, q_isnt, q_isntB, q_isB, q_tb, q_ti, q_tn, q_tt, q_ixQ0, q_ixQ1, q_ixS0, q_ixS1, q_eqQ, q_neQ, q_eqSp, q_neSp, q_eqB, q_neB, q_ixT, q_lenT, q_abs, q_intI, q_intB, q_min2, q_max2, at0, at1, at2, List.length_cons, List.length_nil, sizeLine_eq, Nat.reduceAdd, Nat.reduceLeDiff, true_and, Bool.not_true, Bool.not_false, Bool.false_eq_true, if_false, reduceIte, lk, List.set, whole_int, whole_bl, whole_tup, whole_non]
          cases es : subK (i + 1) (m + 1) with
          | true =>
            try simp only [true_and, q_add, q_sub, q_mul, q_div, q_mod, q_pow, q_lt, q_le, q_gt, q_ge, q_eq, q_ne, q_is, q_isnt, q_isntB, q_isB, q_tb, q_ti, q_tn, q_tt, q_ixQ0, q_ixQ1, q_ixS0, q_ixS1, q_eqQ, q_neQ, q_eqSp, q_neSp, q_eqB, q_neB, q_ixT, q_lenT, q_abs, q_intI, q_intB, q_min2, q_max2, at0, at1, at2, List.length_cons, List.length_nil, sizeLine_eq, Nat.reduceAdd, Nat.reduceLeDiff, true_and, Bool.not_true, Bool.not_false, Bool.false_eq_true, if_false, reduceIte, lk, List.set, whole_int, whole_bl, whole_tup, whole_non]
            exact hK es S' l'
          | false =>
            try simp only [true_and, q_add, q_sub, q_mul, q_div, q_mod, q_pow, q_lt, q_le, q_gt, q_ge, q_eq, q_ne, q_is, q_isnt, q_isntB, q_isB, q_tb, q_ti, q_tn, q_tt, q_ixQ0, q_ixQ1, q_ixS0, q_ixS1, q_eqQ, q_neQ, q_eqSp, q_neSp, q_eqB, q_neB, q_ixT, q_lenT, q_abs, q_intI, q_intB, q_min2, q_max2, at0, at1, at2, List.length_cons, List.length_nil, sizeLine_eq, Nat.reduceAdd, Nat.reduceLeDiff, true_and, Bool.not_true, Bool.not_false, Bool.false_eq_true, if_false, reduceIte, lk, List.set, whole_int, whole_bl, whole_tup, whole_non]
            exact hGG es S' l'
        · rw [one_17 i hi] at eT
          have eT' : T2 q = some (.lst true ([(i : Int)].map D.int)) := eT
          try simp only [true_and, q_add, q_sub, q_mul, q_div, q_mod, q_pow, q_lt, q_le, q_gt, q_ge, q_eq, q_ne, q_is, q_isnt, q_isntB, q_isB, q_tb, q_ti, q_tn, q_tt, q_ixQ0, q_ixQ1, q_ixS0, q_ixS1, q_eqQ, q_neQ, q_eqSp, q_neSp, q_eqB, q_neB, q_ixT, q_lenT, q_abs, q_intI, q_intB, q_min2, q_max2, at0, at1, at2, List.length_cons, List.length_nil, sizeLine_eq, Nat.reduceAdd, Nat.reduceLeDiff, true_and, Bool.not_true, Bool.not_false, Bool.false_eq_true, if_false, reduceIte, lk, List.set, whole_int, whole_bl, whole_tup, whole_non]
          intro u nu
          have lu := up_ls (o := .lst true [.int (i : Int)]) nu
          have eu : (T2.up u (.lst true [.int (i : Int)])) u = some (.lst true ([(i : Int)].map D.int)) := up_same
          rw [encI.q_neL (by decide) (lu _ _ eT') eu, decide_eq_true rfl]
          try simp only [true_and, q_add, q_sub, q_mul, q_div, q_mod, q_pow, q_lt, q_le, q_gt, q_ge, q_eq, q_ne, q_is, q_isnt, q_isntB, q_isB, q_tb, q_ti, q_tn, q_tt, q_ixQ0, q_ixQ1, q_ixS0, q_ixS1, q_eqQ, q_neQ, q_eqSp, q_neSp, q_eqB, q_neB, q_ixT, q_lenT, q_abs, q_intI, q_intB, q_min2, q_max2, at0, at1, at2, List.length_cons, List.length_nil, sizeLine_eq, Nat.reduceAdd, Nat.reduceLeDiff, true_and, Bool.not_true, Bool.not_false, Bool.false_eq_true, if_false, reduceIte, lk, List.set, whole_int, whole_bl, whole_tup, whole_non]
          exact hF' _ _ ⟨⟨_, _, rfl⟩, lu _ _ (hT _ _ ep), hE.le (hT.trans lu), l.trans (hT.trans lu)⟩
    rintro ρ T4 ⟨x10, x11, rfl, ep4, hE4, l5⟩
    dsimp only [List.drop]
    dsimp only [wZs, wZ, wE, wEs, wT, wTs, wI, lk, List.set, aTru, partS, List.take, List.drop]
    have hat : ∀ i : Nat, (hi : i < 17) → L2.atI (as.map D.ref) (i : Int) = some (.ref (as[i]'(by omega))) := fun i hi => L2.atI_nat (by rw [List.getElem?_map, List.getElem?_eq_getElem (show i < as.length by omega)]; rfl)
    have h3 := hat 3 (by decide)
    have h14 := hat 14 (by decide)
    have h16 := hat 16 (by decide)
    have e3 : T4 (as[3]'(by omega)) = some (.exc 4 (some f)) := hE4 3 _ (List.getElem?_eq_getElem (by omega))
    have e14 : T4 (as[14]'(by omega)) = some (.exc 15 (some (.int t))) := hE4 14 _ (List.getElem?_eq_getElem (by omega))
    have e16 : T4 (as[16]'(by omega)) = some (.exc 17 (some (.str n))) := hE4 16 _ (List.getElem?_eq_getElem (by omega))
    have c3 : ((3 : Nat) : Int) = 3 := rfl
    have c14 : ((14 : Nat) : Int) = 14 := rfl
    have c16 : ((16 : Nat) : Int) = 16 := rfl
    rw [c3] at h3
    rw [c14] at h14
    rw [c16] at h16
    try simp only [q_ixL, ep4, h3, e3, q_add, q_sub, q_mul, q_div, q_mod, q_pow, q_lt, q_le, q_gt, q_ge, q_eq, q_ne, q_is, q_isnt, q_isntB, q_isB, q_tb, q_ti, q_tn, q_tt, q_ixQ0, q_ixQ1, q_ixS0, q_ixS1, q_eqQ, q_neQ, q_eqSp, q_neSp, q_eqB, q_neB, q_ixT, q_lenT, q_abs, q_intI, q_intB, q_min2, q_max2, at0, at1, at2, List.length_cons, List.length_nil, sizeLine_eq, Nat.reduceAdd, Nat.reduceLeDiff, true_and, Bool.not_true, Bool.not_false, Bool.false_eq_true, if_false, reduceIte, lk, List.set, whole_int, whole_bl, whole_tup, whole_non]
    refine ⟨rfl, (hf T4).ne rfl ?_⟩
    try simp only [q_ixL, ep4, h14, e14, q_add, q_sub, q_mul, q_div, q_mod, q_pow, q_lt, q_le, q_gt, q_ge, q_eq, q_ne, q_is, q_isnt, q_isntB, q_isB, q_tb, q_ti, q_tn, q_tt, q_ixQ0, q_ixQ1, q_ixS0, q_ixS1, q_eqQ, q_neQ, q_eqSp, q_neSp, q_eqB, q_neB, q_ixT, q_lenT, q_abs, q_intI, q_intB, q_min2, q_max2, at0, at1, at2, List.length_cons, List.length_nil, sizeLine_eq, Nat.reduceAdd, Nat.reduceLeDiff, true_and, Bool.not_true, Bool.not_false, Bool.false_eq_true, if_false, reduceIte, lk, List.set, whole_int, whole_bl, whole_tup, whole_non]
    refine ⟨rfl, ?_⟩
    try simp only [decide_true, q_ixL, ep4, h16, e16, q_add, q_sub, q_mul, q_div, q_mod, q_pow, q_lt, q_le, q_gt, q_ge, q_eq, q_ne, q_is, q_isnt, q_isntB, q_isB, q_tb, q_ti, q_tn, q_tt, q_ixQ0, q_ixQ1, q_ixS0, q_ixS1, q_eqQ, q_neQ, q_eqSp, q_neSp, q_eqB, q_neB, q_ixT, q_lenT, q_abs, q_intI, q_intB, q_min2, q_max2, at0, at1, at2, List.length_cons, List.length_nil, sizeLine_eq, Nat.reduceAdd, Nat.reduceLeDiff, true_and, Bool.not_true, Bool.not_false, Bool.false_eq_true, if_false, reduceIte, lk, List.set, whole_int, whole_bl, whole_tup, whole_non]
    refine ⟨rfl, (see_str (asc_ok hn) T4).ne rfl ?_⟩
    try simp only [true_and, q_add, q_sub, q_mul, q_div, q_mod, q_pow, q_lt, q_le, q_gt, q_ge, q_eq, q_ne, q_is, q_isnt, q_isntB, q_isB, q_tb, q_ti, q_tn, q_tt, q_ixQ0, q_ixQ1, q_ixS0, q_ixS1, q_eqQ, q_neQ, q_eqSp, q_neSp, q_eqB, q_neB, q_ixT, q_lenT, q_abs, q_intI, q_intB, q_min2, q_max2, at0, at1, at2, List.length_cons, List.length_nil, sizeLine_eq, Nat.reduceAdd, Nat.reduceLeDiff, true_and, Bool.not_true, Bool.not_false, Bool.false_eq_true, if_false, reduceIte, lk, List.set, whole_int, whole_bl, whole_tup, whole_non]
    exact hF _ _ ⟨_, _, _, _, _, _, _, _, _, _, _, rfl⟩ l5
  · exact h.elim
end Sd
namespace K35
open PySem PySem.Spec PyProof.Rows L2 Sd
def Γ : Gam where
  ar := fun k => match k with
    | 0 => 2
    | 106 => 3
    | 262 => 1
    | 9 => 1
    | _ => 0
  fn := fun k => match k with
    | 0 => c_law_take_2
    | 106 => c_law_made_2
    | 262 => c_law_which
    | 9 => c_lawT
    | _ => fun _ _ _ _ => False
  cst := fun k => match k with
    | _ => none
def c_law : Con := c_lawT
theorem m_law_take_2 : Meets Γ 4 z_law_take_2 (Γ.fn 0) := by
  apply Sd.m_law_take_2 <;> rfl
theorem m_law_made_2 : Meets Γ 4 z_law_made_2 (Γ.fn 106) := by
  apply Sd.m_law_made_2 <;> rfl
theorem m_law_which : Meets Γ 2 z_law_which (Γ.fn 262) := by
  apply Sd.m_law_which <;> rfl
theorem m_law_45 : Meets Γ 12 z_law_45 c_law := by
  apply Sd.m_law_45 <;> rfl
theorem law_con : LawCon c_law := lawT_con
end K35
namespace K35
open PySem PySem.Spec PyProof.Rows L2 Sd
section
variable {P : Program} {w : World} {K : PySem.W.Frag} {mg : Str → Option Value} {base : Heap}
def iniP (b : List Stmt) : Pos × Pos × Pos × Pos := match b with
  | [.Assign [.Attribute (.Name _ p1) _ p2] (.Name _ p3) p4] => (p1, p2, p3, p4)
  | _ => (⟨0, 0, 0, 0⟩, ⟨0, 0, 0, 0⟩, ⟨0, 0, 0, 0⟩, ⟨0, 0, 0, 0⟩)
theorem i_NoCutting (W : World' classes names more K mg) (says : obsX look fn K = valX fn) : IniOk P w K mg base 4 := mk_ini (me := "self") W says 4 rfl ⟨rfl, rfl, rfl, by decide +kernel, rfl, by decide +kernel, by decide +kernel⟩ ⟨(iniP (defBody (cb 5 0))).1, (iniP (defBody (cb 5 0))).2.1, (iniP (defBody (cb 5 0))).2.2.1, (iniP (defBody (cb 5 0))).2.2.2, by kernel_rfl⟩ (by decide +kernel) (more_ini_NoCutting W.more) (by decide +kernel) (by decide +kernel) (fun _ _ _ _ _ _ us hl => match us, hl with | [_, _], _ => rfl)
theorem i_NoText (W : World' classes names more K mg) (says : obsX look fn K = valX fn) : IniOk P w K mg base 15 := mk_ini (me := "self") W says 5 rfl ⟨rfl, rfl, rfl, by decide +kernel, rfl, by decide +kernel, by decide +kernel⟩ ⟨(iniP (defBody (cb 16 0))).1, (iniP (defBody (cb 16 0))).2.1, (iniP (defBody (cb 16 0))).2.2.1, (iniP (defBody (cb 16 0))).2.2.2, by kernel_rfl⟩ (by decide +kernel) (more_ini_NoText W.more) (by decide +kernel) (by decide +kernel) (fun _ _ _ _ _ _ us hl => match us, hl with | [_, _], _ => rfl)
theorem i_NoName (W : World' classes names more K mg) (says : obsX look fn K = valX fn) : IniOk P w K mg base 17 := mk_ini (me := "self") W says 6 rfl ⟨rfl, rfl, rfl, by decide +kernel, rfl, by decide +kernel, by decide +kernel⟩ ⟨(iniP (defBody (cb 18 0))).1, (iniP (defBody (cb 18 0))).2.1, (iniP (defBody (cb 18 0))).2.2.1, (iniP (defBody (cb 18 0))).2.2.2, by kernel_rfl⟩ (by decide +kernel) (more_ini_NoName W.more) (by decide +kernel) (by decide +kernel) (fun _ _ _ _ _ _ us hl => match us, hl with | [_, _], _ => rfl)
theorem f_law_take_2 (W : World' classes names more K mg) (says : obsX look fn K = valX fn)   : FnAt Γ 3 P w K mg base ("_law_take", 0) :=
  mk_fn (c := s_law_take_2) (con := Γ.fn 0) (by decide) W says 0 rfl k_law_take_2 ((fun p hp => absurd hp List.not_mem_nil)) ((fun p hp => absurd hp List.not_mem_nil)) (by decide +kernel) (by decide +kernel) (fun _ _ _ _ _ _ us hl => match us, hl with | [_, _], _ => rfl) (fun p hp => absurd hp List.not_mem_nil) rfl rfl m_law_take_2 (fun h => absurd h (by decide))
theorem f_law_made_2 (W : World' classes names more K mg) (says : obsX look fn K = valX fn)   : FnAt Γ 3 P w K mg base ("_law_made", 106) :=
  mk_fn (c := s_law_made_2) (con := Γ.fn 106) (by decide) W says 1 rfl k_law_made_2 ((fun p hp => absurd hp List.not_mem_nil)) ((fun p hp => absurd hp List.not_mem_nil)) (by decide +kernel) (by decide +kernel) (fun _ _ _ _ _ _ us hl => match us, hl with | [_, _, _], _ => rfl) (List.forall_mem_cons.mpr ⟨⟨rfl, i_NoCutting W says⟩, (List.forall_mem_cons.mpr ⟨⟨rfl, i_NoText W says⟩, (List.forall_mem_cons.mpr ⟨⟨rfl, i_NoName W says⟩, (fun p hp => absurd hp List.not_mem_nil)⟩)⟩)⟩) rfl rfl m_law_made_2 (fun h => absurd h (by decide))
theorem f_law_which (W : World' classes names more K mg) (says : obsX look fn K = valX fn)   : FnAt Γ 3 P w K mg base ("_law_which", 262) :=
  mk_fn (c := s_law_which) (con := Γ.fn 262) (by decide) W says 2 rfl k_law_which ((fun p hp => absurd hp List.not_mem_nil)) ((fun p hp => absurd hp List.not_mem_nil)) (by decide +kernel) (by decide +kernel) (fun _ _ _ _ _ _ us hl => match us, hl with | [_], _ => rfl) (fun p hp => absurd hp List.not_mem_nil) rfl rfl m_law_which (fun h => absurd h (by decide))
end
theorem facts {w : World} {K : PySem.W.Frag} {mg : Str → Option Value} {h : Heap} {fa : Addr} (X : K.In h) (G : h.Ns mainGlobals mg) (says : obsX look fn K = valX fn) (hfa : mg ("law" : Str) = some (.ref fa)) :
    ∃ fd : FuncData, (∀ (s : Shared) (u : Value), BindsTo s fd ⟨[u], []⟩ [("_law_script", u)]) ∧ ∀ base : Heap, K.In base → base.Ns mainGlobals mg → FnOk R.prog w K mg base (L2.CX R.prog w) 4 fa fd ["_law_script"] (spOf K 1 c_law) := by
  have W : World' classes names more K mg := look_ok X G (says_ex says)
  refine mk_law (c := s_law_45) (con := c_law) (by decide) W says 3 rfl k_law_45 (fun base b1 b2 => ?_) ((fun p hp => absurd hp List.not_mem_nil)) (by decide +kernel) (by decide +kernel) (fun _ _ _ _ _ _ us hl => match us, hl with | [_], _ => rfl) rfl rfl m_law_45 hfa
  have h_law_take_2 := f_law_take_2 (P := R.prog) (w := w) (base := base) W says  
  have h_law_made_2 := f_law_made_2 (P := R.prog) (w := w) (base := base) W says  
  have h_law_which := f_law_which (P := R.prog) (w := w) (base := base) W says  
  exact (List.forall_mem_cons.mpr ⟨h_law_take_2.up (by decide), (List.forall_mem_cons.mpr ⟨h_law_made_2.up (by decide), (List.forall_mem_cons.mpr ⟨h_law_which.up (by decide), (fun p hp => absurd hp List.not_mem_nil)⟩)⟩)⟩)
end K35
open PySem PySem.W PySem.Calls PyProof.Rows in
set_option maxRecDepth 100000 in
set_option maxHeartbeats 8000000 in
theorem PySem.Challenge.cw_likeshards_k35_refusals_apart_holds : PySem.Challenge.rw_likeshards_k35_refusals_apart.Holds := by
  w_on; o_law
  refine HandSHeadRun.head_any (r := K35.R) (q := view K35.R.prog [24]) (H := K35.hk) (ob := K35.ob) (M := 40000) (loose := K35.loose) (d := HandSHeadRun.topDef K35.R.prog 24) (kwd := []) K35.ob_eq
    (by kernel_rfl) (fun s => by kernel_rfl) K35.run (by kernel_rfl) (by kernel_rfl) (by kernel_rfl) (by rfl)
    (by first | assumption | decide +kernel) (by decide +kernel) ⟨rfl, rfl, rfl, rfl, rfl, by decide +kernel⟩ ?hw ?hc
  case hw => w_witness2
  case hc =>
    refine Sd.walk_X (l := PySem.Challenge.rw_likeshards_k35_refusals_apart) (k := 4) (x := "_law_script") rfl (by kernel_rfl) ⟨rfl, by decide, by decide⟩ ?F
    intro w mg fa h Y G hmg0
    obtain ⟨K, KX, says⟩ := Y
    have hmg : mg ("law" : PySem.Str) = some (.ref fa) := by
      have e : (HandSHeadRun.topDef K35.R.prog 24).name = ("law" : PySem.Str) := by kernel_rfl
      rw [← e]
      exact hmg0
    obtain ⟨fd, hb, hF⟩ := K35.facts (w := w) KX G says hmg
    exact ⟨K, fd, K35.c_law, KX, (Sd.look_ok (mg := mg) KX G (Sd.says_ex says)).nol, K35.law_con, hb, hF⟩
