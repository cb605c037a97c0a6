import PyProof.Rows.All
import Wide.All
import OpenK.AllK
import Wide.FinOn
import PyProof.EqAt
import PyProof.EqKinds
import PyProof.TupleCall
import HandS.ForMost
import HandS.ForExc
import HandS.ExcValue
import HandS.Wide
import HandS.TupAny
import HandS.Deep
import HandS.Codes
import PyProof.StrOps2
import HandS.Flow
import HandS.TryOnly
import HandS.Iter
import HandS.IsInst
import HandS.Text
import HandS.RaiseMore
import HandS.More
import HandS.SetFor
import HandS.ExcOwn
import PySem.Challenge.RW_putsigns_k49_rows_and_holds_written
set_option Elab.async false
set_option linter.all false
set_option maxRecDepth 100000
set_option maxHeartbeats 4000000
/-! PVA: plain data D, what stands for it in the abstract heap, slots, the state relation SR, readings tD and tS of closures over slots. -/
namespace PV
open PySem PySem.Spec PyProof.Rows L2

abbrev Sg := List (Option V)
/-- plain data -/
inductive D where
  | non | bl (b : Bool) | int (i : Int) | str (s : Str)
  | tup (xs : List D) | lst (xs : List D) | rol (xs : List D) | dic (kvs : List (D × D)) | exc (c : Str)

/-- hashable keys, as == takes them -/
inductive K0 where
  | non | int (i : Int) | str (s : Str)
  deriving DecidableEq
inductive HK where
  | sc (k : K0) | tup (ks : List K0)
  deriving DecidableEq
def nrm0 : D → Option K0
  | .non => some .non
  | .bl b => some (.int (if b then 1 else 0))
  | .int i => some (.int i)
  | .str s => some (.str s)
  | _ => none
def nrms : List D → Option (List K0)
  | [] => some []
  | d :: ds => match nrm0 d, nrms ds with
    | some k, some ks => some (k :: ks)
    | _, _ => none
def nrm : D → Option HK
  | .tup ds => (nrms ds).map HK.tup
  | d => (nrm0 d).map HK.sc

/-- what does not change in one law -/
structure KM where
  prog : Program
  w : World
  K : PySem.W.Frag
  mg : Str → Option Value
abbrev kmOf (X : Cx) : KM := ⟨X.prog, X.w, X.K, X.mg⟩

def hash0 (w : World) : K0 → Int
  | .non => hashInt 0
  | .int i => hashInt i
  | .str s => hashStr w s

/-- an exception object of the class at C, caught -/
def ExV (cls : Value) (a : Addr) : HO := .ext fun h => ∃ (oe : Obj) (vs : Array Value), h.get? a = some oe ∧ Zc cls none oe ∧ oe.data = .fields vs
/-- a dict: keys (as == takes them, as they stand), values -/
def DicO (M : KM) (a : Addr) (es : List (HK × V × V)) : HO := .ext fun h => False

mutual
def Rp (M : KM) (G : Hp) : D → V → Prop
  | .non, v => v = .non
  | .bl b, v => v = .bl b
  | .int i, v => v = .int i
  | .str s, v => v = .str s
  | .tup ds, v => ∃ a xs, v = .ref a ∧ SqT M.K G a xs ∧ RpA M G ds xs
  | .lst ds, v => ∃ a xs, v = .ref a ∧ G a = some (.lst xs) ∧ RpA M G ds xs
  | .rol ds, v => ∃ a xs, v = .ref a ∧ SqL M.K G a xs ∧ RpA M G ds xs
  | .dic kvs, v => ∃ a es, v = .ref a ∧ G a = some (DicO M a es) ∧ RpK M G kvs es
  | .exc c, v => ∃ a C, v = .ref a ∧ M.mg c = some (.ref C) ∧ G a = some (ExV (.ref C) a)
def RpA (M : KM) (G : Hp) : List D → List V → Prop
  | [], vs => vs = []
  | d :: ds, vs => ∃ v r, vs = v :: r ∧ Rp M G d v ∧ RpA M G ds r
def RpK (M : KM) (G : Hp) : List (D × D) → List (HK × V × V) → Prop
  | [], es => es = []
  | (k, d) :: r, es => ∃ hk kv vv es', es = (hk, kv, vv) :: es' ∧ nrm k = some hk ∧ Rp M G k kv ∧ Rp M G d vv ∧ RpK M G r es'
end

theorem Same.seqT {K : PySem.W.Frag} {H H' : Hp} {a : Addr} {xs : List V} (e : Same H H') (h : SqT K H a xs) : SqT K H' a xs := by
  rcases h with (h | ⟨o, h⟩) | h
  · exact .inl (.inl (e _ _ h))
  · exact .inl (.inr ⟨o, e _ _ h⟩)
  · exact .inr h

section
variable {M : KM} {G G' H H' : Hp}
mutual
theorem Rp.mono (e : Same G G') : ∀ (d : D) {v : V}, Rp M G d v → Rp M G' d v
  | .non, _, h => h
  | .bl _, _, h => h
  | .int _, _, h => h
  | .str _, _, h => h
  | .tup ds, _, ⟨a, xs, e1, h1, h2⟩ => ⟨a, xs, e1, Same.seqT e h1, RpA.mono e ds h2⟩
  | .lst ds, _, ⟨a, xs, e1, h1, h2⟩ => ⟨a, xs, e1, e _ _ h1, RpA.mono e ds h2⟩
  | .rol ds, _, ⟨a, xs, e1, h1, h2⟩ => ⟨a, xs, e1, Same.seq e h1, RpA.mono e ds h2⟩
  | .dic kvs, _, ⟨a, es, e1, h1, h2⟩ => ⟨a, es, e1, e _ _ h1, RpK.mono e kvs h2⟩
  | .exc _, _, ⟨a, C, e1, h1, h2⟩ => ⟨a, C, e1, h1, e _ _ h2⟩
theorem RpA.mono (e : Same G G') : ∀ (ds : List D) {vs : List V}, RpA M G ds vs → RpA M G' ds vs
  | [], _, h => h
  | d :: ds, _, ⟨v, r, e1, h1, h2⟩ => ⟨v, r, e1, Rp.mono e d h1, RpA.mono e ds h2⟩
theorem RpK.mono (e : Same G G') : ∀ (kvs : List (D × D)) {es : List (HK × V × V)}, RpK M G kvs es → RpK M G' kvs es
  | [], _, h => h
  | (k, d) :: r, _, ⟨hk, kv, vv, es', e1, h1, h2, h3, h4⟩ => ⟨hk, kv, vv, es', e1, h1, Rp.mono e k h2, Rp.mono e d h3, RpK.mono e r h4⟩
end
theorem RpA.length : ∀ {ds : List D} {vs : List V}, RpA M G ds vs → vs.length = ds.length
  | [], _, h => by rw [h]; rfl
  | d :: ds, _, ⟨v, r, e, _, h⟩ => by rw [e]; simp [RpA.length h]
theorem RpA.cons {d : D} {v : V} {ds : List D} {vs : List V} (h : Rp M G d v) (r : RpA M G ds vs) : RpA M G (d :: ds) (v :: vs) := ⟨v, vs, rfl, h, r⟩
theorem RpA.nil : RpA M G [] [] := rfl
theorem RpA.append : ∀ {ds es : List D} {vs us : List V}, RpA M G ds vs → RpA M G es us → RpA M G (ds ++ es) (vs ++ us)
  | [], _, _, _, h, r => by rw [h]; exact r
  | d :: ds, _, _, _, ⟨v, t, e, h1, h2⟩, r => by rw [e]; exact ⟨v, _, rfl, h1, RpA.append h2 r⟩
theorem RpA.get : ∀ {ds : List D} {vs : List V} {i : Nat} {d : D}, RpA M G ds vs → ds[i]? = some d → ∃ v, vs[i]? = some v ∧ Rp M G d v
  | [], _, _, _, _, e => by simp at e
  | d :: ds, _, 0, _, ⟨v, r, e, h1, h2⟩, q => by simp at q; subst q; rw [e]; exact ⟨v, rfl, h1⟩
  | d :: ds, _, i + 1, _, ⟨v, r, e, h1, h2⟩, q => by
    rw [e]
    obtain ⟨u, h3, h4⟩ := RpA.get (i := i) h2 (by simpa using q)
    exact ⟨u, by simpa using h3, h4⟩
theorem RpA.set : ∀ {ds : List D} {vs : List V} {i : Nat} {d : D} {v : V}, RpA M G ds vs → Rp M G d v → RpA M G (ds.set i d) (vs.set i v)
  | [], _, _, _, _, h, _ => by rw [h]; rfl
  | _ :: _, _, 0, _, _, ⟨v, r, e, _, h2⟩, q => by rw [e]; exact ⟨_, r, rfl, q, h2⟩
  | _ :: _, _, i + 1, _, _, ⟨v, r, e, h1, h2⟩, q => by rw [e]; exact ⟨v, _, rfl, h1, RpA.set h2 q⟩
theorem RpA.take : ∀ (n : Nat) {ds : List D} {vs : List V}, RpA M G ds vs → RpA M G (ds.take n) (vs.take n)
  | 0, _, _, _ => by simp [RpA]
  | n + 1, [], _, h => by rw [h]; rfl
  | n + 1, d :: ds, _, ⟨v, r, e, h1, h2⟩ => by rw [e]; exact ⟨v, _, rfl, h1, RpA.take n h2⟩
theorem RpA.drop : ∀ (n : Nat) {ds : List D} {vs : List V}, RpA M G ds vs → RpA M G (ds.drop n) (vs.drop n)
  | 0, _, _, h => h
  | n + 1, [], _, h => by rw [h]; rfl
  | n + 1, d :: ds, _, ⟨v, r, e, h1, h2⟩ => by rw [e]; exact RpA.drop n h2
theorem RpA.reverse {ds : List D} {vs : List V} (h : RpA M G ds vs) : RpA M G ds.reverse vs.reverse := by
  induction ds generalizing vs with
  | nil => rw [show vs = [] from h]; exact RpA.nil
  | cons d ds ih =>
    obtain ⟨v, r, e, h1, h2⟩ := h
    rw [e, List.reverse_cons, List.reverse_cons]
    exact RpA.append (ih h2) (RpA.cons h1 RpA.nil)
end

/-! ### owned containers, slots -/
/-- a slot's knowledge: nothing; shared data; an own container (true: lent by the caller) -/
inductive Sl where
  | no | sh (d : D) | ow (io : Bool) (d : D)
/-- what an expression yields: shared data; a new container; the container of a slot -/
inductive R where
  | sh (d : D) | ow (d : D) | nm (i : Nat)
inductive Out (α : Type) where
  | ok (a : α) (δ : List Sl) | ex (c : Str) (δ : List Sl) | st

def OwnAt (M : KM) (G H : Hp) (p : Addr) : D → Prop
  | .lst ds => ∃ vs, H p = some (.lst vs) ∧ RpA M G ds vs
  | .dic kvs => ∃ es, H p = some (DicO M p es) ∧ RpK M G kvs es
  | _ => False
theorem OwnAt.mono {M : KM} {G G' H H' : Hp} {p : Addr} (e : Same G G') (k : H' p = H p) : ∀ {d : D}, OwnAt M G H p d → OwnAt M G' H' p d
  | .lst ds, ⟨vs, h1, h2⟩ => ⟨vs, k.trans h1, RpA.mono e ds h2⟩
  | .dic kvs, ⟨es, h1, h2⟩ => ⟨es, k.trans h1, RpK.mono e kvs h2⟩
theorem OwnAt.ex {M : KM} {G H : Hp} {p : Addr} : ∀ {d : D}, OwnAt M G H p d → ∃ o, H p = some o
  | .lst _, ⟨_, h, _⟩ => ⟨_, h⟩
  | .dic _, ⟨_, h, _⟩ => ⟨_, h⟩
/-- a tracked container, as shared data -/
theorem OwnAt.rp {M : KM} {G H : Hp} {p : Addr} {o : HO} (e : Same G H) : ∀ {d : D}, OwnAt M G H p d → H p = some o → G p = none → Rp M (upd G p o) d (.ref p)
  | .lst ds, ⟨vs, h1, h2⟩, h, n => by
    rw [h] at h1
    cases h1
    refine ⟨p, vs, rfl, upd_same, RpA.mono (fun b o q => ?_) ds h2⟩
    rw [upd_ne (ne_of_none q n)]
    exact q
  | .dic kvs, ⟨es, h1, h2⟩, h, n => by
    rw [h] at h1
    cases h1
    refine ⟨p, es, rfl, upd_same, RpK.mono (fun b o q => ?_) kvs h2⟩
    rw [upd_ne (ne_of_none q n)]
    exact q

/-- the frame: T what must stay, B what stood at the def's entry, G0 what was shared then, IO the lent containers -/
structure Fm where
  T : Hp
  B : Hp
  G0 : Hp
  IO : Nat → Addr

structure SR (M : KM) (F : Fm) (δ : List Sl) (σ : Sg) (P : Nat → Addr) (G H : Hp) : Prop where
  len : δ.length = σ.length
  sh : ∀ (i : Nat) d, δ[i]? = some (.sh d) → ∃ v, σ[i]? = some (some v) ∧ Rp M G d v
  ow : ∀ (i : Nat) b d, δ[i]? = some (.ow b d) → σ[i]? = some (some (.ref (P i))) ∧ OwnAt M G H (P i) d ∧ G (P i) = none ∧ F.T (P i) = none ∧ (b = false → F.B (P i) = none) ∧ (b = true → F.IO i = P i)
  ap : ∀ (i j : Nat) b d b' d', δ[i]? = some (.ow b d) → δ[j]? = some (.ow b' d') → P i = P j → i = j
  t : Same F.T H
  g : Same G H
  g0 : Same F.G0 G
  gn : ∀ a o, G a = some o → F.G0 a = some o ∨ F.B a = none
  b : ∀ a o, F.B a = some o → H a ≠ none

/-- what v is, yielded as r -/
def RR (M : KM) (F : Fm) (δ : List Sl) (σ : Sg) (P : Nat → Addr) (G H : Hp) : R → V → Prop
  | .sh d, v => Rp M G d v
  | .ow d, v => ∃ q, v = .ref q ∧ OwnAt M G H q d ∧ G q = none ∧ F.T q = none ∧ F.B q = none ∧ ∀ (i : Nat) b d', δ[i]? = some (.ow b d') → P i ≠ q
  | .nm i, v => σ[i]? = some (some v)

/-- G and H grow by new objects alone -/
structure XS (G H G' H' : Hp) : Prop where
  g : Same G G'
  h : Same H H'
  s : Same G' H'
  n : ∀ a o, G' a = some o → G a = some o ∨ H a = none
theorem XS.refl {G H : Hp} (s : Same G H) : XS G H G H := ⟨Same.refl _, Same.refl _, s, fun _ _ h => .inl h⟩
theorem XS.trans {G H G1 H1 G2 H2 : Hp} (a : XS G H G1 H1) (b : XS G1 H1 G2 H2) : XS G H G2 H2 :=
  ⟨a.g.trans b.g, a.h.trans b.h, b.s, fun x o h => by
    rcases b.n x o h with q | q
    · exact a.n x o q
    · refine .inr ?_
      cases e : H x with
      | none => rfl
      | some u => rw [a.h x u e] at q; cases q⟩
/-- a new object that is not shared -/
theorem XS.own {G H : Hp} {p : Addr} {o : HO} (s : Same G H) (hn : H p = none) : XS G H G (upd H p o) :=
  ⟨Same.refl _, fun b u q => by rw [upd_ne (ne_of_none q hn)]; exact q, fun b u q => by
    have h := s b u q
    rw [upd_ne (ne_of_none h hn)]; exact h, fun a u h => .inl h⟩
/-- a new object, shared -/
theorem XS.new {G H : Hp} {p : Addr} {o : HO} (s : Same G H) (hn : H p = none) : XS G H (upd G p o) (upd H p o) := by
  have gn : G p = none := s.free hn
  refine ⟨fun b u q => by rw [upd_ne (ne_of_none q gn)]; exact q, fun b u q => by rw [upd_ne (ne_of_none q hn)]; exact q, fun b u q => ?_, fun a u h => ?_⟩
  · by_cases e : b = p
    · rw [e, upd_same] at q
      rw [e, upd_same]; exact q
    · rw [upd_ne e] at q ⊢
      exact s b u q
  · by_cases e : a = p
    · rw [e]; exact .inr hn
    · rw [upd_ne e] at h; exact .inl h

section
variable {M : KM} {F : Fm} {δ : List Sl} {σ : Sg} {P : Nat → Addr} {G G' H H' : Hp}
theorem SR.ext (S : SR M F δ σ P G H) (x : XS G H G' H') : SR M F δ σ P G' H' where
  len := S.len
  sh := fun i d e => let ⟨v, h1, h2⟩ := S.sh i d e; ⟨v, h1, Rp.mono x.g d h2⟩
  ow := fun i b d e => by
    obtain ⟨h1, h2, h3, h4, h5, h6⟩ := S.ow i b d e
    obtain ⟨o, ho⟩ := h2.ex
    refine ⟨h1, h2.mono x.g ((x.h _ _ ho).trans ho.symm), ?_, h4, h5, h6⟩
    cases q : G' (P i) with
    | none => rfl
    | some u =>
      rcases x.n _ _ q with z | z
      · rw [h3] at z; cases z
      · rw [ho] at z; cases z
  ap := S.ap
  t := S.t.trans x.h
  g := x.s
  g0 := S.g0.trans x.g
  gn := fun a o h => by
    rcases x.n a o h with q | q
    · exact S.gn a o q
    · refine .inr ?_
      cases e : F.B a with
      | none => rfl
      | some u => exact absurd q (S.b a u e)
  b := fun a o h z => by
    cases e : H a with
    | none => exact S.b a o h e
    | some u => rw [x.h a u e] at z; cases z
/-- a new container's place is far from all others -/
theorem SR.rr_new {p : Addr} {d : D} (S : SR M F δ σ P G H) (x : XS G H G' H') (hn : H p = none) (gn : G' p = none) (h : OwnAt M G' H' p d) : RR M F δ σ P G' H' (.ow d) (.ref p) := by
  refine ⟨p, rfl, h, gn, ?_, ?_, fun i b d' e z => ?_⟩
  · cases q : F.T p with
    | none => rfl
    | some u => have := S.t p u q; rw [hn] at this; cases this
  · cases q : F.B p with
    | none => rfl
    | some u => exact absurd hn (S.b p u q)
  · obtain ⟨_, h2, _⟩ := S.ow i b d' e
    obtain ⟨o, ho⟩ := h2.ex
    rw [z, hn] at ho; cases ho
/-- a new container is shared from now on -/
theorem SR.freezeT {q : Addr} {d : D} (S : SR M F δ σ P G H) (r : RR M F δ σ P G H (.ow d) (V.ref q)) : ∃ G', SR M F δ σ P G' H ∧ Same G G' ∧ Rp M G' d (.ref q) := by
  obtain ⟨q', e, h1, h2, h3, h4, h5⟩ := r
  cases e
  obtain ⟨o, ho⟩ := h1.ex
  have gg : Same G (upd G q o) := fun b u h => by rw [upd_ne (ne_of_none h h2)]; exact h
  refine ⟨upd G q o, ⟨S.len, fun i d e => let ⟨v, k1, k2⟩ := S.sh i d e; ⟨v, k1, Rp.mono gg d k2⟩, fun i b d' e => ?_, S.ap, S.t, fun b u h => ?_, S.g0.trans gg, fun a u h => ?_, S.b⟩, gg, h1.rp S.g ho h2⟩
  · obtain ⟨k1, k2, k3, k4⟩ := S.ow i b d' e
    refine ⟨k1, k2.mono gg rfl, ?_, k4⟩
    rw [upd_ne (h5 i b d' e)]; exact k3
  · by_cases e : b = q
    · rw [e, upd_same] at h
      rw [e, ho]; exact h
    · rw [upd_ne e] at h; exact S.g b u h
  · by_cases e : a = q
    · rw [e]; exact .inr h4
    · rw [upd_ne e] at h; exact S.gn a u h
/-- a slot's own container is shared from now on -/
theorem SR.freeze {i : Nat} {d : D} (S : SR M F δ σ P G H) (e : δ[i]? = some (.ow false d)) : ∃ G', SR M F (δ.set i (.sh d)) σ P G' H ∧ Same G G' ∧ Rp M G' d (.ref (P i)) := by
  obtain ⟨k1, k2, k3, k4, k5, k6⟩ := S.ow i false d e
  obtain ⟨o, ho⟩ := k2.ex
  have hi : i < δ.length := (List.getElem?_eq_some_iff.mp e).1
  have gg : Same G (upd G (P i) o) := fun b u h => by rw [upd_ne (ne_of_none h k3)]; exact h
  have rp := k2.rp S.g ho k3
  refine ⟨upd G (P i) o, ⟨by rw [List.length_set]; exact S.len, fun j d' q => ?_, fun j b d' q => ?_, fun j j' b d b' d' q q' z => ?_, S.t, fun b u h => ?_, S.g0.trans gg, fun a u h => ?_, S.b⟩, gg, rp⟩
  · by_cases h : i = j
    · subst h
      rw [List.getElem?_set_self hi] at q
      cases q
      exact ⟨_, k1, rp⟩
    · rw [List.getElem?_set_ne h] at q
      obtain ⟨v, h1, h2⟩ := S.sh j d' q
      exact ⟨v, h1, Rp.mono gg d' h2⟩
  · by_cases h : i = j
    · subst h
      rw [List.getElem?_set_self hi] at q
      cases q
    · rw [List.getElem?_set_ne h] at q
      obtain ⟨h1, h2, h3, h4⟩ := S.ow j b d' q
      refine ⟨h1, h2.mono gg rfl, ?_, h4⟩
      rw [upd_ne fun z => h (S.ap _ _ _ _ _ _ e q z.symm)]
      exact h3
  · have h : i ≠ j := by
      rintro rfl
      rw [List.getElem?_set_self hi] at q; cases q
    have h' : i ≠ j' := by
      rintro rfl
      rw [List.getElem?_set_self hi] at q'; cases q'
    rw [List.getElem?_set_ne h] at q
    rw [List.getElem?_set_ne h'] at q'
    exact S.ap _ _ _ _ _ _ q q' z
  · by_cases e : b = P i
    · rw [e, upd_same] at h
      rw [e, ho]; exact h
    · rw [upd_ne e] at h; exact S.g b u h
  · by_cases e : a = P i
    · rw [e]; exact .inr (k5 rfl)
    · rw [upd_ne e] at h; exact S.gn a u h
end

/-! ### readings -/
def Post (M : KM) (W : WX) (F : Fm) (σ : Sg) (G : Hp) {α : Type} (q : α → List Sl → (Nat → Addr) → Hp → Hp → Prop) : Out α → Prop
  | .ok a δ' => ∀ P' G' H', SR M F δ' σ P' G' H' → Same G G' → q a δ' P' G' H'
  | .ex c δ' => ∀ C P' G' H', M.mg c = some (.ref C) → SR M F δ' σ P' G' H' → Same G G' → W (.ref C) none σ H'
  | .st => False
def Out.bind {α β : Type} : Out α → (α → List Sl → Out β) → Out β
  | .ok a δ, k => k a δ
  | .ex c δ, _ => .ex c δ
  | .st, _ => .st
section
variable {M : KM} {W : WX} {F : Fm} {σ : Sg} {G G1 : Hp} {α β : Type} {q q' : α → List Sl → (Nat → Addr) → Hp → Hp → Prop}
theorem Post.base {o : Out α} (h : Post M W F σ G q o) (g : Same G G1) : Post M W F σ G1 q o := by
  cases o with
  | ok a δ => exact fun P' G' H' S e => h P' G' H' S (g.trans e)
  | ex c δ => exact fun C P' G' H' hc S e => h C P' G' H' hc S (g.trans e)
  | st => exact h
theorem Post.bind {o : Out α} {k : α → List Sl → Out β} {q : β → List Sl → (Nat → Addr) → Hp → Hp → Prop} (h : Post M W F σ G q (o.bind k))
    (n : ∀ a δ' P' G' H', SR M F δ' σ P' G' H' → Same G G' → Post M W F σ G' q (k a δ') → q' a δ' P' G' H') : Post M W F σ G q' o := by
  cases o with
  | ok a δ => exact fun P' G' H' S e => n a δ P' G' H' S e (Post.base h e)
  | ex c δ => exact h
  | st => exact h
end
/-- an expression's reading by a closure -/
abbrev EPost (M : KM) (W : WX) (F : Fm) (σ : Sg) (G : Hp) (Q : VK) : Out R → Prop := Post M W F σ G fun r δ' P' G' H' => ∀ v, RR M F δ' σ P' G' H' r v → Q v H'
def tD (M : KM) (W : WX) (f : List Sl → Out R) : TE := fun σ H Q => ∃ F δ P G, SR M F δ σ P G H ∧ EPost M W F σ G Q (f δ)
/-- a test's -/
abbrev BPost (M : KM) (W : WX) (F : Fm) (σ : Sg) (G : Hp) (Q : Bool → Hp → Prop) : Out Bool → Prop := Post M W F σ G fun b _ _ _ H' => Q b H'
def tB' (M : KM) (W : WX) (f : List Sl → Out Bool) : TT := fun σ H Q => ∃ F δ P G, SR M F δ σ P G H ∧ BPost M W F σ G Q (f δ)
/-- a list's of arguments, each settled -/
def RRs (M : KM) (F : Fm) (δ : List Sl) (σ : Sg) (P : Nat → Addr) (G H : Hp) : List R → List V → Prop
  | [], vs => vs = []
  | r :: rs, vs => ∃ v t, vs = v :: t ∧ RR M F δ σ P G H r v ∧ RRs M F δ σ P G H rs t
abbrev APost (M : KM) (W : WX) (F : Fm) (σ : Sg) (G : Hp) (Q : List V → Hp → Prop) : Out (List R) → Prop := Post M W F σ G fun rs δ' P' G' H' => ∀ vs, RRs M F δ' σ P' G' H' rs vs → Q vs H'
def tA' (M : KM) (W : WX) (f : List Sl → Out (List R)) : TA := fun σ H Q => ∃ F δ P G, SR M F δ σ P G H ∧ APost M W F σ G Q (f δ)

inductive SOut where
  | nx (δ : List Sl) | rt (r : R) (δ : List Sl) | bk (δ : List Sl) | ct (δ : List Sl) | ex (c : Str) (δ : List Sl) | st
def SPost (M : KM) (W : WX) (F : Fm) (G : Hp) (D : Ends) : SOut → Prop
  | .nx δ' => ∀ σ' P' G' H', SR M F δ' σ' P' G' H' → Same G G' → D.nx σ' H'
  | .rt r δ' => ∀ v σ' P' G' H', SR M F δ' σ' P' G' H' → Same G G' → RR M F δ' σ' P' G' H' r v → D.rt v H'
  | .bk δ' => ∀ σ' P' G' H', SR M F δ' σ' P' G' H' → Same G G' → D.bk σ' H'
  | .ct δ' => ∀ σ' P' G' H', SR M F δ' σ' P' G' H' → Same G G' → D.ct σ' H'
  | .ex c δ' => ∀ C σ' P' G' H', M.mg c = some (.ref C) → SR M F δ' σ' P' G' H' → Same G G' → W (.ref C) none σ' H'
  | .st => False
def tS (M : KM) (W : WX) (f : List Sl → SOut) : TS := fun D σ H => ∃ F δ P G, SR M F δ σ P G H ∧ SPost M W F G D (f δ)

theorem _root_.L2.PE.weak {X : Cx} {e : Expr} {t u : TE} (h : PE X e t) (k : ∀ σ H Q, u σ H Q → t σ H Q) : PE X e u := ⟨fun pins s σ H Q I q => h.run pins s σ H Q I (k σ H Q q)⟩
theorem _root_.L2.PT.weak {X : Cx} {e : Expr} {t u : TT} (h : PT X e t) (k : ∀ σ H Q, u σ H Q → t σ H Q) : PT X e u := ⟨fun pins s σ H Q I q => h.run pins s σ H Q I (k σ H Q q)⟩
theorem _root_.L2.PW.weak {X : Cx} {e : Expr} {t u : TT} (h : PW X e t) (k : ∀ σ H Q, u σ H Q → t σ H Q) : PW X e u := ⟨fun w pins s σ H Q I q => h.run w pins s σ H Q I (k σ H Q q)⟩
theorem _root_.L2.PA.weak {X : Cx} {e : List Expr} {t u : TA} (h : PA X e t) (k : ∀ σ H Q, u σ H Q → t σ H Q) : PA X e u := ⟨fun pos pins s σ H Q I q => h.run pos pins s σ H Q I (k σ H Q q)⟩
theorem _root_.L2.PS.weak {X : Cx} {e : Stmt} {t u : TS} (h : PS X e t) (k : ∀ D σ H, u D σ H → t D σ H) : PS X e u := ⟨fun pins s σ H D I q => h.run pins s σ H D I (k D σ H q)⟩
theorem _root_.L2.PSs.weak {X : Cx} {e : List Stmt} {t u : TS} (h : PSs X e t) (k : ∀ D σ H, u D σ H → t D σ H) : PSs X e u := ⟨fun pins s σ H D I q => h.run pins s σ H D I (k D σ H q)⟩
end PV
/-! PVB: operators over plain data. -/
namespace PV
open PySem PySem.Spec PyProof.Rows L2

/-- x may be looked at as d -/
def Lk (M : KM) (G H : Hp) (d : D) (x : V) : Prop := Rp M G d x ∨ ∃ p, x = .ref p ∧ OwnAt M G H p d
/-- what a built-in's answer r is -/
def RN (M : KM) (G H0 H : Hp) : R → V → Prop
  | .sh d, v => Rp M G d v
  | .ow d, v => ∃ q, v = .ref q ∧ OwnAt M G H q d ∧ H0 q = none ∧ G q = none
  | .nm _, _ => False
def NQ (M : KM) (G H : Hp) (r : R) (Q : VK) : Prop := ∀ v G' H', XS G H G' H' → RN M G' H H' r v → Q v H'
def rD2 (M : KM) (φ : D → D → Option R) : R2 := fun x y H Q => ∃ G d e r, Same G H ∧ Lk M G H d x ∧ Lk M G H e y ∧ φ d e = some r ∧ NQ M G H r Q
def rD1 (M : KM) (φ : D → Option R) : V → Hp → VK → Prop := fun x H Q => ∃ G d r, Same G H ∧ Lk M G H d x ∧ φ d = some r ∧ NQ M G H r Q

section
variable {M : KM} {G H : Hp} {x : V} {Q : VK}
theorem Lk.non (h : Lk M G H .non x) : x = .non := h.elim id fun ⟨_, _, z⟩ => z.elim
theorem Lk.bl {b : Bool} (h : Lk M G H (.bl b) x) : x = .bl b := h.elim id fun ⟨_, _, z⟩ => z.elim
theorem Lk.int {i : Int} (h : Lk M G H (.int i) x) : x = .int i := h.elim id fun ⟨_, _, z⟩ => z.elim
theorem Lk.str {i : Str} (h : Lk M G H (.str i) x) : x = .str i := h.elim id fun ⟨_, _, z⟩ => z.elim
theorem Lk.tup {ds : List D} (h : Lk M G H (.tup ds) x) (s : Same G H) : ∃ a xs, x = .ref a ∧ SqT M.K H a xs ∧ RpA M G ds xs := h.elim (fun ⟨a, xs, e, h1, h2⟩ => ⟨a, xs, e, Same.seqT s h1, h2⟩) fun ⟨_, _, z⟩ => z.elim
theorem Lk.rol {ds : List D} (h : Lk M G H (.rol ds) x) (s : Same G H) : ∃ a xs, x = .ref a ∧ SqL M.K H a xs ∧ RpA M G ds xs := h.elim (fun ⟨a, xs, e, h1, h2⟩ => ⟨a, xs, e, Same.seq s h1, h2⟩) fun ⟨_, _, z⟩ => z.elim
theorem Lk.lst {ds : List D} (h : Lk M G H (.lst ds) x) (s : Same G H) : ∃ a xs, x = .ref a ∧ H a = some (.lst xs) ∧ RpA M G ds xs :=
  h.elim (fun ⟨a, xs, e, h1, h2⟩ => ⟨a, xs, e, s _ _ h1, h2⟩) fun ⟨p, e, vs, h1, h2⟩ => ⟨p, vs, e, h1, h2⟩
theorem Lk.of {d : D} (h : Rp M G d x) : Lk M G H d x := .inl h
theorem NQ.sh {d : D} {v : V} (h : NQ M G H (.sh d) Q) (s : Same G H) (r : Rp M G d v) : Q v H := h v G H (XS.refl s) r
theorem NQ.lst {ds : List D} {vs : List V} (h : NQ M G H (.ow (.lst ds)) Q) (s : Same G H) (r : RpA M G ds vs) : ∀ p, H p = none → Q (.ref p) (upd H p (.lst vs)) := fun p hp =>
  h (.ref p) G _ (XS.own s hp) ⟨p, rfl, ⟨vs, upd_same, r⟩, hp, s.free hp⟩
theorem NQ.tup {ds : List D} {vs : List V} (h : NQ M G H (.sh (.tup ds)) Q) (s : Same G H) (r : RpA M G ds vs) : ∀ p, H p = none → Q (.ref p) (upd H p (.tup vs)) := fun p hp =>
  h (.ref p) (upd G p (.tup vs)) _ (XS.new s hp) ⟨p, vs, rfl, .inl (.inl upd_same), RpA.mono (XS.new s hp).g ds r⟩
end

/-! ### arithmetic -/
def mulOk (i j : Int) : Bool := decide (i.natAbs.log2 + j.natAbs.log2 < 1000000)
def divOk (j : Int) : Bool := decide (0 < j) && decide (j.natAbs.log2 < 9000)
def powOk (i j : Int) : Bool := decide (0 ≤ j) && decide (j ≤ 1000000) && decide (i.natAbs < 2 ^ 64)
def fit (n : Nat) : Bool := decide (n ≤ sizeLine)
def ix63 (i : Int) : Bool := decide (-(2 ^ 63) ≤ i) && decide (i < 2 ^ 63)
def strRep (x : Str) (n : Nat) : Str := ⟨(List.replicate n x.cps.toList).flatten.toArray⟩
def binD : Operator → D → D → Option R
  | .Add, .int i, .int j => some (.sh (.int (i + j)))
  | .Add, .str a, .str b => if fit (a.length + b.length) then some (.sh (.str (a ++ b))) else none
  | .Add, .lst a, .lst b => if fit (a.length + b.length) then some (.ow (.lst (a ++ b))) else none
  | .Add, .tup a, .tup b => if fit (a.length + b.length) then some (.sh (.tup (a ++ b))) else none
  | .Sub, .int i, .int j => some (.sh (.int (i - j)))
  | .Mult, .int i, .int j => if mulOk i j then some (.sh (.int (i * j))) else none
  | .Mult, .lst a, .int k => if ix63 k && fit (a.length * k.toNat) then some (.ow (.lst (List.replicate k.toNat a).flatten)) else none
  | .Mult, .str a, .int k => if ix63 k && fit (a.length * k.toNat) then some (.sh (.str (strRep a k.toNat))) else none
  | .FloorDiv, .int i, .int j => if divOk j then some (.sh (.int (i / j))) else none
  | .Mod, .int i, .int j => if decide (0 < j) then some (.sh (.int (i % j))) else none
  | .Pow, .int i, .int j => if powOk i j then some (.sh (.int (i ^ j.toNat))) else none
  | _, _, _ => none

theorem RpA.rep {M : KM} {G : Hp} {ds : List D} {vs : List V} (h : RpA M G ds vs) : ∀ k : Nat, RpA M G (List.replicate k ds).flatten (List.replicate k vs).flatten
  | 0 => RpA.nil
  | k + 1 => by
    rw [List.replicate_succ, List.replicate_succ, List.flatten_cons, List.flatten_cons]
    exact RpA.append h (RpA.rep h k)

theorem fit_le {n : Nat} (h : fit n = true) : n ≤ sizeLine := of_decide_eq_true h
theorem fold_cat (l : List Nat) : ∀ (k : Nat) (acc : List Nat), List.foldl (fun x1 x2 : Array Nat => x1 ++ x2) acc.toArray (List.replicate k l.toArray) = (acc ++ (List.replicate k l).flatten).toArray
  | 0, acc => by simp
  | k + 1, acc => by
    have e : acc.toArray ++ l.toArray = (acc ++ l).toArray := by simp
    have e2 : (acc ++ l) ++ (List.replicate k l).flatten = acc ++ (List.replicate (k + 1) l).flatten := by
      rw [List.replicate_succ, List.flatten_cons, List.append_assoc]
    rw [← e2, ← fold_cat l k (acc ++ l), ← e, List.replicate_succ, List.foldl_cons]
section
variable {X : Cx}
theorem op_repS : OpR X (binaryOp .Mult) (fun x y H Q => ∃ a k, x = .str a ∧ y = .int k ∧ ix63 k = true ∧ a.length * k.toNat ≤ sizeLine ∧ Q (.str (strRep a k.toNat)) H) := by
  intro pins s σ H x y v u Q I rx ry h
  obtain ⟨a, k, rfl, rfl, hk, hz, q⟩ := h
  obtain ⟨t, rfl⟩ := rx
  obtain ⟨t', rfl⟩ := ry
  have hk' : -(2 ^ 63) ≤ k ∧ k < 2 ^ 63 := by
    unfold ix63 at hk
    rw [Bool.and_eq_true] at hk
    exact ⟨of_decide_eq_true hk.1, of_decide_eq_true hk.2⟩
  obtain ⟨k1, k2⟩ := hk'
  have hn := sizeLine_eq
  have n1 : ¬ k < -(2 ^ 63 : Int) := by omega
  have n2 : ¬ k ≥ 2 ^ 63 := by omega
  refine PySem.P.mul_str (by rw [decide_eq_false n1, decide_eq_false n2]; rfl) (fun h1 h2 => ?_) (fun h1 h2 => ?_) ?_
  · have hk0 : 0 < k := by omega
    have hl : (a.length : Int) * k ≤ 16777216 := by
      have : a.length * k.toNat ≤ 16777216 := by omega
      have e : ((a.length * k.toNat : Nat) : Int) ≤ 16777216 := Int.ofNat_le.mpr this
      rw [Int.natCast_mul, Int.toNat_of_nonneg (by omega)] at e
      exact e
    have : (a.length : Int) ≤ (2 ^ 63 - 1) / k := (Int.le_ediv_iff_mul_le hk0).mpr (Int.le_trans hl (by decide))
    exact Int.not_lt.mpr this
  · unfold Builtin.Str.tooLong
    exact decide_eq_false (Nat.not_lt.mpr hz)
  · by_cases c1 : k < 1
    · rw [if_pos c1]
      have e : k.toNat = 0 := by omega
      have es : strRep a k.toNat = Str.empty := by rw [e]; rfl
      rw [es] at q
      exact ⟨by decide, .str Str.empty, H, I.tok _, ⟨_, rfl⟩, q⟩
    · rw [if_neg c1]
      by_cases c2 : (k == 1 || a.length == 0) = true
      · rw [if_pos c2]
        have es : strRep a k.toNat = a := by
          unfold strRep
          rcases Bool.or_eq_true_iff.mp c2 with c | c
          · have e : k = 1 := by simpa using c
            subst e
            simp
          · have e : a.length = 0 := by simpa using c
            have e2 : a.cps.toList = [] := by
              have : a.cps.toList.length = 0 := by simpa [Str.length] using e
              exact List.eq_nil_of_length_eq_zero this
            rw [e2]
            have : (List.replicate k.toNat ([] : List Nat)).flatten = [] := by simp
            rw [this]
            cases a
            congr
            exact e2.symm
        rw [es] at q
        exact ⟨.str a, H, I, ⟨_, rfl⟩, q⟩
      · rw [if_neg c2]
        have es : strRep a k.toNat = ⟨(List.replicate k.toNat a.cps).foldl (· ++ ·) #[]⟩ := by
          unfold strRep
          congr 1
          have := fold_cat a.cps.toList k.toNat []
          rw [List.nil_append] at this
          rw [← this]
        rw [es] at q
        refine ⟨?_, .str _, H, I.tok _, ⟨_, rfl⟩, q⟩
        rw [← es]
        show (strRep a k.toNat).cps.size ≤ sizeLine
        have : (strRep a k.toNat).cps.size = k.toNat * a.length := by
          unfold strRep
          simp [Str.length]
        rw [this, Nat.mul_comm]
        exact hz

theorem and_l {a b : Bool} (h : (a && b) = true) : a = true := (Bool.and_eq_true_iff.mp h).1
theorem and_r {a b : Bool} (h : (a && b) = true) : b = true := (Bool.and_eq_true_iff.mp h).2
theorem ix63_of {k : Int} (h : ix63 k = true) : -(2 ^ 63) ≤ k ∧ k < 2 ^ 63 := ⟨of_decide_eq_true (and_l h), of_decide_eq_true (and_r h)⟩
theorem if_some {α : Type} {c : Bool} {a r : α} (h : (if c = true then some a else none) = some r) : c = true ∧ a = r := by
  cases c with
  | true => exact ⟨rfl, Option.some.inj h⟩
  | false => cases h

theorem op_add' : OpR X (binaryOp .Add) (rD2 (kmOf X) (binD .Add)) := by
  intro pins s σ H x y v u Q I rx ry h
  obtain ⟨G, d, e, r, sg, h1, h2, hr, q⟩ := h
  cases d <;> cases e <;> try (cases hr; done)
  · cases hr
    cases h1.int
    cases h2.int
    exact op_add pins s σ H _ _ v u Q I rx ry ⟨_, _, rfl, rfl, q.sh sg rfl⟩
  · obtain ⟨hc, rfl⟩ := if_some hr
    cases h1.str
    cases h2.str
    exact op_add_str pins s σ H _ _ v u Q I rx ry ⟨_, _, rfl, rfl, fit_le hc, q.sh sg rfl⟩
  · obtain ⟨hc, rfl⟩ := if_some hr
    obtain ⟨a, xs, rfl, k1, k2⟩ := h1.tup sg
    obtain ⟨b, ys, rfl, k3, k4⟩ := h2.tup sg
    refine op_catA pins s σ H _ _ v u Q I rx ry ⟨a, b, xs, ys, rfl, rfl, k1, k3, ?_, fun e => ?_, fun e1 e2 => ?_, fun _ _ => q.tup sg (k2.append k4)⟩
    · rw [k2.length, k4.length]; exact fit_le hc
    · subst e
      rename_i ds es
      have : ds = [] := List.eq_nil_of_length_eq_zero k2.length.symm
      subst this
      exact h2.elim (fun z => q.sh sg z) fun ⟨_, _, z⟩ => z.elim
    · subst e2
      rename_i ds es
      have : es = [] := List.eq_nil_of_length_eq_zero k4.length.symm
      subst this
      rw [List.append_nil] at q
      exact h1.elim (fun z => q.sh sg z) fun ⟨_, _, z⟩ => z.elim
  · obtain ⟨hc, rfl⟩ := if_some hr
    obtain ⟨a, xs, rfl, k1, k2⟩ := h1.lst sg
    obtain ⟨b, ys, rfl, k3, k4⟩ := h2.lst sg
    exact op_cat pins s σ H _ _ v u Q I rx ry ⟨a, b, xs, ys, rfl, rfl, k1, k3, by rw [k2.length, k4.length]; exact fit_le hc, q.lst sg (k2.append k4)⟩
theorem op_int2 {op : Operator} {C : Int → Int → Prop} {g : Int → Int → Int} {c : Int → Int → Bool} (ho : OpR X (binaryOp op) (rI C fun i j => .int (g i j))) (hc : ∀ i j, c i j = true → C i j)
    (hb : ∀ d e r, binD op d e = some r → ∃ i j, d = .int i ∧ e = .int j ∧ c i j = true ∧ r = .sh (.int (g i j))) : OpR X (binaryOp op) (rD2 (kmOf X) (binD op)) := by
  intro pins s σ H x y v u Q I rx ry h
  obtain ⟨G, d, e, r, sg, h1, h2, hr, q⟩ := h
  obtain ⟨i, j, rfl, rfl, k, rfl⟩ := hb _ _ _ hr
  cases h1.int
  cases h2.int
  exact ho pins s σ H _ _ v u Q I rx ry ⟨_, _, rfl, rfl, hc i j k, q.sh sg rfl⟩
theorem op_sub' : OpR X (binaryOp .Sub) (rD2 (kmOf X) (binD .Sub)) := by
  intro pins s σ H x y v u Q I rx ry h
  obtain ⟨G, d, e, r, sg, h1, h2, hr, q⟩ := h
  cases d <;> cases e <;> try (cases hr; done)
  cases hr
  cases h1.int
  cases h2.int
  exact op_sub pins s σ H _ _ v u Q I rx ry ⟨_, _, rfl, rfl, q.sh sg rfl⟩
theorem op_mult' : OpR X (binaryOp .Mult) (rD2 (kmOf X) (binD .Mult)) := by
  intro pins s σ H x y v u Q I rx ry h
  obtain ⟨G, d, e, r, sg, h1, h2, hr, q⟩ := h
  cases d <;> cases e <;> try (cases hr; done)
  · obtain ⟨hc, rfl⟩ := if_some hr
    cases h1.int
    cases h2.int
    exact op_mulW pins s σ H _ _ v u Q I rx ry ⟨_, _, rfl, rfl, show _ < _ from of_decide_eq_true hc, q.sh sg rfl⟩
  · obtain ⟨hc, rfl⟩ := if_some hr
    cases h1.str
    cases h2.int
    exact op_repS pins s σ H _ _ v u Q I rx ry ⟨_, _, rfl, rfl, and_l hc, fit_le (and_r hc), q.sh sg rfl⟩
  · obtain ⟨hc, rfl⟩ := if_some hr
    obtain ⟨a, xs, rfl, k1, k2⟩ := h1.lst sg
    cases h2.int
    obtain ⟨i1, i2⟩ := ix63_of (and_l hc)
    exact op_rep pins s σ H _ _ v u Q I rx ry ⟨a, _, xs, rfl, rfl, k1, i1, i2, by rw [k2.length]; exact fit_le (and_r hc), q.lst sg (k2.rep _)⟩
theorem op_fdiv' : OpR X (binaryOp .FloorDiv) (rD2 (kmOf X) (binD .FloorDiv)) := op_int2 (c := fun _ j => divOk j) op_fdivW (fun i j h => ⟨of_decide_eq_true (and_l h), of_decide_eq_true (and_r h)⟩) fun d e r h => by
  cases d <;> cases e <;> try (cases h; done)
  obtain ⟨hc, rfl⟩ := if_some h
  exact ⟨_, _, rfl, rfl, hc, rfl⟩
theorem op_mod' : OpR X (binaryOp .Mod) (rD2 (kmOf X) (binD .Mod)) := op_int2 (c := fun _ j => decide (0 < j)) op_mod (fun i j h => of_decide_eq_true h) fun d e r h => by
  cases d <;> cases e <;> try (cases h; done)
  obtain ⟨hc, rfl⟩ := if_some h
  exact ⟨_, _, rfl, rfl, hc, rfl⟩
theorem op_pow' : OpR X (binaryOp .Pow) (rD2 (kmOf X) (binD .Pow)) := op_int2 (c := powOk) op_pow (fun i j h => ⟨of_decide_eq_true (and_l (and_l h)), of_decide_eq_true (and_r (and_l h)), of_decide_eq_true (and_r h)⟩) fun d e r h => by
  cases d <;> cases e <;> try (cases h; done)
  obtain ⟨hc, rfl⟩ := if_some h
  exact ⟨_, _, rfl, rfl, hc, rfl⟩
theorem op_binD : ∀ op : Operator, OpR X (binaryOp op) (rD2 (kmOf X) (binD op))
  | .Add => op_add'
  | .Sub => op_sub'
  | .Mult => op_mult'
  | .FloorDiv => op_fdiv'
  | .Mod => op_mod'
  | .Pow => op_pow'
  | .Div | .MatMult | .LShift | .RShift | .BitOr | .BitXor | .BitAnd => fun _ _ _ _ _ _ _ _ _ _ _ _ h => by
    obtain ⟨G, d, e, r, _, _, _, hr, _⟩ := h
    cases d <;> cases e <;> cases hr
end

/-! ### == and order -/
mutual
def toPy : D → Option PyData
  | .non => some .none
  | .bl b => some (.bool b)
  | .int i => some (.int i)
  | .str s => some (.str s)
  | .tup xs => (toPyA xs).map .tuple
  | .lst xs => (toPyA xs).map .list
  | .rol xs => (toPyA xs).map .list
  | .dic _ => none
  | .exc _ => none
def toPyA : List D → Option (List PyData)
  | [] => some []
  | d :: ds => match toPy d, toPyA ds with
    | some a, some b => some (a :: b)
    | _, _ => none
end
mutual
theorem Rp.dp {M : KM} {G H : Hp} (s : Same G H) : ∀ (d : D) {v : V} {p : PyData}, Rp M G d v → toPy d = some p → Dp M.K H v p
  | .non, _, _, h, e => by cases e; rw [show _ = V.non from h]; exact .non
  | .bl b, _, _, h, e => by cases e; rw [show _ = V.bl b from h]; exact .bl b
  | .int i, _, _, h, e => by cases e; rw [show _ = V.int i from h]; exact .int i
  | .str x, _, _, h, e => by cases e; rw [show _ = V.str x from h]; exact .str x
  | .tup ds, _, _, ⟨a, xs, e1, h1, h2⟩, e => by
    obtain ⟨ps, e2, rfl⟩ := Option.map_eq_some_iff.mp e
    rw [e1]
    exact .tup (Same.seqT s h1) (RpA.dp s ds h2 e2)
  | .lst ds, _, _, ⟨a, xs, e1, h1, h2⟩, e => by
    obtain ⟨ps, e2, rfl⟩ := Option.map_eq_some_iff.mp e
    rw [e1]
    exact .lst (SqL.of (s _ _ h1)) (RpA.dp s ds h2 e2)
  | .rol ds, _, _, ⟨a, xs, e1, h1, h2⟩, e => by
    obtain ⟨ps, e2, rfl⟩ := Option.map_eq_some_iff.mp e
    rw [e1]
    exact .lst (Same.seq s h1) (RpA.dp s ds h2 e2)
theorem RpA.dp {M : KM} {G H : Hp} (s : Same G H) : ∀ (ds : List D) {vs : List V} {ps : List PyData}, RpA M G ds vs → toPyA ds = some ps → DpAll M.K H vs ps
  | [], _, _, h, e => by cases e; rw [show _ = [] from h]; exact .nil
  | d :: ds, _, _, ⟨v, r, e1, h1, h2⟩, e => by
    rw [e1]
    unfold toPyA at e
    split at e
    · rename_i a b q1 q2
      cases e
      exact .cons (Rp.dp s d h1 q1) (RpA.dp s ds h2 q2)
    · cases e
end
theorem Lk.dp {M : KM} {G H : Hp} (s : Same G H) {d : D} {v : V} {p : PyData} (h : Lk M G H d v) (e : toPy d = some p) : Dp M.K H v p := by
  rcases h with h | ⟨q, rfl, h⟩
  · exact Rp.dp s d h e
  · cases d with
    | lst ds =>
      obtain ⟨vs, h1, h2⟩ := h
      obtain ⟨ps, e2, rfl⟩ := Option.map_eq_some_iff.mp e
      exact .lst (SqL.of h1) (RpA.dp s ds h2 e2)
    | _ => first | exact h.elim | cases e
/-- ==, where the model's rule tells it -/
def eqG (d e : D) : Option Bool := match toPy d, toPy e with
  | some a, some b => if SeqAt.shaped a && SeqAt.shaped b then some (PyData.eqv a b) else none
  | _, _ => none
def eqD : D → D → Option Bool
  | .str a, .str b => some (decide (a = b))
  | .int a, .int b => some (decide (a = b))
  | d, e => eqG d e
def strIn (i j : Str) : Bool := !(Builtin.Str.occurrences j i 0 j.length 1).isEmpty
def flatD : D → Bool
  | .non => true | .bl _ => true | .int _ => true | .str _ => true | _ => false
def flatEq : D → D → Bool
  | .non, .non => true
  | .bl a, .bl b => a == b
  | .bl a, .int b => (if a then 1 else 0) == b
  | .int a, .bl b => a == (if b then 1 else 0)
  | .int a, .int b => a == b
  | .str a, .str b => a == b
  | _, _ => false
/-- in a list, in a tuple of scalars, in a text -/
def inD : D → D → Option Bool
  | .str a, .str b => some (strIn a b)
  | d, .lst ds => if flatD d && ds.all flatD then some (ds.any fun z => flatEq z d) else match toPy d, toPyA ds with
    | some a, some b => if SeqAt.shaped a && SeqAt.shaped (.list b) then some (b.any fun z => PyData.eqv z a) else none
    | _, _ => none
  | d, .tup ds => if flatD d && ds.all flatD then some (ds.any fun z => flatEq z d) else none
  | _, _ => none
def ltStr (a b : Str) : Bool := decide (a.cps.toList < b.cps.toList)
def cmpD : CmpOp → D → D → Option Bool
  | .Eq, d, e => eqD d e
  | .NotEq, d, e => (eqD d e).map not
  | .Lt, .int i, .int j => some (decide (i < j))
  | .LtE, .int i, .int j => some (decide (i ≤ j))
  | .Gt, .int i, .int j => some (decide (j < i))
  | .GtE, .int i, .int j => some (decide (j ≤ i))
  | .Lt, .str i, .str j => some (ltStr i j)
  | .In, d, e => inD d e
  | .NotIn, d, e => (inD d e).map not
  | .Is, .non, .non => some true
  | .Is, .bl _, .non => some false
  | .Is, .int _, .non => some false
  | .Is, .str _, .non => some false
  | .Is, .tup _, .non => some false
  | .Is, .lst _, .non => some false
  | .Is, .dic _, .non => some false
  | .Is, .exc _, .non => some false
  | .IsNot, .non, .non => some false
  | .IsNot, .bl _, .non => some true
  | .IsNot, .int _, .non => some true
  | .IsNot, .str _, .non => some true
  | .IsNot, .tup _, .non => some true
  | .IsNot, .lst _, .non => some true
  | .IsNot, .dic _, .non => some true
  | .IsNot, .exc _, .non => some true
  | _, _, _ => none
def rC2 (M : KM) (φ : D → D → Option Bool) : R2 := fun x y H Q => ∃ G d e b, Same G H ∧ Lk M G H d x ∧ Lk M G H e y ∧ φ d e = some b ∧ Q (.bl b) H
section
variable {X : Cx}
theorem eqG_some {d e : D} {b : Bool} (h : eqG d e = some b) : ∃ p q, toPy d = some p ∧ toPy e = some q ∧ SeqAt.shaped p = true ∧ SeqAt.shaped q = true ∧ b = PyData.eqv p q := by
  unfold eqG at h
  split at h
  · rename_i a b' e1 e2
    obtain ⟨hc, rfl⟩ := if_some h
    exact ⟨a, b', e1, e2, and_l hc, and_r hc, rfl⟩
  · cases h
theorem op_eq' (hu : X.A.units + 64 < cLine) : OpR X (compareOp .Eq) (rC2 (kmOf X) eqD) := by
  intro pins s σ H x y v u Q I rx ry h
  obtain ⟨G, d, e, b, sg, h1, h2, hr, q⟩ := h
  have gen : eqG d e = some b → wpAny (model X.prog X.w) X.A (compareOp .Eq v u) (EP X pins σ Q) X.xe s := fun z => by
    obtain ⟨p, p', e1, e2, s1, s2, rfl⟩ := eqG_some z
    exact op_eqD hu pins s σ H _ _ v u Q I rx ry ⟨p, p', h1.dp sg e1, h2.dp sg e2, s1, s2, q⟩
  unfold eqD at hr
  split at hr
  · cases hr
    cases h1.str
    cases h2.str
    refine op_eq pins s σ H _ _ v u Q I rx ry ⟨rfl, ?_⟩
    simpa using q
  · cases hr
    cases h1.int
    cases h2.int
    refine op_eq pins s σ H _ _ v u Q I rx ry ⟨rfl, ?_⟩
    simpa using q
  · exact gen hr
theorem op_ne' (hu : X.A.units + 64 < cLine) : OpR X (compareOp .NotEq) (rC2 (kmOf X) fun d e => (eqD d e).map not) := by
  intro pins s σ H x y v u Q I rx ry h
  obtain ⟨G, d, e, b, sg, h1, h2, hr, q⟩ := h
  have hr1 := Option.map_eq_some_iff.mp hr
  clear hr
  obtain ⟨c, hr, rfl⟩ := hr1
  have gen : eqG d e = some c → wpAny (model X.prog X.w) X.A (compareOp .NotEq v u) (EP X pins σ Q) X.xe s := fun z => by
    obtain ⟨p, p', e1, e2, s1, s2, rfl⟩ := eqG_some z
    exact op_neD hu pins s σ H _ _ v u Q I rx ry ⟨p, p', h1.dp sg e1, h2.dp sg e2, s1, s2, q⟩
  unfold eqD at hr
  split at hr
  · cases hr
    cases h1.str
    cases h2.str
    refine op_ne pins s σ H _ _ v u Q I rx ry ⟨rfl, ?_⟩
    simpa using q
  · cases hr
    cases h1.int
    cases h2.int
    refine op_ne pins s σ H _ _ v u Q I rx ry ⟨rfl, ?_⟩
    simpa using q
  · exact gen hr
theorem flat_lk {M : KM} {G H : Hp} {d : D} {x : V} (h : Lk M G H d x) (f : flatD d = true) : flatV x = true := by
  cases d <;> first
    | (cases f; done)
    | (cases h.non; rfl)
    | (cases h.bl; rfl)
    | (cases h.int; rfl)
    | (cases h.str; rfl)
theorem flat_eqV {M : KM} {G H G' H' : Hp} {d e : D} {x y : V} (h : Lk M G H d x) (h' : Lk M G' H' e y) (f : flatD d = true) (f' : flatD e = true) : eqV x y = flatEq d e := by
  cases d <;> first | (cases f; done) | skip
  all_goals (cases e <;> first | (cases f'; done) | skip)
  all_goals
    first | (cases h.non) | (cases h.bl) | (cases h.int) | (cases h.str)
    first | (cases h'.non) | (cases h'.bl) | (cases h'.int) | (cases h'.str)
    rfl
theorem flat_all {M : KM} {G : Hp} : ∀ {ds : List D} {xs : List V}, RpA M G ds xs → ds.all flatD = true → xs.all flatV = true
  | [], _, h, _ => by rw [show _ = [] from h]; rfl
  | d :: ds, _, ⟨v, r, e, h1, h2⟩, f => by
    rw [List.all_cons] at f
    rw [e, List.all_cons, flat_lk (H := G) (Lk.of h1) (and_l f), flat_all h2 (and_r f)]; rfl
theorem flat_any {M : KM} {G H : Hp} {d : D} {x : V} (h : Lk M G H d x) (f : flatD d = true) : ∀ {ds : List D} {xs : List V}, RpA M G ds xs → ds.all flatD = true → inV x xs = ds.any fun z => flatEq z d
  | [], _, h, _ => by rw [show _ = [] from h]; rfl
  | d' :: ds, _, ⟨v, r, e, h1, h2⟩, k => by
    rw [List.all_cons] at k
    have ih := flat_any h f h2 (and_r k)
    unfold inV at ih ⊢
    rw [e, List.any_cons, List.any_cons, ih, flat_eqV (H := H) (Lk.of h1) h (and_l k) f]
theorem any_eqv {a : PyData} {b : List PyData} : (b.any fun z => PyData.eqv z a) = (b.any fun z => PyData.eqv z a) := rfl
theorem op_in' (hu : X.A.units + 65 < cLine) : OpR X (compareOp .In) (rC2 (kmOf X) inD) := by
  intro pins s σ H x y v u Q I rx ry h
  obtain ⟨G, d, e, b, sg, h1, h2, hr, q⟩ := h
  unfold inD at hr
  split at hr
  · cases hr
    cases h1.str
    cases h2.str
    exact op_in_str pins s σ H _ _ v u Q I rx ry ⟨_, _, rfl, rfl, q⟩
  · obtain ⟨a, xs, rfl, k1, k2⟩ := h2.lst sg
    split at hr
    · rename_i c
      cases hr
      refine op_in_seq pins s σ H _ _ v u Q I rx ry ⟨a, xs, rfl, .inl (SqL.of k1), flat_lk h1 (and_l c), flat_all k2 (and_r c), ?_⟩
      rw [flat_any h1 (and_l c) k2 (and_r c)]
      exact q
    · split at hr
      · rename_i p ps e1 e2
        obtain ⟨hc, rfl⟩ := if_some hr
        exact op_inD hu pins s σ H _ _ v u Q I rx ry ⟨p, ps, h1.dp sg e1, .lst (SqL.of k1) (RpA.dp sg _ k2 e2), and_l hc, and_r hc, q⟩
      · cases hr
  · obtain ⟨a, xs, rfl, k1, k2⟩ := h2.tup sg
    obtain ⟨c, rfl⟩ := if_some hr
    refine op_in_seq pins s σ H _ _ v u Q I rx ry ⟨a, xs, rfl, .inr k1, flat_lk h1 (and_l c), flat_all k2 (and_r c), ?_⟩
    rw [flat_any h1 (and_l c) k2 (and_r c)]
    exact q
  · cases hr
theorem op_nin' (hu : X.A.units + 65 < cLine) : OpR X (compareOp .NotIn) (rC2 (kmOf X) fun d e => (inD d e).map not) := by
  intro pins s σ H x y v u Q I rx ry h
  obtain ⟨G, d, e, b, sg, h1, h2, hr, q⟩ := h
  have hr1 := Option.map_eq_some_iff.mp hr
  clear hr
  obtain ⟨b, hr, rfl⟩ := hr1
  unfold inD at hr
  split at hr
  · cases hr
    cases h1.str
    cases h2.str
    exact op_notin_str pins s σ H _ _ v u Q I rx ry ⟨_, _, rfl, rfl, q⟩
  · obtain ⟨a, xs, rfl, k1, k2⟩ := h2.lst sg
    split at hr
    · rename_i c
      cases hr
      refine op_notIn_seq pins s σ H _ _ v u Q I rx ry ⟨a, xs, rfl, .inl (SqL.of k1), flat_lk h1 (and_l c), flat_all k2 (and_r c), ?_⟩
      rw [flat_any h1 (and_l c) k2 (and_r c)]
      exact q
    · split at hr
      · rename_i p ps e1 e2
        obtain ⟨hc, rfl⟩ := if_some hr
        exact op_notInD hu pins s σ H _ _ v u Q I rx ry ⟨p, ps, h1.dp sg e1, .lst (SqL.of k1) (RpA.dp sg _ k2 e2), and_l hc, and_r hc, q⟩
      · cases hr
  · obtain ⟨a, xs, rfl, k1, k2⟩ := h2.tup sg
    obtain ⟨c, rfl⟩ := if_some hr
    refine op_notIn_seq pins s σ H _ _ v u Q I rx ry ⟨a, xs, rfl, .inr k1, flat_lk h1 (and_l c), flat_all k2 (and_r c), ?_⟩
    rw [flat_any h1 (and_l c) k2 (and_r c)]
    exact q
  · cases hr
theorem lk_isnon {M : KM} {G H : Hp} {d : D} {x : V} (h : Lk M G H d x) : ∀ b, cmpD .Is d .non = some b → decide (x = .non) = b := by
  intro b hb
  cases d with
  | non => cases hb; cases h.non; rfl
  | bl _ => cases hb; cases h.bl; rfl
  | int _ => cases hb; cases h.int; rfl
  | str _ => cases hb; cases h.str; rfl
  | rol _ => cases hb
  | _ =>
    cases hb
    refine decide_eq_false fun z => ?_
    subst z
    rcases h with h | ⟨_, e, _⟩
    · first
        | (obtain ⟨_, _, e, _⟩ := h; cases e)
    · cases e
theorem is_isnot (d : D) : cmpD .IsNot d .non = (cmpD .Is d .non).map not := by cases d <;> rfl
theorem op_int_cmp {op : CmpOp} {g : Int → Int → Bool} (ho : OpR X (compareOp op) (rI0 fun i j => .bl (g i j))) (hb : ∀ d e r, cmpD op d e = some r → ∃ i j, d = .int i ∧ e = .int j ∧ r = g i j) : OpR X (compareOp op) (rC2 (kmOf X) (cmpD op)) := by
  intro pins s σ H x y v u Q I rx ry h
  obtain ⟨G, d, e, r, sg, h1, h2, hr, q⟩ := h
  obtain ⟨i, j, rfl, rfl, rfl⟩ := hb _ _ _ hr
  cases h1.int
  cases h2.int
  exact ho pins s σ H _ _ v u Q I rx ry ⟨_, _, rfl, rfl, q⟩
theorem op_cmpD (hu : X.A.units + 65 < cLine) : ∀ op : CmpOp, OpR X (compareOp op) (rC2 (kmOf X) (cmpD op))
  | .Eq => op_eq' (by omega)
  | .NotEq => op_ne' (by omega)
  | .In => op_in' hu
  | .NotIn => op_nin' hu
  | .LtE => op_int_cmp op_le fun d e r h => by cases d <;> cases e <;> first | (cases h; done) | exact ⟨_, _, rfl, rfl, (Option.some.inj h).symm⟩
  | .Gt => op_int_cmp op_gt fun d e r h => by cases d <;> cases e <;> first | (cases h; done) | exact ⟨_, _, rfl, rfl, (Option.some.inj h).symm⟩
  | .GtE => op_int_cmp op_ge fun d e r h => by cases d <;> cases e <;> first | (cases h; done) | exact ⟨_, _, rfl, rfl, (Option.some.inj h).symm⟩
  | .Lt => by
    intro pins s σ H x y v u Q I rx ry h
    obtain ⟨G, d, e, r, sg, h1, h2, hr, q⟩ := h
    cases d <;> cases e <;> try (cases hr; done)
    · cases hr
      cases h1.int
      cases h2.int
      exact op_lt pins s σ H _ _ v u Q I rx ry ⟨_, _, rfl, rfl, q⟩
    · cases hr
      cases h1.str
      cases h2.str
      exact op_lt_str pins s σ H _ _ v u Q I rx ry ⟨_, _, rfl, rfl, q⟩
  | .Is => by
    intro pins s σ H x y v u Q I rx ry h
    obtain ⟨G, d, e, r, sg, h1, h2, hr, q⟩ := h
    have he : e = .non := by cases e <;> cases d <;> first | rfl | cases hr
    subst he
    cases h2.non
    refine op_isN pins s σ H _ _ v u Q I rx ry ⟨rfl, ?_⟩
    rw [lk_isnon h1 r hr]
    exact q
  | .IsNot => by
    intro pins s σ H x y v u Q I rx ry h
    obtain ⟨G, d, e, r, sg, h1, h2, hr, q⟩ := h
    have he : e = .non := by cases e <;> cases d <;> first | rfl | cases hr
    subst he
    cases h2.non
    rw [is_isnot] at hr
    obtain ⟨b, hb, rfl⟩ := Option.map_eq_some_iff.mp hr
    refine op_notN pins s σ H _ _ v u Q I rx ry ⟨rfl, ?_⟩
    rw [lk_isnon h1 b hb]
    exact q
end
end PV
/-! PVC: expressions as closures. -/
namespace PV
open PySem PySem.Spec PyProof.Rows L2

abbrev EV := List Sl → Out R
abbrev BV := List Sl → Out Bool
abbrev AV := List Sl → Out (List R)
abbrev PD (X : Cx) (W : WX) (e : Expr) (f : EV) : Prop := PE X e (tD (kmOf X) W f)
abbrev PB (X : Cx) (W : WX) (e : Expr) (f : BV) : Prop := PT X e (tB' (kmOf X) W f)
abbrev PR (X : Cx) (W : WX) (es : List Expr) (f : AV) : Prop := PA X es (tA' (kmOf X) W f)

/-- a new container, when it is handed on, is shared -/
def stl : R → R
  | .ow d => .sh d
  | r => r
def look (r : R) (δ : List Sl) : Option D := match r with
  | .sh d => some d
  | .ow d => some d
  | .nm i => match δ[i]? with
    | some (.sh d) => some d
    | some (.ow _ d) => some d
    | _ => none
/-- as data, shared from now on -/
def leak (r : R) (δ : List Sl) : Out D := match r with
  | .sh d => .ok d δ
  | .ow d => .ok d δ
  | .nm i => match δ[i]? with
    | some (.sh d) => .ok d δ
    | some (.ow false d) => .ok d (δ.set i (.sh d))
    | _ => .st
def ofO {α : Type} (o : Option α) (δ : List Sl) : Out α := match o with
  | some a => .ok a δ
  | none => .st

section
variable {M : KM} {F : Fm} {δ : List Sl} {σ : Sg} {P : Nat → Addr} {G G' H H' : Hp} {W : WX} {Q : VK}
theorem SR.settle {r : R} {v : V} (S : SR M F δ σ P G H) (h : RR M F δ σ P G H r v) : ∃ G', SR M F δ σ P G' H ∧ Same G G' ∧ RR M F δ σ P G' H (stl r) v := by
  cases r with
  | sh d => exact ⟨G, S, Same.refl _, h⟩
  | nm i => exact ⟨G, S, Same.refl _, h⟩
  | ow d =>
    obtain ⟨q, e, _⟩ := id h
    subst e
    exact S.freezeT h
/-- a settled answer stays -/
theorem RR.keep {δ' : List Sl} {P' : Nat → Addr} {r : R} {v : V} (h : RR M F δ σ P G H (stl r) v) (g : Same G G') : RR M F δ' σ P' G' H' (stl r) v := by
  cases r with
  | sh d => exact Rp.mono g d h
  | nm i => exact h
  | ow d => exact Rp.mono g d h
theorem stl_stl (r : R) : stl (stl r) = stl r := by cases r <;> rfl
theorem SR.lk {r : R} {v : V} {d : D} (S : SR M F δ σ P G H) (h : RR M F δ σ P G H (stl r) v) (e : look (stl r) δ = some d) : Lk M G H d v := by
  cases r with
  | sh d' => cases e; exact .inl h
  | ow d' => cases e; exact .inl h
  | nm i =>
    have e' : (match δ[i]? with
      | some (.sh d) => some d
      | some (.ow _ d) => some d
      | _ => none) = some d := e
    split at e'
    · rename_i d' q
      cases e'
      obtain ⟨u, h1, h2⟩ := S.sh i _ q
      rw [show σ[i]? = some (some v) from h] at h1
      cases h1
      exact .inl h2
    · rename_i b d' q
      cases e'
      obtain ⟨h1, h2, _⟩ := S.ow i _ _ q
      rw [show σ[i]? = some (some v) from h] at h1
      cases h1
      exact .inr ⟨_, rfl, h2⟩
    · cases e'
theorem SR.leak {r : R} {v : V} {d : D} {δ' : List Sl} (S : SR M F δ σ P G H) (h : RR M F δ σ P G H (stl r) v) (e : leak (stl r) δ = .ok d δ') : ∃ G', SR M F δ' σ P G' H ∧ Same G G' ∧ Rp M G' d v := by
  cases r with
  | sh d' => cases e; exact ⟨G, S, Same.refl _, h⟩
  | ow d' => cases e; exact ⟨G, S, Same.refl _, h⟩
  | nm i =>
    have e' : (match δ[i]? with
      | some (.sh d) => Out.ok d δ
      | some (.ow false d) => .ok d (δ.set i (.sh d))
      | _ => .st) = Out.ok d δ' := e
    split at e'
    · rename_i d' q
      cases e'
      obtain ⟨u, h1, h2⟩ := S.sh i _ q
      rw [show σ[i]? = some (some v) from h] at h1
      cases h1
      exact ⟨G, S, Same.refl _, h2⟩
    · rename_i d' q
      cases e'
      obtain ⟨h1, h2, _⟩ := S.ow i _ _ q
      rw [show σ[i]? = some (some v) from h] at h1
      cases h1
      exact S.freeze q
    · cases e'
theorem leak_cases (r : R) (δ : List Sl) : (∃ d δ', leak r δ = .ok d δ') ∨ leak r δ = .st := by
  cases r with
  | sh d => exact .inl ⟨_, _, rfl⟩
  | ow d => exact .inl ⟨_, _, rfl⟩
  | nm i =>
    unfold leak
    dsimp only
    split
    · exact .inl ⟨_, _, rfl⟩
    · exact .inl ⟨_, _, rfl⟩
    · exact .inr rfl
/-- what a built-in yields, from a closure's answer -/
theorem nq_of {r : R} (S : SR M F δ σ P G H) (h : EPost M W F σ G Q (.ok r δ)) : NQ M G H r Q := by
  intro v G' H' x rn
  refine h P G' H' (S.ext x) x.g v ?_
  cases r with
  | sh d => exact rn
  | ow d =>
    obtain ⟨q, e, h1, h2, h3⟩ := rn
    subst e
    exact S.rr_new x h2 h3 h1
  | nm i => exact rn.elim
theorem post_ofO {α : Type} {q : α → List Sl → (Nat → Addr) → Hp → Hp → Prop} {o : Option α} (h : Post M W F σ G q (ofO o δ)) : ∃ a, o = some a ∧ Post M W F σ G q (.ok a δ) := by
  cases o with
  | some a => exact ⟨a, rfl, h⟩
  | none => exact h.elim
end

/-! ### the smallest -/
def cVar (i : Nat) : EV := fun δ => match δ[i]? with
  | some (.sh d) => .ok (.sh d) δ
  | some (.ow _ _) => .ok (.nm i) δ
  | _ => .st
def cC (d : D) : EV := fun δ => .ok (.sh d) δ
section
variable {X : Cx} {W : WX} {pos : Pos} {a b c : Expr} {fa fb fc : EV}
theorem pd_var {i : Nat} {x : Str} (hN : X.N[i]? = some x) (hv : Vis X.env.scope x) (hd : (x == ("__debug__" : Str)) = false) (hcd : (x == ("__classdict__" : Str)) = false) : PD X W (.Name x pos) (cVar i) := by
  refine (pe_var hN hv hd hcd).weak fun σ H Q h => ?_
  obtain ⟨F, δ, P, G, S, h⟩ := h
  unfold cVar at h
  split at h
  · rename_i d e
    obtain ⟨v, h1, h2⟩ := S.sh i d e
    exact ⟨v, h1, h P G H S (Same.refl _) v h2⟩
  · rename_i b d e
    obtain ⟨h1, h2, _⟩ := S.ow i b d e
    exact ⟨_, h1, h P G H S (Same.refl _) _ h1⟩
  · exact h.elim
theorem pd_c {e : Expr} {d : D} {v : V} (h : PE X e (tC v)) (r : ∀ G, Rp (kmOf X) G d v) : PD X W e (cC d) := by
  refine h.weak fun σ H Q h => ?_
  obtain ⟨F, δ, P, G, S, h⟩ := h
  exact h P G H S (Same.refl _) v (r G)

/-! ### two operands -/
def c2 (φ : D → D → Option R) (fa fb : EV) : EV := fun δ => (fa δ).bind fun ra δ1 => (fb δ1).bind fun rb δ2 => match look (stl ra) δ2, look (stl rb) δ2 with
  | some d, some e => ofO (φ d e) δ2
  | _, _ => .st
theorem run2 {φ : D → D → Option R} {t : R2} {σ : Sg} {H : Hp} {Q : VK} (h : tD (kmOf X) W (c2 φ fa fb) σ H Q) (ht : ∀ x y H, rD2 (kmOf X) φ x y H Q → t x y H Q) : tOp t (tD (kmOf X) W fa) (tD (kmOf X) W fb) σ H Q := by
  obtain ⟨F, δ, P, G, S, h⟩ := h
  refine ⟨F, δ, P, G, S, Post.bind h fun ra δ1 P1 G1 H1 S1 g1 h1 v r1 => ?_⟩
  obtain ⟨G1', S1', g1', r1'⟩ := S1.settle r1
  refine ⟨F, δ1, P1, G1', S1', Post.bind (h1.base g1') fun rb δ2 P2 G2 H2 S2 g2 h2 u r2 => ?_⟩
  obtain ⟨G2', S2', g2', r2'⟩ := S2.settle r2
  have h2 := h2.base g2'
  split at h2
  · rename_i d e e1 e2
    obtain ⟨r, hr, h3⟩ := post_ofO h2
    exact ht _ _ _ ⟨G2', d, e, r, S2'.g, S2'.lk (r1'.keep (g2.trans g2')) e1, S2'.lk r2' e2, hr, nq_of S2' h3⟩
  · exact h2.elim
theorem pd_op2 {φ : D → D → Option R} {op : Operator} (ho : OpR X (binaryOp op) (rD2 (kmOf X) φ)) (ha : PD X W a fa) (hb : PD X W b fb) : PD X W (.BinOp a op b pos) (c2 φ fa fb) :=
  (pe_op ho ha hb).weak fun σ H Q h => run2 h fun _ _ _ z => z
def cBin (op : Operator) (fa fb : EV) : EV := c2 (binD op) fa fb
theorem pd_bin {op : Operator} (ha : PD X W a fa) (hb : PD X W b fb) : PD X W (.BinOp a op b pos) (cBin op fa fb) := pd_op2 (op_binD op) ha hb

/-! ### comparisons, chains -/
def cmpR (op : CmpOp) (ra rb : R) (δ : List Sl) : Out Bool := match look (stl ra) δ, look (stl rb) δ with
  | some d, some e => ofO (cmpD op d e) δ
  | _, _ => .st
def cLinks (ra : R) : List (CmpOp × EV) → BV
  | [], _ => .st
  | [(op, fb)], δ => (fb δ).bind fun rb δ2 => cmpR op ra rb δ2
  | (op, fb) :: l, δ => (fb δ).bind fun rb δ2 => (cmpR op ra rb δ2).bind fun k δ3 => if k = true then cLinks rb l δ3 else .ok false δ3
def cChainB (fa : EV) (l : List (CmpOp × EV)) : BV := fun δ => (fa δ).bind fun ra δ1 => cLinks ra l δ1
def asV (f : BV) : EV := fun δ => (f δ).bind fun b δ' => .ok (.sh (.bl b)) δ'

theorem run_cmp {op : CmpOp} {pins : List (Addr × Obj)} {s : Shared} {σ : Sg} {F : Fm} {δ : List Sl} {P : Nat → Addr} {G H : Hp} {ra rb : R} {x y : V} {v u : Value} {q : Bool → List Sl → (Nat → Addr) → Hp → Hp → Prop} {Q : Value → Shared → Prop}
    (hu : X.A.units + 65 < cLine) (I : Inv X pins σ H s) (S : SR (kmOf X) F δ σ P G H) (r1 : RR (kmOf X) F δ σ P G H (stl ra) x) (r2 : RR (kmOf X) F δ σ P G H (stl rb) y) (rx : RelV x v) (ry : RelV y u)
    (h : Post (kmOf X) W F σ G q (cmpR op ra rb δ)) (hq : ∀ b s1, Inv X pins σ H s1 → cmpR op ra rb δ = .ok b δ → Post (kmOf X) W F σ G q (.ok b δ) → Q (.bool b) s1) : wpAny (model X.prog X.w) X.A (compareOp op v u) Q X.xe s := by
  unfold cmpR at h hq
  split at h
  · rename_i d e e1 e2
    obtain ⟨b, hr, h3⟩ := post_ofO h
    refine thn (op_cmpD hu op pins s σ H x y v u (fun z H1 => z = .bl b ∧ H1 = H) I rx ry ⟨G, d, e, b, S.g, S.lk r1 e1, S.lk r2 e2, hr, rfl, rfl⟩) fun z s1 ⟨w', H1, I1, rz, e3, e4⟩ => ?_
    subst e3 e4
    cases rz
    refine hq b s1 I1 ?_ h3
    rw [e1, e2]
    show ofO (cmpD op d e) δ = _
    rw [hr]
    rfl
  · exact h.elim

/-- the operands behind, by their closures -/
inductive Lnk (X : Cx) (W : WX) : List CmpOp → List Expr → List (CmpOp × EV) → Prop
  | one {op b fb} : PD X W b fb → Lnk X W [op] [b] [(op, fb)]
  | cons {op b fb ops bs l} : PD X W b fb → Lnk X W ops bs l → Lnk X W (op :: ops) (b :: bs) ((op, fb) :: l)
theorem Lnk.shape {ops : List CmpOp} {bs : List Expr} {l : List (CmpOp × EV)} (h : Lnk X W ops bs l) : ∃ op ops' b bs' p l', ops = op :: ops' ∧ bs = b :: bs' ∧ l = p :: l' := by
  cases h with
  | one _ => exact ⟨_, _, _, _, _, _, rfl, rfl, rfl⟩
  | cons _ _ => exact ⟨_, _, _, _, _, _, rfl, rfl, rfl⟩
theorem run_links (hu : X.A.units + 65 < cLine) {ops : List CmpOp} {bs : List Expr} {l : List (CmpOp × EV)} (h : Lnk X W ops bs l) :
    ∀ (pins : List (Addr × Obj)) (s : Shared) (σ : Sg) (H : Hp) (F : Fm) (δ : List Sl) (P : Nat → Addr) (G : Hp) (ra : R) (x : V) (v : Value) (q : Bool → List Sl → (Nat → Addr) → Hp → Hp → Prop),
      Inv X pins σ H s → SR (kmOf X) F δ σ P G H → RR (kmOf X) F δ σ P G H (stl ra) x → RelV x v → Post (kmOf X) W F σ G q (cLinks ra l δ) →
      wpAny (model X.prog X.w) X.A (compareChain pos v ops (evalEach bs X.env)) (fun z s1 => ∃ b H1 δ1 P1 G1, z = .bool b ∧ Inv X pins σ H1 s1 ∧ q b δ1 P1 G1 H1) X.xe s ∧
      wpAny (model X.prog X.w) X.A (testChain pos v ops (evalEach bs X.env)) (fun b s1 => ∃ H1 δ1 P1 G1, Inv X pins σ H1 s1 ∧ q b δ1 P1 G1 H1) X.xe s := by
  induction h with
  | @one op b fb hb =>
    intro pins s σ H F δ P G ra x v q I S r1 rx hp
    have core : ∀ Q : Value → Shared → Prop, (∀ z s1, (∃ b H1 δ1 P1 G1, z = .bool b ∧ Inv X pins σ H1 s1 ∧ q b δ1 P1 G1 H1) → Q z s1) →
        wpAny (model X.prog X.w) X.A (eval b X.env) (fun b' s₁ => wpAny (model X.prog X.w) X.A (compareOp op v b') Q X.xe s₁) X.xe s := fun Q hQ => by
      have hb' := hb.run pins s σ H (fun y H1 => ∃ δ1 P1 G1 rb, SR (kmOf X) F δ1 σ P1 G1 H1 ∧ Same G G1 ∧ RR (kmOf X) F δ1 σ P1 G1 H1 (stl rb) y ∧ Post (kmOf X) W F σ G1 q (cmpR op ra rb δ1)) I
        ⟨F, δ, P, G, S, Post.bind hp fun rb δ1 P1 G1 H1 S1 g1 h1 u r2 => by
          obtain ⟨G1', S1', g1', r2'⟩ := S1.settle r2
          exact ⟨δ1, P1, G1', rb, S1', g1.trans g1', r2', h1.base g1'⟩⟩
      refine thn hb' fun u s1 ⟨y, H1, I1, ry, δ1, P1, G1, rb, S1, g1, r2, h2⟩ => ?_
      exact run_cmp hu I1 S1 (r1.keep g1) r2 rx ry h2 fun b' s2 I2 _ h3 => hQ _ _ ⟨b', H1, δ1, P1, G1, rfl, I2, h3 P1 G1 H1 S1 (Same.refl _)⟩
    refine ⟨chain_last (core _ fun z s1 h => h), test_last (core _ fun z s1 ⟨b', H1, δ1, P1, G1, e, I1, h1⟩ => ?_)⟩
    subst e
    exact wpAny_truthy_bool ⟨H1, δ1, P1, G1, I1, h1⟩
  | @cons op b fb ops bs l hb hl ih =>
    intro pins s σ H F δ P G ra x v q I S r1 rx hp
    obtain ⟨op', ops', b', bs', p', l', rfl, rfl, rfl⟩ := hl.shape
    have hp' : Post (kmOf X) W F σ G q ((fb δ).bind fun rb δ2 => (cmpR op ra rb δ2).bind fun k δ3 => if k = true then cLinks rb (p' :: l') δ3 else .ok false δ3) := hp
    have core : ∀ Q : Value → Value → Shared → Prop, (∀ (z : Bool) u s1 y H1 δ1 P1 G1 rb, Inv X pins σ H1 s1 → SR (kmOf X) F δ1 σ P1 G1 H1 → RR (kmOf X) F δ1 σ P1 G1 H1 (stl rb) y → RelV y u → Post (kmOf X) W F σ G1 q (if z = true then cLinks rb (p' :: l') δ1 else .ok false δ1) → Q u (.bool z) s1) →
        wpAny (model X.prog X.w) X.A (eval b X.env) (fun b' s₁ => wpAny (model X.prog X.w) X.A (compareOp op v b') (Q b') X.xe s₁) X.xe s := fun Q hQ => by
      have hb' := hb.run pins s σ H (fun y H1 => ∃ δ1 P1 G1 rb, SR (kmOf X) F δ1 σ P1 G1 H1 ∧ Same G G1 ∧ RR (kmOf X) F δ1 σ P1 G1 H1 (stl rb) y ∧ Post (kmOf X) W F σ G1 q ((cmpR op ra rb δ1).bind fun k δ3 => if k = true then cLinks rb (p' :: l') δ3 else .ok false δ3)) I
        ⟨F, δ, P, G, S, Post.bind hp' fun rb δ1 P1 G1 H1 S1 g1 h1 u r2 => by
          obtain ⟨G1', S1', g1', r2'⟩ := S1.settle r2
          exact ⟨δ1, P1, G1', rb, S1', g1.trans g1', r2', h1.base g1'⟩⟩
      refine thn hb' fun u s1 ⟨y, H1, I1, ry, δ1, P1, G1, rb, S1, g1, r2, h2⟩ => ?_
      refine run_cmp (q := fun k δ3 P3 G3 H3 => SR (kmOf X) F δ3 σ P3 G3 H3 ∧ Post (kmOf X) W F σ G3 q (if k = true then cLinks rb (p' :: l') δ3 else .ok false δ3)) hu I1 S1 (r1.keep g1) r2 rx ry
        (Post.bind h2 fun k δ3 P3 G3 H3 S3 g3 h3 => ⟨S3, h3⟩) fun k s2 I2 _ h3 => hQ k u s2 y H1 δ1 P1 G1 rb I2 S1 r2 ry (h3 P1 G1 H1 S1 (Same.refl _)).2
    refine ⟨chain_link (core (fun u z s1 => wpAny (model X.prog X.w) X.A (truthy z) _ X.xe s1) fun z u s1 y H1 δ1 P1 G1 rb I1 S1 r2 ry h3 => ?_), test_link (core (fun u z s1 => wpAny (model X.prog X.w) X.A (truthy z) _ X.xe s1) fun z u s1 y H1 δ1 P1 G1 rb I1 S1 r2 ry h3 => ?_)⟩
    · refine wpAny_truthy_bool ?_
      cases z with
      | true => exact ite_tt (ih pins s1 σ H1 F δ1 P1 G1 rb y u q I1 S1 r2 ry h3).1
      | false => exact ite_ff ⟨false, H1, δ1, P1, G1, rfl, I1, h3 P1 G1 H1 S1 (Same.refl _)⟩
    · refine wpAny_truthy_bool ?_
      cases z with
      | true => exact ite_tt (ih pins s1 σ H1 F δ1 P1 G1 rb y u q I1 S1 r2 ry h3).2
      | false => exact ite_ff ⟨H1, δ1, P1, G1, I1, h3 P1 G1 H1 S1 (Same.refl _)⟩
theorem chain_run (hu : X.A.units + 65 < cLine) {ops : List CmpOp} {bs : List Expr} {l : List (CmpOp × EV)} (ha : PD X W a fa) (h : Lnk X W ops bs l) {pins : List (Addr × Obj)} {s : Shared} {σ : Sg} {H : Hp} {q : Bool → Hp → Prop} (I : Inv X pins σ H s)
    (hp : tB' (kmOf X) W (cChainB fa l) σ H q) :
      wpAny (model X.prog X.w) X.A (eval a X.env) (fun v s1 => wpAny (model X.prog X.w) X.A (compareChain pos v ops (evalEach bs X.env)) (fun z s1 => ∃ b H1, z = .bool b ∧ Inv X pins σ H1 s1 ∧ q b H1) X.xe s1) X.xe s ∧
      wpAny (model X.prog X.w) X.A (eval a X.env) (fun v s1 => wpAny (model X.prog X.w) X.A (testChain pos v ops (evalEach bs X.env)) (fun b s1 => ∃ H1, Inv X pins σ H1 s1 ∧ q b H1) X.xe s1) X.xe s := by
  obtain ⟨F, δ, P, G, S, hp⟩ := hp
  have ha' := ha.run pins s σ H (fun y H1 => ∃ δ1 P1 G1 ra, SR (kmOf X) F δ1 σ P1 G1 H1 ∧ RR (kmOf X) F δ1 σ P1 G1 H1 (stl ra) y ∧ Post (kmOf X) W F σ G1 (fun b _ _ _ H' => q b H') (cLinks ra l δ1)) I
    ⟨F, δ, P, G, S, Post.bind hp fun ra δ1 P1 G1 H1 S1 g1 h1 u r2 => by
      obtain ⟨G1', S1', g1', r2'⟩ := S1.settle r2
      exact ⟨δ1, P1, G1', ra, S1', r2', h1.base g1'⟩⟩
  refine ⟨thn ha' fun u s1 ⟨y, H1, I1, ry, δ1, P1, G1, ra, S1, r1, h1⟩ => ?_, thn ha' fun u s1 ⟨y, H1, I1, ry, δ1, P1, G1, ra, S1, r1, h1⟩ => ?_⟩
  · exact thn (run_links hu h pins s1 σ H1 F δ1 P1 G1 ra y u _ I1 S1 r1 ry h1).1 fun z s2 ⟨b, H2, _, _, _, e, I2, q2⟩ => ⟨b, H2, e, I2, q2⟩
  · exact thn (run_links hu h pins s1 σ H1 F δ1 P1 G1 ra y u _ I1 S1 r1 ry h1).2 fun z s2 ⟨H2, _, _, _, I2, q2⟩ => ⟨H2, I2, q2⟩
theorem asV_run {f : BV} {σ : Sg} {H : Hp} {Q : VK} (h : tD (kmOf X) W (asV f) σ H Q) : tB' (kmOf X) W f σ H fun b H1 => Q (.bl b) H1 := by
  obtain ⟨F, δ, P, G, S, h⟩ := h
  exact ⟨F, δ, P, G, S, Post.bind h fun b δ1 P1 G1 H1 S1 g1 h1 => h1 P1 G1 H1 S1 (Same.refl _) _ rfl⟩
theorem pb_chain (hu : X.A.units + 65 < cLine) {ops : List CmpOp} {bs : List Expr} {l : List (CmpOp × EV)} (ha : PD X W a fa) (h : Lnk X W ops bs l) (hm : lastMarks ops bs = false) : PB X W (.Compare a ops bs pos) (cChainB fa l) := by
  refine ⟨fun pins s σ H Q I hp => ?_⟩
  show wpAny _ _ (do testChain pos (← eval a X.env) ops (markedEach ops bs (evalEach bs X.env))) _ _ _
  rw [markedEach_of_false _ _ _ hm]
  exact wpAny_bind (chain_run hu ha h I hp).2
theorem pd_chain (hu : X.A.units + 65 < cLine) {ops : List CmpOp} {bs : List Expr} {l : List (CmpOp × EV)} (ha : PD X W a fa) (h : Lnk X W ops bs l) (hm : lastMarks ops bs = false) : PD X W (.Compare a ops bs pos) (asV (cChainB fa l)) := by
  refine ⟨fun pins s σ H Q I hp => ?_⟩
  show wpAny _ _ (do compareChain pos (← eval a X.env) ops (markedEach ops bs (evalEach bs X.env))) _ _ _
  rw [markedEach_of_false _ _ _ hm]
  refine wpAny_bind (thn (chain_run hu ha h I (asV_run hp)).1 fun v s1 h1 => thn h1 fun z s2 ⟨b, H1, e, I1, q⟩ => ?_)
  subst e
  exact ⟨.bl b, H1, I1, rfl, q⟩
end
end PV
/-! PVD: tests, displays, subscripts, slices. -/
namespace PV
open PySem PySem.Spec PyProof.Rows L2

/-! ### truth -/
def truD : D → Option Bool
  | .non => some false
  | .bl b => some b
  | .int i => some (i != 0)
  | .str s => if fit s.length then some ((s.length : Int) != 0) else none
  | .lst ds => some (!ds.isEmpty)
  | .tup ds => some (!ds.isEmpty)
  | .rol ds => some (!ds.isEmpty)
  | _ => none
theorem rpa_empty {M : KM} {G : Hp} {ds : List D} {vs : List V} (h : RpA M G ds vs) : vs.isEmpty = ds.isEmpty := by
  cases ds with
  | nil => rw [show vs = [] from h]; rfl
  | cons d ds => obtain ⟨v, r, e, _⟩ := h; rw [e]; rfl
theorem lk_tru {M : KM} {G H : Hp} {d : D} {x : V} {k : Bool} (h : Lk M G H d x) (s : Same G H) (e : truD d = some k) : TruV M.K x H k := by
  cases d with
  | non => cases e; cases h.non; rfl
  | bl b => cases e; cases h.bl; rfl
  | int i => cases e; cases h.int; rfl
  | str z =>
    obtain ⟨hc, rfl⟩ := if_some e
    cases h.str
    exact ⟨fit_le hc, rfl⟩
  | lst ds =>
    cases e
    obtain ⟨a, xs, rfl, h1, h2⟩ := h.lst s
    exact .inl ⟨xs, SqL.of h1, by rw [rpa_empty h2]⟩
  | rol ds =>
    cases e
    obtain ⟨a, xs, rfl, h1, h2⟩ := h.rol s
    exact .inl ⟨xs, h1, by rw [rpa_empty h2]⟩
  | tup ds =>
    cases e
    obtain ⟨a, xs, rfl, h1, h2⟩ := h.tup s
    exact .inr (.inl ⟨xs, h1, by rw [rpa_empty h2]⟩)
  | _ => cases e

def truR (r : R) (δ : List Sl) : Out Bool := match look (stl r) δ with
  | some d => ofO (truD d) δ
  | none => .st
def cTru (f : EV) : BV := fun δ => (f δ).bind truR
section
variable {M : KM} {F : Fm} {δ : List Sl} {σ : Sg} {P : Nat → Addr} {G G' H H' : Hp} {W : WX} {q : Bool → List Sl → (Nat → Addr) → Hp → Hp → Prop}
theorem run_tru {r : R} {v : V} (S : SR M F δ σ P G H) (h : RR M F δ σ P G H (stl r) v) (p : Post M W F σ G q (truR r δ)) : ∃ k, TruV M.K v H k ∧ truR r δ = .ok k δ ∧ Post M W F σ G q (.ok k δ) := by
  unfold truR at p ⊢
  split at p
  · rename_i d e
    obtain ⟨k, hk, p⟩ := post_ofO p
    exact ⟨k, lk_tru (S.lk h e) S.g hk, by show ofO (truD d) δ = _; rw [hk]; rfl, p⟩
  · exact p.elim
end
section
variable {X : Cx} {W : WX} {pos : Pos} {a b c : Expr} {fa fb fc : EV} {ba bb : BV} {rest : List Expr}
theorem pb_tru (ha : PD X W a fa) (he : ∀ whole, isTrue a X.env whole = (do let v ← whole; standAt a.pos; holding [v] (truthy v))) : PB X W a (cTru fa) := by
  refine (pt_truth ha he).weak fun σ H Q h => ?_
  obtain ⟨F, δ, P, G, S, h⟩ := h
  refine ⟨F, δ, P, G, S, Post.bind h fun r δ1 P1 G1 H1 S1 g1 h1 v rr => ?_⟩
  obtain ⟨G1', S1', g1', rr'⟩ := S1.settle rr
  obtain ⟨k, hk, _, p⟩ := run_tru S1' rr' (h1.base g1')
  exact ⟨k, hk, p P1 G1' H1 S1' (Same.refl _)⟩

def cNot (f : BV) : BV := fun δ => (f δ).bind fun k δ1 => .ok (!k) δ1
theorem pb_not (ha : PB X W a ba) : PB X W (.UnaryOp .Not a pos) (cNot ba) := by
  refine (pt_not ha).weak fun σ H Q h => ?_
  obtain ⟨F, δ, P, G, S, h⟩ := h
  exact ⟨F, δ, P, G, S, Post.bind h fun k δ1 P1 G1 H1 S1 g1 h1 => h1 P1 G1 H1 S1 (Same.refl _)⟩
def cNotV (f : EV) : EV := fun δ => (f δ).bind fun r δ1 => (truR r δ1).bind fun k δ2 => .ok (.sh (.bl (!k))) δ2
theorem pd_not (ha : PD X W a fa) : PD X W (.UnaryOp .Not a pos) (cNotV fa) := by
  refine (pe_notT ha).weak fun σ H Q h => ?_
  obtain ⟨F, δ, P, G, S, h⟩ := h
  refine ⟨F, δ, P, G, S, Post.bind h fun r δ1 P1 G1 H1 S1 g1 h1 v rr => ?_⟩
  obtain ⟨G1', S1', g1', rr'⟩ := S1.settle rr
  have h1 := h1.base g1'
  have h2 : Post (kmOf X) W F σ G1' (fun _ _ _ _ _ => True) (truR r δ1) := Post.bind h1 fun _ _ _ _ _ _ _ _ => trivial
  obtain ⟨k, hk, e, _⟩ := run_tru S1' rr' h2
  rw [e] at h1
  exact ⟨k, hk, h1 P1 G1' H1 S1' (Same.refl _) _ rfl⟩
def cNeg (f : EV) : EV := fun δ => (f δ).bind fun r δ1 => match look (stl r) δ1 with
  | some (.int i) => .ok (.sh (.int (-i))) δ1
  | _ => .st
theorem pd_neg (ha : PD X W a fa) : PD X W (.UnaryOp .USub a pos) (cNeg fa) := by
  refine (pe_un un_neg ha).weak fun σ H Q h => ?_
  obtain ⟨F, δ, P, G, S, h⟩ := h
  refine ⟨F, δ, P, G, S, Post.bind h fun r δ1 P1 G1 H1 S1 g1 h1 v rr => ?_⟩
  obtain ⟨G1', S1', g1', rr'⟩ := S1.settle rr
  have h1 := h1.base g1'
  split at h1
  · rename_i i e
    exact ⟨i, (S1'.lk rr' e).int, h1 P1 G1' H1 S1' (Same.refl _) _ rfl⟩
  · exact h1.elim

/-- and, or as tests -/
def cAnds : List BV → BV
  | [], _ => .st
  | [f], δ => f δ
  | f :: g :: fs, δ => (f δ).bind fun k δ1 => if k = true then cAnds (g :: fs) δ1 else .ok false δ1
def cOrs : List BV → BV
  | [], _ => .st
  | [f], δ => f δ
  | f :: g :: fs, δ => (f δ).bind fun k δ1 => if k = true then .ok true δ1 else cOrs (g :: fs) δ1
inductive PBs (X : Cx) (W : WX) : List Expr → List BV → Prop
  | one {a f} : PB X W a f → PBs X W [a] [f]
  | cons {a f b g bs gs} : PB X W a f → PBs X W (b :: bs) (g :: gs) → PBs X W (a :: b :: bs) (f :: g :: gs)
theorem pw_ands {es : List Expr} {fs : List BV} (h : PBs X W es fs) : PW X (.BoolOp .And es pos) (tB' (kmOf X) W (cAnds fs)) := by
  induction h with
  | one ha => exact pw_and1 ha
  | @cons a f b g bs gs ha hb ih =>
    refine (pw_and ha ih).weak fun σ H Q h => ?_
    obtain ⟨F, δ, P, G, S, h⟩ := h
    refine ⟨F, δ, P, G, S, Post.bind h fun k δ1 P1 G1 H1 S1 g1 h1 => ?_⟩
    cases k with
    | true => exact ite_tt ⟨F, δ1, P1, G1, S1, h1⟩
    | false => exact ite_ff (h1 P1 G1 H1 S1 (Same.refl _))
theorem pw_ors {es : List Expr} {fs : List BV} (h : PBs X W es fs) : PW X (.BoolOp .Or es pos) (tB' (kmOf X) W (cOrs fs)) := by
  induction h with
  | one ha => exact pw_or1 ha
  | @cons a f b g bs gs ha hb ih =>
    refine (pw_or ha ih).weak fun σ H Q h => ?_
    obtain ⟨F, δ, P, G, S, h⟩ := h
    refine ⟨F, δ, P, G, S, Post.bind h fun k δ1 P1 G1 H1 S1 g1 h1 => ?_⟩
    cases k with
    | true => exact ite_tt (h1 P1 G1 H1 S1 (Same.refl _))
    | false => exact ite_ff ⟨F, δ1, P1, G1, S1, h1⟩
theorem pb_ands {es : List Expr} {fs : List BV} (h : PBs X W es fs) : PB X W (.BoolOp .And es pos) (cAnds fs) := (pw_ands h).pt
theorem pb_ors {es : List Expr} {fs : List BV} (h : PBs X W es fs) : PB X W (.BoolOp .Or es pos) (cOrs fs) := (pw_ors h).pt
/-- and, or as values -/
def cAndsV : List EV → EV
  | [], _ => .st
  | [f], δ => f δ
  | f :: g :: fs, δ => (f δ).bind fun r δ1 => (truR r δ1).bind fun k δ2 => if k = true then cAndsV (g :: fs) δ2 else .ok (stl r) δ2
def cOrsV : List EV → EV
  | [], _ => .st
  | [f], δ => f δ
  | f :: g :: fs, δ => (f δ).bind fun r δ1 => (truR r δ1).bind fun k δ2 => if k = true then .ok (stl r) δ2 else cOrsV (g :: fs) δ2
inductive PDs (X : Cx) (W : WX) : List Expr → List EV → Prop
  | one {a f} : PD X W a f → PDs X W [a] [f]
  | cons {a f b g bs gs} : PD X W a f → PDs X W (b :: bs) (g :: gs) → PDs X W (a :: b :: bs) (f :: g :: gs)
theorem pd_ands {es : List Expr} {fs : List EV} (h : PDs X W es fs) : PD X W (.BoolOp .And es pos) (cAndsV fs) := by
  induction h with
  | one ha => exact pe_one ha
  | @cons a f b g bs gs ha hb ih =>
    refine (pe_andT ha ih).weak fun σ H Q h => ?_
    obtain ⟨F, δ, P, G, S, h⟩ := h
    refine ⟨F, δ, P, G, S, Post.bind h fun r δ1 P1 G1 H1 S1 g1 h1 v rr => ?_⟩
    obtain ⟨G1', S1', g1', rr'⟩ := S1.settle rr
    have h1 := h1.base g1'
    obtain ⟨k, hk, e, _⟩ := run_tru S1' rr' (Post.bind h1 fun _ _ _ _ _ _ _ _ => trivial : Post (kmOf X) W F σ G1' (fun _ _ _ _ _ => True) (truR r δ1))
    rw [e] at h1
    refine ⟨k, hk, ?_⟩
    have h1 : EPost (kmOf X) W F σ G1' Q (if k = true then cAndsV (g :: gs) δ1 else .ok (stl r) δ1) := h1
    cases k with
    | true => exact ite_tt ⟨F, δ1, P1, G1', S1', h1⟩
    | false => exact ite_ff (h1 P1 G1' H1 S1' (Same.refl _) _ rr')
theorem pd_ors {es : List Expr} {fs : List EV} (h : PDs X W es fs) : PD X W (.BoolOp .Or es pos) (cOrsV fs) := by
  induction h with
  | one ha => exact pe_one ha
  | @cons a f b g bs gs ha hb ih =>
    refine (pe_orT ha ih).weak fun σ H Q h => ?_
    obtain ⟨F, δ, P, G, S, h⟩ := h
    refine ⟨F, δ, P, G, S, Post.bind h fun r δ1 P1 G1 H1 S1 g1 h1 v rr => ?_⟩
    obtain ⟨G1', S1', g1', rr'⟩ := S1.settle rr
    have h1 := h1.base g1'
    obtain ⟨k, hk, e, _⟩ := run_tru S1' rr' (Post.bind h1 fun _ _ _ _ _ _ _ _ => trivial : Post (kmOf X) W F σ G1' (fun _ _ _ _ _ => True) (truR r δ1))
    rw [e] at h1
    refine ⟨k, hk, ?_⟩
    have h1 : EPost (kmOf X) W F σ G1' Q (if k = true then .ok (stl r) δ1 else cOrsV (g :: gs) δ1) := h1
    cases k with
    | true => exact ite_tt (h1 P1 G1' H1 S1' (Same.refl _) _ rr')
    | false => exact ite_ff ⟨F, δ1, P1, G1', S1', h1⟩
def cIf (fc : BV) (fa fb : EV) : EV := fun δ => (fc δ).bind fun k δ1 => if k = true then fa δ1 else fb δ1
theorem pd_if {t : BV} (hc : PB X W c t) (ha : PD X W a fa) (hb : PD X W b fb) : PD X W (.IfExp c a b pos) (cIf t fa fb) := by
  refine (pe_ifExp hc ha hb).weak fun σ H Q h => ?_
  obtain ⟨F, δ, P, G, S, h⟩ := h
  refine ⟨F, δ, P, G, S, Post.bind h fun k δ1 P1 G1 H1 S1 g1 h1 => ?_⟩
  cases k with
  | true => exact ite_tt ⟨F, δ1, P1, G1, S1, h1⟩
  | false => exact ite_ff ⟨F, δ1, P1, G1, S1, h1⟩

/-! ### argument lists, displays -/
def cArgs : List EV → AV
  | [], δ => .ok [] δ
  | f :: fs, δ => (f δ).bind fun r δ1 => (cArgs fs δ1).bind fun rs δ2 => .ok (stl r :: rs) δ2
inductive PAs (X : Cx) (W : WX) : List Expr → List EV → Prop
  | nil : PAs X W [] []
  | cons {a f as fs} : PD X W a f → (∀ env, starEach (a :: as) env = (false, eval a env) :: starEach as env) → PAs X W as fs → PAs X W (a :: as) (f :: fs)
theorem pr_args {es : List Expr} {fs : List EV} (h : PAs X W es fs) : PR X W es (cArgs fs) := by
  induction h with
  | nil =>
    refine pa_nil.weak fun σ H Q h => ?_
    obtain ⟨F, δ, P, G, S, h⟩ := h
    exact h P G H S (Same.refl _) [] rfl
  | @cons a f as fs ha hs hr ih =>
    refine (pa_cons ha ih (hs _)).weak fun σ H Q h => ?_
    obtain ⟨F, δ, P, G, S, h⟩ := h
    refine ⟨F, δ, P, G, S, Post.bind h fun r δ1 P1 G1 H1 S1 g1 h1 v rr => ?_⟩
    obtain ⟨G1', S1', g1', rr'⟩ := S1.settle rr
    refine ⟨F, δ1, P1, G1', S1', Post.bind (h1.base g1') fun rs δ2 P2 G2 H2 S2 g2 h2 vs rrs => ?_⟩
    exact h2 P2 G2 H2 S2 (Same.refl _) (v :: vs) ⟨v, vs, rfl, rr'.keep g2, rrs⟩
theorem PAs.plain {es : List Expr} {fs : List EV} (h : PAs X W es fs) {p : Pos} : (backTo p (starEach es X.env)).any (·.1) = false := by
  induction h with
  | nil => rfl
  | cons _ hs _ ih => rw [hs]; exact ih
theorem stl_all (fs : List EV) : ∀ δ rs δ', cArgs fs δ = .ok rs δ' → ∀ r ∈ rs, stl r = r := by
  induction fs with
  | nil => intro δ rs δ' h; cases h; intro r hr; cases hr
  | cons f fs ih =>
    intro δ rs δ' h r hr
    unfold cArgs at h
    cases e : f δ with
    | ok r1 δ1 =>
      rw [e] at h
      have h : (cArgs fs δ1).bind (fun rs δ2 => .ok (stl r1 :: rs) δ2) = .ok rs δ' := h
      cases e2 : cArgs fs δ1 with
      | ok rs2 δ2 =>
        rw [e2] at h
        cases h
        rcases List.mem_cons.mp hr with rfl | hr
        · exact stl_stl _
        · exact ih _ _ _ e2 r hr
      | ex _ _ => rw [e2] at h; cases h
      | st => rw [e2] at h; cases h
    | ex _ _ => rw [e] at h; cases h
    | st => rw [e] at h; cases h
/-- all as data, shared from now on -/
def leaks : List R → List Sl → Out (List D)
  | [], δ => .ok [] δ
  | r :: rs, δ => (leak (stl r) δ).bind fun d δ1 => (leaks rs δ1).bind fun ds δ2 => .ok (d :: ds) δ2
end
section
variable {M : KM} {F : Fm} {δ : List Sl} {σ : Sg} {P : Nat → Addr} {G G' H H' : Hp} {W : WX}
theorem RRs.keep {δ' : List Sl} {P' : Nat → Addr} : ∀ {rs : List R} {vs : List V}, (∀ r ∈ rs, stl r = r) → RRs M F δ σ P G H rs vs → Same G G' → RRs M F δ' σ P' G' H' rs vs
  | [], _, _, h, _ => h
  | r :: rs, _, hs, ⟨v, t, e, h1, h2⟩, g => by
    have e1 := hs r List.mem_cons_self
    refine ⟨v, t, e, ?_, RRs.keep (fun r hr => hs r (List.mem_cons_of_mem _ hr)) h2 g⟩
    rw [← e1] at h1 ⊢
    exact h1.keep g
theorem SR.leaks : ∀ {rs : List R} {vs : List V} {ds : List D} {δ δ' : List Sl} {G : Hp}, (∀ r ∈ rs, stl r = r) → SR M F δ σ P G H → RRs M F δ σ P G H rs vs → leaks rs δ = .ok ds δ' → ∃ G', SR M F δ' σ P G' H ∧ Same G G' ∧ RpA M G' ds vs
  | [], _, _, _, _, G, _, S, h, e => by
    cases e
    exact ⟨G, S, Same.refl _, h⟩
  | r :: rs, _, ds, δ, δ', G, hs, S, ⟨v, t, e1, h1, h2⟩, e => by
    have es := hs r List.mem_cons_self
    unfold PV.leaks at e
    cases q : PV.leak (stl r) δ with
    | ok d δ1 =>
      rw [q] at e
      have e : (PV.leaks rs δ1).bind (fun ds δ2 => .ok (d :: ds) δ2) = .ok ds δ' := e
      have h1' : RR M F δ σ P G H (stl r) v := by rw [es]; exact h1
      obtain ⟨G1, S1, g1, r1⟩ := S.leak h1' q
      cases q2 : PV.leaks rs δ1 with
      | ok ds2 δ2 =>
        rw [q2] at e
        cases e
        have hs' := fun r hr => hs r (List.mem_cons_of_mem _ hr)
        obtain ⟨G2, S2, g2, r2⟩ := SR.leaks hs' S1 (RRs.keep hs' h2 g1) q2
        exact ⟨G2, S2, g1.trans g2, v, t, e1, Rp.mono g2 d r1, r2⟩
      | ex _ _ => rw [q2] at e; cases e
      | st => rw [q2] at e; cases e
    | ex _ _ => rw [q] at e; cases e
    | st => rw [q] at e; cases e
theorem leaks_cases : ∀ (rs : List R) (δ : List Sl), (∃ ds δ', leaks rs δ = .ok ds δ') ∨ leaks rs δ = .st
  | [], δ => .inl ⟨_, _, rfl⟩
  | r :: rs, δ => by
    unfold leaks
    rcases leak_cases (stl r) δ with ⟨d, δ1, e⟩ | e
    · rw [e]
      show (∃ ds δ', (leaks rs δ1).bind _ = _) ∨ (leaks rs δ1).bind _ = _
      rcases leaks_cases rs δ1 with ⟨ds, δ2, e⟩ | e
      · rw [e]; exact .inl ⟨_, _, rfl⟩
      · rw [e]; exact .inr rfl
    · rw [e]; exact .inr rfl
end
def fitO {α : Type} (n : Nat) (o : Out α) : Out α := if fit n then o else .st
def cTup (fs : List EV) : EV := fun δ => (cArgs fs δ).bind fun rs δ1 => (leaks rs δ1).bind fun ds δ2 => fitO ds.length (.ok (.sh (.tup ds)) δ2)
def cLst (fs : List EV) : EV := fun δ => (cArgs fs δ).bind fun rs δ1 => (leaks rs δ1).bind fun ds δ2 => fitO ds.length (.ok (.ow (.lst ds)) δ2)
section
variable {X : Cx} {W : WX} {pos : Pos} {a b c : Expr} {fa fb fc : EV} {es : List Expr} {fs : List EV}
theorem rrs_stl {fs : List EV} {M : KM} {F : Fm} {σ : Sg} {G : Hp} {β : Type} {δ : List Sl} {q : β → List Sl → (Nat → Addr) → Hp → Hp → Prop} {q' : List R → List Sl → (Nat → Addr) → Hp → Hp → Prop} {k : List R → List Sl → Out β} (h : Post M W F σ G q ((cArgs fs δ).bind k))
    (n : ∀ rs δ' P' G' H', (∀ r ∈ rs, stl r = r) → SR M F δ' σ P' G' H' → Same G G' → Post M W F σ G' q (k rs δ') → q' rs δ' P' G' H') : Post M W F σ G q' (cArgs fs δ) := by
  have hs := stl_all fs δ
  cases e : cArgs fs δ with
  | ok rs δ1 =>
    rw [e] at h
    exact fun P' G' H' S g => n rs δ1 P' G' H' (hs _ _ e) S g (Post.base h g)
  | ex c δ1 => rw [e] at h; exact h
  | st => rw [e] at h; exact h
theorem pd_tup {x1} (h : PAs X W es fs) : PD X W (.Tuple es x1 pos) (cTup fs) := by
  refine (pe_tup (pr_args h)).weak fun σ H Q h => ?_
  obtain ⟨F, δ, P, G, S, h⟩ := h
  refine ⟨F, δ, P, G, S, rrs_stl h fun rs δ1 P1 G1 H1 hs S1 g1 h1 vs rr => ?_⟩
  rcases leaks_cases rs δ1 with ⟨ds, δ2, e⟩ | e
  · rw [e] at h1
    have h1 : EPost (kmOf X) W F σ G1 Q (fitO ds.length (.ok (.sh (.tup ds)) δ2)) := h1
    obtain ⟨G2, S2, g2, r2⟩ := S1.leaks hs rr e
    unfold fitO at h1
    split at h1
    · rename_i hf
      exact ⟨by rw [r2.length]; exact fit_le hf, (nq_of S2 (h1.base g2)).tup S2.g r2⟩
    · exact h1.elim
  · rw [e] at h1
    exact h1.elim
theorem pd_lst (h : PAs X W es fs) : PD X W (.List es pos) (cLst fs) := by
  refine (pe_lst (pr_args h)).weak fun σ H Q h => ?_
  obtain ⟨F, δ, P, G, S, h⟩ := h
  refine ⟨F, δ, P, G, S, rrs_stl h fun rs δ1 P1 G1 H1 hs S1 g1 h1 vs rr => ?_⟩
  rcases leaks_cases rs δ1 with ⟨ds, δ2, e⟩ | e
  · rw [e] at h1
    have h1 : EPost (kmOf X) W F σ G1 Q (fitO ds.length (.ok (.ow (.lst ds)) δ2)) := h1
    obtain ⟨G2, S2, g2, r2⟩ := S1.leaks hs rr e
    unfold fitO at h1
    split at h1
    · rename_i hf
      exact ⟨by rw [r2.length]; exact fit_le hf, (nq_of S2 (h1.base g2)).lst S2.g r2⟩
    · exact h1.elim
  · rw [e] at h1
    exact h1.elim

/-! ### subscripts, slices -/
def ixD : D → D → Option R
  | .lst ds, .int i => (atI ds i).map .sh
  | .rol ds, .int i => (atI ds i).map .sh
  | .tup ds, .int i => (atI ds i).map .sh
  | .str z, .int i => if fit z.length then (atI z.cps.toList i).map fun c => .sh (.str ⟨#[c]⟩) else none
  | _, _ => none
theorem rpa_atI {M : KM} {G : Hp} {ds : List D} {vs : List V} {i : Int} {d : D} (h : RpA M G ds vs) (e : atI ds i = some d) : ∃ v, atI vs i = some v ∧ Rp M G d v := by
  unfold atI at e ⊢
  rw [h.length]
  cases q : ixN ds.length i with
  | none => rw [q] at e; cases e
  | some j => rw [q] at e; exact h.get e
theorem ix_D : IxR X (rD2 (kmOf X) ixD) := by
  intro value slice pins s σ H x y v u Q I rx ry h hs
  obtain ⟨G, d, e, r, sg, h1, h2, hr, q⟩ := h
  cases d <;> cases e <;> try (cases hr; done)
  · rename_i z i
    have hr : (if fit z.length = true then (atI z.cps.toList i).map fun c => R.sh (.str ⟨#[c]⟩) else none) = some r := hr
    split at hr
    · rename_i hf
      obtain ⟨c, e, rfl⟩ := Option.map_eq_some_iff.mp hr
      cases h1.str
      cases h2.int
      exact ix_str value slice pins s σ H _ _ v u Q I rx ry ⟨_, _, c, rfl, rfl, fit_le hf, e, q.sh sg rfl⟩ hs
    · cases hr
  · obtain ⟨d, e, rfl⟩ := Option.map_eq_some_iff.mp hr
    obtain ⟨a, xs, rfl, k1, k2⟩ := h1.tup sg
    cases h2.int
    obtain ⟨z, e1, e2⟩ := rpa_atI k2 e
    exact ix_tup value slice pins s σ H _ _ v u Q I rx ry ⟨a, xs, _, z, rfl, rfl, k1, e1, q.sh sg e2⟩ hs
  · obtain ⟨d, e, rfl⟩ := Option.map_eq_some_iff.mp hr
    obtain ⟨a, xs, rfl, k1, k2⟩ := h1.lst sg
    cases h2.int
    obtain ⟨z, e1, e2⟩ := rpa_atI k2 e
    exact ix_list value slice pins s σ H _ _ v u Q I rx ry ⟨a, xs, _, z, rfl, rfl, SqL.of k1, e1, q.sh sg e2⟩ hs
  · obtain ⟨d, e, rfl⟩ := Option.map_eq_some_iff.mp hr
    obtain ⟨a, xs, rfl, k1, k2⟩ := h1.rol sg
    cases h2.int
    obtain ⟨z, e1, e2⟩ := rpa_atI k2 e
    exact ix_list value slice pins s σ H _ _ v u Q I rx ry ⟨a, xs, _, z, rfl, rfl, k1, e1, q.sh sg e2⟩ hs
def cIx (fa fb : EV) : EV := c2 ixD fa fb
theorem pd_ix (ha : PD X W a fa) (hb : PD X W b fb) (hs : PlainIx b) : PD X W (.Subscript a b pos) (cIx fa fb) := (pe_ix ix_D ha hb hs).weak fun σ H Q h => run2 h fun _ _ _ z => z

def cut {α : Type} (xs : List α) (lo hi : Option Int) : List α := (xs.drop (HT.sIx xs.length 0 lo)).take (HT.sIx xs.length xs.length hi - HT.sIx xs.length 0 lo)
def slD : D → Option Int → Option Int → Option R
  | .lst ds, lo, hi => some (.ow (.lst (cut ds lo hi)))
  | .rol ds, lo, hi => some (.ow (.lst (cut ds lo hi)))
  | .tup ds, lo, hi => some (.sh (.tup (cut ds lo hi)))
  | .str z, lo, hi => if fit z.length then some (.sh (.str (cutS z lo hi))) else none
  | _, _, _ => none
theorem rpa_cut {M : KM} {G : Hp} {ds : List D} {vs : List V} (h : RpA M G ds vs) (lo hi : Option Int) : RpA M G (cut ds lo hi) (cutV vs lo hi) := by
  unfold cut cutV
  rw [h.length]
  exact RpA.take _ (RpA.drop _ h)
theorem cut_whole {α : Type} {xs : List α} {lo hi : Option Int} (h : HT.sIx xs.length 0 lo = 0 ∧ HT.sIx xs.length xs.length hi = xs.length) : cut xs lo hi = xs := by
  unfold cut
  rw [h.1, h.2]
  simp
/-- a slice's part, by its closure -/
def cPart (o : Option EV) : List Sl → Out (Option Int) := match o with
  | none => fun δ => .ok none δ
  | some f => fun δ => (f δ).bind fun r δ1 => match look (stl r) δ1 with
    | some (.int i) => .ok (some i) δ1
    | _ => .st
inductive PPart (X : Cx) (W : WX) : Option Expr → Option EV → Prop
  | none : PPart X W none none
  | some {e f} : PD X W e f → PPart X W (some e) (some f)
def tPart' (M : KM) (W : WX) (f : List Sl → Out (Option Int)) : L2.TO := fun σ H Q => ∃ F δ P G, SR M F δ σ P G H ∧ Post M W F σ G (fun o _ _ _ H' => Q o H') (f δ)
theorem po_part {e : Option Expr} {f : Option EV} (h : PPart X W e f) : PO X e (tPart' (kmOf X) W (cPart f)) := by
  cases h with
  | none =>
    refine ⟨fun pins s σ H Q I h => ?_⟩
    obtain ⟨F, δ, P, G, S, h⟩ := h
    exact po_none.run pins s σ H Q I (h P G H S (Same.refl _))
  | some he =>
    refine ⟨fun pins s σ H Q I h => (po_some he).run pins s σ H Q I ?_⟩
    obtain ⟨F, δ, P, G, S, h⟩ := h
    refine ⟨F, δ, P, G, S, Post.bind h fun r δ1 P1 G1 H1 S1 g1 h1 v rr => ?_⟩
    obtain ⟨G1', S1', g1', rr'⟩ := S1.settle rr
    have h1 := h1.base g1'
    split at h1
    · rename_i i e
      exact ⟨i, (S1'.lk rr' e).int, h1 P1 G1' H1 S1' (Same.refl _)⟩
    · exact h1.elim
def cSl (fa : EV) (lo hi : Option EV) : EV := fun δ => (fa δ).bind fun r δ1 => (cPart lo δ1).bind fun l δ2 => (cPart hi δ2).bind fun h δ3 => match look (stl r) δ3 with
  | some d => ofO (slD d l h) δ3
  | none => .st
def rSlD (M : KM) : V → Option Int → Option Int → Hp → VK → Prop := fun x lo hi H Q => ∃ G d r, Same G H ∧ Lk M G H d x ∧ slD d lo hi = some r ∧ NQ M G H r Q
theorem sl_D : SlR X (rSlD (kmOf X)) := by
  intro pins s σ H x v vl vu lo hi sl Q I rx hs pl pu h
  obtain ⟨G, d, r, sg, h1, hr, q⟩ := h
  cases d with
  | lst ds =>
    cases hr
    obtain ⟨a, xs, rfl, k1, k2⟩ := h1.lst sg
    exact sl_list pins s σ H _ v vl vu lo hi sl Q I rx hs pl pu ⟨a, xs, rfl, SqL.of k1, q.lst sg (rpa_cut k2 lo hi)⟩
  | rol ds =>
    cases hr
    obtain ⟨a, xs, rfl, k1, k2⟩ := h1.rol sg
    exact sl_list pins s σ H _ v vl vu lo hi sl Q I rx hs pl pu ⟨a, xs, rfl, k1, q.lst sg (rpa_cut k2 lo hi)⟩
  | tup ds =>
    cases hr
    obtain ⟨a, xs, rfl, k1, k2⟩ := h1.tup sg
    refine sl_tupA pins s σ H _ v vl vu lo hi sl Q I rx hs pl pu ⟨a, xs, rfl, k1, fun e => ?_, fun _ => q.tup sg (rpa_cut k2 lo hi)⟩
    rw [k2.length] at e
    rw [cut_whole e] at q
    exact h1.elim (fun z => q.sh sg z) fun ⟨_, _, z⟩ => z.elim
  | str z =>
    obtain ⟨hf, rfl⟩ := if_some hr
    cases h1.str
    exact sl_str pins s σ H _ v vl vu lo hi sl Q I rx hs pl pu ⟨_, rfl, fit_le hf, q.sh sg rfl⟩
  | _ => cases hr
theorem pd_slice {lo hi : Option Expr} {fl fh : Option EV} {p2 : Pos} (ha : PD X W a fa) (hl : PPart X W lo fl) (hh : PPart X W hi fh) : PD X W (.Subscript a (.Slice lo hi none p2) pos) (cSl fa fl fh) := by
  refine (pe_slice sl_D ha (po_part hl) (po_part hh)).weak fun σ H Q h => ?_
  obtain ⟨F, δ, P, G, S, h⟩ := h
  refine ⟨F, δ, P, G, S, Post.bind h fun r δ1 P1 G1 H1 S1 g1 h1 v rr => ?_⟩
  obtain ⟨G1', S1', g1', rr'⟩ := S1.settle rr
  refine ⟨F, δ1, P1, G1', S1', Post.bind (h1.base g1') fun l δ2 P2 G2 H2 S2 g2 h2 => ?_⟩
  refine ⟨F, δ2, P2, G2, S2, Post.bind h2 fun u δ3 P3 G3 H3 S3 g3 h3 => ?_⟩
  split at h3
  · rename_i d e
    obtain ⟨a, ha, h3⟩ := post_ofO h3
    exact ⟨G3, d, a, S3.g, S3.lk (rr'.keep (g2.trans g3)) e, ha, nq_of S3 h3⟩
  · exact h3.elim
end
end PV
/-! PVE: statements as closures. -/
namespace PV
open PySem PySem.Spec PyProof.Rows L2

abbrev SV := List Sl → SOut
abbrev TV := R → List Sl → Out Unit
def Out.toS {α : Type} : Out α → (α → List Sl → SOut) → SOut
  | .ok a δ, k => k a δ
  | .ex c δ, _ => .ex c δ
  | .st, _ => .st
def SOut.seq : SOut → SV → SOut
  | .nx δ, k => k δ
  | o, _ => o
def nxt (o : Out Unit) : SOut := o.toS fun _ δ => .nx δ
abbrev PSd (X : Cx) (W : WX) (st : Stmt) (f : SV) : Prop := PS X st (tS (kmOf X) W f)
abbrev PSsd (X : Cx) (W : WX) (st : List Stmt) (f : SV) : Prop := PSs X st (tS (kmOf X) W f)

section
variable {M : KM} {F : Fm} {δ : List Sl} {σ : Sg} {P : Nat → Addr} {G G' H H' : Hp} {W : WX} {Dn : Ends}
theorem SPost.base {o : SOut} (h : SPost M W F G Dn o) (g : Same G G') : SPost M W F G' Dn o := by
  cases o with
  | nx δ => exact fun σ' P' G' H' S e => h σ' P' G' H' S (g.trans e)
  | rt r δ => exact fun v σ' P' G' H' S e => h v σ' P' G' H' S (g.trans e)
  | bk δ => exact fun σ' P' G' H' S e => h σ' P' G' H' S (g.trans e)
  | ct δ => exact fun σ' P' G' H' S e => h σ' P' G' H' S (g.trans e)
  | ex c δ => exact fun C σ' P' G' H' m S e => h C σ' P' G' H' m S (g.trans e)
  | st => exact h
theorem Post.toS {α : Type} {o : Out α} {k : α → List Sl → SOut} {q : α → List Sl → (Nat → Addr) → Hp → Hp → Prop} (h : SPost M W F G Dn (o.toS k))
    (n : ∀ a δ' P' G' H', SR M F δ' σ P' G' H' → Same G G' → SPost M W F G' Dn (k a δ') → q a δ' P' G' H') : Post M W F σ G q o := by
  cases o with
  | ok a δ => exact fun P' G' H' S e => n a δ P' G' H' S e (SPost.base h e)
  | ex c δ => exact fun C P' G' H' m S e => h C σ P' G' H' m S e
  | st => exact h
theorem SPost.ends {o : SOut} {Dn' : Ends} (h : SPost M W F G Dn o) (h1 : ∀ δ, o = .nx δ → ∀ σ' P' G' H', SR M F δ σ' P' G' H' → Same G G' → SPost M W F G' Dn (.nx δ) → Dn'.nx σ' H') (h2 : Dn'.rt = Dn.rt) (h3 : ∀ δ, o = .bk δ → ∀ σ' P' G' H', SR M F δ σ' P' G' H' → Same G G' → SPost M W F G' Dn (.bk δ) → Dn'.bk σ' H')
    (h4 : ∀ δ, o = .ct δ → ∀ σ' P' G' H', SR M F δ σ' P' G' H' → Same G G' → SPost M W F G' Dn (.ct δ) → Dn'.ct σ' H') : SPost M W F G Dn' o := by
  cases o with
  | nx δ => exact fun σ' P' G' H' S e => h1 δ rfl σ' P' G' H' S e (SPost.base h e)
  | rt r δ => exact fun v σ' P' G' H' S e rr => by rw [h2]; exact h v σ' P' G' H' S e rr
  | bk δ => exact fun σ' P' G' H' S e => h3 δ rfl σ' P' G' H' S e (SPost.base h e)
  | ct δ => exact fun σ' P' G' H' S e => h4 δ rfl σ' P' G' H' S e (SPost.base h e)
  | ex c δ => exact h
  | st => exact h

/-! ### a slot is written -/
theorem SR.setSh {i : Nat} {d : D} {v : V} (S : SR M F δ σ P G H) (r : Rp M G d v) : SR M F (δ.set i (.sh d)) (σ.set i (some v)) P G H where
  len := by rw [List.length_set, List.length_set]; exact S.len
  sh := fun j d' e => by
    by_cases h : i = j
    · subst h
      by_cases hi : i < δ.length
      · rw [List.getElem?_set_self hi] at e
        cases e
        exact ⟨v, List.getElem?_set_self (by rw [← S.len]; exact hi), r⟩
      · rw [List.getElem?_eq_none (by rw [List.length_set]; omega)] at e
        cases e
    · rw [List.getElem?_set_ne h] at e ⊢
      exact S.sh j d' e
  ow := fun j b d' e => by
    have h : i ≠ j := by
      rintro rfl
      by_cases hi : i < δ.length
      · rw [List.getElem?_set_self hi] at e; cases e
      · rw [List.getElem?_eq_none (by rw [List.length_set]; omega)] at e; cases e
    rw [List.getElem?_set_ne h] at e ⊢
    exact S.ow j b d' e
  ap := fun j k b d' b' d'' e e' z => by
    have h : i ≠ j := by
      rintro rfl
      by_cases hi : i < δ.length
      · rw [List.getElem?_set_self hi] at e; cases e
      · rw [List.getElem?_eq_none (by rw [List.length_set]; omega)] at e; cases e
    have h' : i ≠ k := by
      rintro rfl
      by_cases hi : i < δ.length
      · rw [List.getElem?_set_self hi] at e'; cases e'
      · rw [List.getElem?_eq_none (by rw [List.length_set]; omega)] at e'; cases e'
    rw [List.getElem?_set_ne h] at e
    rw [List.getElem?_set_ne h'] at e'
    exact S.ap j k b d' b' d'' e e' z
  t := S.t
  g := S.g
  g0 := S.g0
  gn := S.gn
  b := S.b
/-- a slot is forgotten -/
theorem SR.setNo {i : Nat} (S : SR M F δ σ P G H) (v : Option V) : SR M F (δ.set i .no) (σ.set i v) P G H where
  len := by rw [List.length_set, List.length_set]; exact S.len
  sh := fun j d' e => by
    have h : i ≠ j := by
      rintro rfl
      by_cases hi : i < δ.length
      · rw [List.getElem?_set_self hi] at e; cases e
      · rw [List.getElem?_eq_none (by rw [List.length_set]; omega)] at e; cases e
    rw [List.getElem?_set_ne h] at e ⊢
    exact S.sh j d' e
  ow := fun j b d' e => by
    have h : i ≠ j := by
      rintro rfl
      by_cases hi : i < δ.length
      · rw [List.getElem?_set_self hi] at e; cases e
      · rw [List.getElem?_eq_none (by rw [List.length_set]; omega)] at e; cases e
    rw [List.getElem?_set_ne h] at e ⊢
    exact S.ow j b d' e
  ap := fun j k b d' b' d'' e e' z => by
    have h : i ≠ j := by
      rintro rfl
      by_cases hi : i < δ.length
      · rw [List.getElem?_set_self hi] at e; cases e
      · rw [List.getElem?_eq_none (by rw [List.length_set]; omega)] at e; cases e
    have h' : i ≠ k := by
      rintro rfl
      by_cases hi : i < δ.length
      · rw [List.getElem?_set_self hi] at e'; cases e'
      · rw [List.getElem?_eq_none (by rw [List.length_set]; omega)] at e'; cases e'
    rw [List.getElem?_set_ne h] at e
    rw [List.getElem?_set_ne h'] at e'
    exact S.ap j k b d' b' d'' e e' z
  t := S.t
  g := S.g
  g0 := S.g0
  gn := S.gn
  b := S.b
theorem SR.setOw {i : Nat} {d : D} {q : Addr} (S : SR M F δ σ P G H) (r : RR M F δ σ P G H (.ow d) (.ref q)) : SR M F (δ.set i (.ow false d)) (σ.set i (some (.ref q))) (fun j => if j = i then q else P j) G H where
  len := by rw [List.length_set, List.length_set]; exact S.len
  sh := fun j d' e => by
    have h : i ≠ j := by
      rintro rfl
      by_cases hi : i < δ.length
      · rw [List.getElem?_set_self hi] at e; cases e
      · rw [List.getElem?_eq_none (by rw [List.length_set]; omega)] at e; cases e
    rw [List.getElem?_set_ne h] at e ⊢
    exact S.sh j d' e
  ow := fun j b d' e => by
    obtain ⟨q', e1, h1, h2, h3, h4, h5⟩ := r
    cases e1
    by_cases h : i = j
    · subst h
      by_cases hi : i < δ.length
      · rw [List.getElem?_set_self hi] at e
        cases e
        rw [if_pos rfl]
        exact ⟨List.getElem?_set_self (by rw [← S.len]; exact hi), h1, h2, h3, fun _ => h4, fun z => by cases z⟩
      · rw [List.getElem?_eq_none (by rw [List.length_set]; omega)] at e; cases e
    · rw [List.getElem?_set_ne h] at e ⊢
      rw [if_neg (Ne.symm h)]
      exact S.ow j b d' e
  ap := fun j k b d' b' d'' e e' z => by
    obtain ⟨q', e1, h1, h2, h3, h4, h5⟩ := r
    cases e1
    by_cases h : i = j
    · by_cases h' : i = k
      · exact h.symm.trans h'
      · rw [List.getElem?_set_ne h'] at e'
        rw [if_pos h.symm, if_neg (Ne.symm h')] at z
        exact absurd z.symm (h5 k _ _ e')
    · by_cases h' : i = k
      · rw [List.getElem?_set_ne h] at e
        rw [if_neg (Ne.symm h), if_pos h'.symm] at z
        exact absurd z (h5 j _ _ e)
      · rw [List.getElem?_set_ne h] at e
        rw [List.getElem?_set_ne h'] at e'
        rw [if_neg (Ne.symm h), if_neg (Ne.symm h')] at z
        exact S.ap j k b d' b' d'' e e' z
  t := S.t
  g := S.g
  g0 := S.g0
  gn := S.gn
  b := S.b
end

/-! ### targets -/
theorem wipe_get {σ : Sg} : ∀ {vs : List Nat} {i : Nat}, (wipe σ vs)[i]? = if i ∈ vs then σ[i]?.map (fun _ => none) else σ[i]?
  | [], i => by simp [wipe]
  | v :: vs, i => by
    unfold wipe
    by_cases e : v = i
    · subst e
      rw [List.getElem?_set]
      simp only [wipe_length]
      split
      · by_cases h : v < σ.length <;> simp [h]
      · contradiction
    · rw [List.getElem?_set_ne e, wipe_get (vs := vs)]
      have : i ∈ v :: vs ↔ i ∈ vs := by simp [Ne.symm e]
      simp only [this]
theorem wipe_set {σ : Sg} {vs : List Nat} {i : Nat} {x : Option V} (h : i ∈ vs) : wipe (σ.set i x) vs = wipe σ vs := by
  refine List.ext_getElem? fun j => ?_
  rw [wipe_get, wipe_get]
  split
  · rw [List.getElem?_set]
    split
    · rename_i e; subst e
      by_cases h : i < σ.length <;> simp [h]
    · rfl
  · rename_i hj
    rw [List.getElem?_set_ne (fun (e : i = j) => hj (e ▸ h))]
/-- a target, that binds slots of vs alone -/
def tG (M : KM) (W : WX) (vs : List Nat) (g : TV) : TG := fun v σ H Q => ∃ F δ P G r, SR M F δ σ P G H ∧ RR M F δ σ P G H r v ∧ SPost M W F G { nx := fun σ' H' => wipe σ' vs = wipe σ vs → Q σ' H', rt := fun _ _ => False } (nxt (g r δ))
abbrev PGd (X : Cx) (W : WX) (vs : List Nat) (t : Expr) (g : TV) : Prop := PG X t (tG (kmOf X) W vs g)
theorem _root_.L2.PG.weak {X : Cx} {e : Expr} {t u : TG} (h : PG X e t) (k : ∀ v σ H Q, u v σ H Q → t v σ H Q) : PG X e u := ⟨fun pins s σ H v x Q I r q => h.run pins s σ H v x Q I r (k v σ H Q q)⟩
theorem _root_.L2.PGs.weak {X : Cx} {e : List Expr} {t u : TGs} (h : PGs X e t) (k : ∀ v σ H Q, u v σ H Q → t v σ H Q) : PGs X e u := ⟨fun pins s σ H v x Q I r q => h.run pins s σ H v x Q I r (k v σ H Q q)⟩
/-- a lent container's name is not bound anew -/
def free1 (i : Nat) (δ : List Sl) : Bool := match δ[i]? with
  | some (.ow true _) => false
  | _ => true
def gN (i : Nat) : TV := fun r δ => if free1 i δ then (match r with
  | .sh d => .ok () (δ.set i (.sh d))
  | .ow d => .ok () (δ.set i (.ow false d))
  | .nm j => (leak (.nm j) δ).bind fun d δ1 => .ok () (δ1.set i (.sh d))) else .st
section
variable {X : Cx} {W : WX} {pos : Pos}
theorem run_gN {M : KM} {W : WX} {F : Fm} {δ : List Sl} {σ : Sg} {P : Nat → Addr} {G H : Hp} {i : Nat} {r : R} {v : V} {Dn : Ends} (S : SR M F δ σ P G H) (rr : RR M F δ σ P G H r v) (h : SPost M W F G Dn (nxt (gN i r δ))) : Dn.nx (σ.set i (some v)) H := by
  unfold gN at h
  split at h
  · cases r with
    | sh d => exact h _ _ _ _ (S.setSh rr) (Same.refl _)
    | ow d =>
      obtain ⟨q, e, _⟩ := id rr
      subst e
      exact h _ _ _ _ (S.setOw rr) (Same.refl _)
    | nm j =>
      have h : SPost M W F G Dn (nxt ((leak (.nm j) δ).bind fun d δ1 => .ok () (δ1.set i (.sh d)))) := h
      rcases leak_cases (.nm j) δ with ⟨d, δ1, e⟩ | e
      · rw [e] at h
        obtain ⟨G', S', g', r'⟩ := S.leak (r := .nm j) rr e
        exact h _ _ _ _ (S'.setSh r') g'
      · rw [e] at h
        exact h.elim
  · exact h.elim
theorem pgd_name {vs : List Nat} {i : Nat} {x : Str} (hv : i ∈ vs) (hN : X.N.Nodup) (hi : X.N[i]? = some x) (hx : Loc X.env.scope x) (hf : X.fn x = true ∨ X.env.scope.names.lookup x = some .local) : PGd X W vs (.Name x pos) (gN i) :=
  (pg_name hN hi hx hf).weak fun v σ H Q ⟨F, δ, P, G, r, S, rr, h⟩ => run_gN (Dn := { nx := fun σ' H' => wipe σ' vs = wipe σ vs → Q σ' H', rt := fun _ _ => False }) S rr h (wipe_set hv)
/-- several targets, data each -/
def gNs : List TV → List D → List Sl → Out Unit
  | [], [], δ => .ok () δ
  | g :: gs, d :: ds, δ => (g (.sh d) δ).bind fun _ δ1 => gNs gs ds δ1
  | _, _, _ => .st
def gT (gs : List TV) : TV := fun r δ => match leak (stl r) δ with
  | .ok (.tup ds) δ1 => if ds.length = gs.length then gNs gs ds δ1 else .st
  | .ok (.lst ds) δ1 => if ds.length = gs.length then gNs gs ds δ1 else .st
  | _ => .st
inductive PGl (X : Cx) (W : WX) (vs : List Nat) : List Expr → List TV → Prop
  | nil : PGl X W vs [] []
  | cons {e g es gs} : PGd X W vs e g → ((assignEach (e :: es) X.env).map (·.2) = assign e X.env :: (assignEach es X.env).map (·.2)) → (assignEach (e :: es) X.env).length = (assignEach es X.env).length + 1 → ((assignEach es X.env).findIdx? (·.1) = none → (assignEach (e :: es) X.env).findIdx? (·.1) = none) → PGl X W vs es gs → PGl X W vs (e :: es) (g :: gs)
def tGs (M : KM) (W : WX) (ws : List Nat) (gs : List TV) : TGs := fun vs σ H Q => ∃ F δ P G ds, SR M F δ σ P G H ∧ RpA M G ds vs ∧ SPost M W F G { nx := fun σ' H' => wipe σ' ws = wipe σ ws → Q σ' H', rt := fun _ _ => False } (nxt (gNs gs ds δ))
theorem pgs_run {ws : List Nat} {es : List Expr} {gs : List TV} (h : PGl X W ws es gs) : PGs X es (tGs (kmOf X) W ws gs) ∧ (assignEach es X.env).length = gs.length ∧ (assignEach es X.env).findIdx? (·.1) = none := by
  induction h with
  | nil =>
    refine ⟨pgs_nil.weak fun vs σ H Q ⟨F, δ, P, G, ds, S, r, h⟩ => ?_, rfl, rfl⟩
    cases ds with
    | nil =>
      rw [show vs = [] from r]
      exact ⟨rfl, h σ P G H S (Same.refl _) rfl⟩
    | cons _ _ => exact h.elim
  | @cons e g es gs h1 h2 h3 h4 _ ih =>
    obtain ⟨ih, il, ii⟩ := ih
    refine ⟨(pgs_cons h1 ih h2).weak fun vs σ H Q ⟨F, δ, P, G, ds, S, r, h⟩ => ?_, by rw [h3, il]; rfl, h4 ii⟩
    cases ds with
    | nil => exact h.elim
    | cons d ds =>
      obtain ⟨v, t, e1, r1, r2⟩ := r
      subst e1
      refine ⟨v, t, rfl, F, δ, P, G, .sh d, S, r1, ?_⟩
      have h : SPost (kmOf X) W F G { nx := fun σ' H' => wipe σ' ws = wipe σ ws → Q σ' H', rt := fun _ _ => False } (nxt ((g (.sh d) δ).bind fun _ δ1 => gNs gs ds δ1)) := h
      cases q : g (.sh d) δ with
      | ok _ δ1 =>
        rw [q] at h
        exact fun σ' P' G' H' S' g' hw => ⟨F, δ1, P', G', ds, S', RpA.mono g' ds r2, SPost.ends (SPost.base h g') (fun δ2 _ σ2 P2 G2 H2 S2 g2 k w => k σ2 P2 G2 H2 S2 (Same.refl _) (w.trans hw)) rfl (fun _ _ _ _ _ _ _ _ k => k _ _ _ _ ‹_› (Same.refl _)) (fun _ _ _ _ _ _ _ _ k => k _ _ _ _ ‹_› (Same.refl _))⟩
      | ex _ _ => rw [q] at h; exact h
      | st => rw [q] at h; exact h
theorem pgd_tup {vs : List Nat} {es : List Expr} {gs : List TV} {k : Nat} (hc : X.calm = true) (h : PGl X W vs es gs) : PGd X W vs (.Tuple es k pos) (gT gs) := by
  obtain ⟨h1, h2, h3⟩ := pgs_run h
  refine ⟨fun pins s σ H v u Q I r hw => ?_⟩
  obtain ⟨F, δ, P, G, rr0, S, rr, hp⟩ := hw
  obtain ⟨G1, S1, g1, rr1⟩ := S.settle rr
  unfold gT at hp
  split at hp
  · rename_i ds δ1 e
    obtain ⟨G2, S2, g2, a, xs, e1, k1, k2⟩ := S1.leak rr1 e
    subst e1
    split at hp
    · rename_i hl
      exact (pg_tup hc h1 h2 h3).run pins s σ H _ u Q I r ⟨a, xs, rfl, Same.seqT S2.g k1, by rw [k2.length]; exact hl, F, δ1, P, G2, ds, S2, k2, SPost.base hp (g1.trans g2)⟩
    · exact hp.elim
  · rename_i ds δ1 e
    obtain ⟨G2, S2, g2, a, xs, e1, k1, k2⟩ := S1.leak rr1 e
    subst e1
    split at hp
    · rename_i hl
      exact (pg_lst hc h1 h2 h3).run pins s σ H _ u Q I r ⟨a, xs, rfl, SqL.of (S2.g _ _ k1), by rw [k2.length]; exact hl, F, δ1, P, G2, ds, S2, k2, SPost.base hp (g1.trans g2)⟩
    · exact hp.elim
  · exact hp.elim

/-! ### small statements -/
def sAsg (f : EV) (g : TV) : SV := fun δ => (f δ).toS fun r δ1 => nxt (g r δ1)
def sExpr (f : EV) : SV := fun δ => (f δ).toS fun _ δ1 => .nx δ1
def sRet (f : EV) : SV := fun δ => (f δ).toS fun r δ1 => .rt r δ1
def sRetN : SV := fun δ => .rt (.sh .non) δ
def sSkip : SV := fun δ => .nx δ
def sIf (c : BV) (a b : SV) : SV := fun δ => (c δ).toS fun k δ1 => if k = true then a δ1 else b δ1
def sSeq (a b : SV) : SV := fun δ => (a δ).seq b
variable {e tg c : Expr} {f : EV} {g : TV} {t : BV} {a b : SV} {sa sb : List Stmt} {st : Stmt}
theorem run_asg {σ : Sg} {H : Hp} {Dn : Ends} {M : KM} {vs : List Nat} (h : tS M W (sAsg f g) Dn σ H) : tAsg (tD M W f) (tG M W vs g) { Dn with rt := Dn.rt } σ H := by
  obtain ⟨F, δ, P, G, S, h⟩ := h
  refine ⟨F, δ, P, G, S, Post.toS h fun r δ1 P1 G1 H1 S1 g1 h1 v rr => ⟨F, δ1, P1, G1, r, S1, rr, ?_⟩⟩
  cases q : g r δ1 with
  | ok _ δ2 => rw [q] at h1; exact fun σ' P' G' H' S' g' _ => h1 σ' P' G' H' S' g'
  | ex c δ2 => rw [q] at h1; exact h1
  | st => rw [q] at h1; exact h1
theorem psd_asg {vs : List Nat} (he : PD X W e f) (hg : PGd X W vs tg g) (hs : swapsWithSole [tg] e pos.line X.env = pure false) (hw : swappedStores [tg] e X.env = pure none) (h1 : (assignEach [tg] X.env).map (·.2) = [assign tg X.env]) : PSd X W (.Assign [tg] e pos) (sAsg f g) :=
  (ps_asg he hg hs hw h1).weak fun _ _ _ h => run_asg h
theorem psd_set {i : Nat} {x : Str} {pos' : Pos} (hN : X.N.Nodup) (hi : X.N[i]? = some x) (hx : Loc X.env.scope x) (hf : X.fn x = true ∨ X.env.scope.names.lookup x = some .local) (he : PD X W e f) (hs : swapsWith e (some (.Name x pos')) pos.line X.env = pure false) : PSd X W (.Assign [.Name x pos'] e pos) (sAsg f (gN i)) := by
  refine (ps_set hN hi hx he hs hf).weak fun Dn σ H h => ?_
  obtain ⟨F, δ, P, G, S, h⟩ := h
  exact ⟨F, δ, P, G, S, Post.toS h fun r δ1 P1 G1 H1 S1 g1 h1 v rr => run_gN S1 rr h1⟩
theorem psd_expr (he : PD X W e f) (hs : swapsWith e none pos.line X.env = pure false) : PSd X W (.Expr e pos) (sExpr f) := by
  refine (ps_expr he hs).weak fun Dn σ H h => ?_
  obtain ⟨F, δ, P, G, S, h⟩ := h
  exact ⟨F, δ, P, G, S, Post.toS h fun r δ1 P1 G1 H1 S1 g1 h1 v rr => h1 σ P1 G1 H1 S1 (Same.refl _)⟩
theorem psd_ret (he : PD X W e f) : PSd X W (.Return (some e) pos) (sRet f) := by
  refine (ps_ret he).weak fun Dn σ H h => ?_
  obtain ⟨F, δ, P, G, S, h⟩ := h
  exact ⟨F, δ, P, G, S, Post.toS h fun r δ1 P1 G1 H1 S1 g1 h1 v rr => h1 v σ P1 G1 H1 S1 (Same.refl _) rr⟩
theorem psd_retN : PSd X W (.Return none pos) sRetN := ps_retN.weak fun Dn σ H ⟨F, δ, P, G, S, h⟩ => h .non σ P G H S (Same.refl _) rfl
theorem psd_pass : PSd X W (.Pass pos) sSkip := ps_pass.weak fun Dn σ H ⟨F, δ, P, G, S, h⟩ => h σ P G H S (Same.refl _)
theorem psd_doc {x j pos'} : PSd X W (.Expr (.Constant (.str x) j pos) pos') sSkip := ps_doc.weak fun Dn σ H ⟨F, δ, P, G, S, h⟩ => h σ P G H S (Same.refl _)
theorem psd_break : PSd X W (.Break pos) (fun δ => .bk δ) := ps_break.weak fun Dn σ H ⟨F, δ, P, G, S, h⟩ => h σ P G H S (Same.refl _)
theorem psd_continue : PSd X W (.Continue pos) (fun δ => .ct δ) := ps_continue.weak fun Dn σ H ⟨F, δ, P, G, S, h⟩ => h σ P G H S (Same.refl _)
theorem psd_if (hc : PB X W c t) (ha : PSsd X W sa a) (hb : PSsd X W sb b) : PSd X W (.If c sa sb pos) (sIf t a b) := by
  refine (ps_if hc ha hb).weak fun Dn σ H h => ?_
  obtain ⟨F, δ, P, G, S, h⟩ := h
  refine ⟨F, δ, P, G, S, Post.toS h fun k δ1 P1 G1 H1 S1 g1 h1 => ?_⟩
  cases k with
  | true => exact ite_tt ⟨F, δ1, P1, G1, S1, h1⟩
  | false => exact ite_ff ⟨F, δ1, P1, G1, S1, h1⟩
theorem pssd_nil : PSsd X W [] sSkip := pss_nil.weak fun Dn σ H ⟨F, δ, P, G, S, h⟩ => h σ P G H S (Same.refl _)
theorem pssd_cons (ha : PSd X W st a) (hb : PSsd X W sb b) : PSsd X W (st :: sb) (sSeq a b) := by
  refine (pss_cons ha hb).weak fun Dn σ H h => ?_
  obtain ⟨F, δ, P, G, S, h⟩ := h
  refine ⟨F, δ, P, G, S, ?_⟩
  have h : SPost (kmOf X) W F G Dn ((a δ).seq b) := h
  cases q : a δ with
  | nx δ1 =>
    rw [q] at h
    exact fun σ' P' G' H' S' g' => ⟨F, δ1, P', G', S', SPost.base h g'⟩
  | rt _ _ => rw [q] at h; exact h
  | bk _ => rw [q] at h; exact h
  | ct _ => rw [q] at h; exact h
  | ex _ _ => rw [q] at h; exact h
  | st => rw [q] at h; exact h
theorem pssd_one (ha : PSd X W st a) : PSsd X W [st] a := pss_one ha

/-! ### what is walked -/
abbrev IV := List Sl → Out (List D)
def Items (M : KM) (G : Hp) (J : It) (ds : List D) : Prop :=
  (∀ (i : Nat) (H : Hp), Same G H → i < ds.length → J.go i H) ∧ (∀ (i : Nat) (H : Hp), Same G H → ds.length ≤ i → J.stop i H) ∧
    ∀ (i : Nat) (d : D) (Gc H : Hp) (x : V) (H' : Hp), Same G Gc → Same Gc H → ds[i]? = some d → J.yld i H x H' → ∃ G', XS Gc H G' H' ∧ Rp M G' d x
def tI (M : KM) (W : WX) (f : IV) : TI := fun σ H Rr => ∃ F δ P G, SR M F δ σ P G H ∧ Post M W F σ G (fun ds _ _ G' H' => ∀ J G'' H'', XS G' H' G'' H'' → Items M G'' J ds → Rr J H'') (f δ)
abbrev PId (X : Cx) (W : WX) (tg e : Expr) (f : IV) : Prop := PI X tg e (tI (kmOf X) W f)
theorem items_list {M : KM} {G : Hp} {a : Addr} {xs : List V} {ds : List D} (h : G a = some (.lst xs)) (r : RpA M G ds xs) : Items M G (Itl M.K a) ds := by
  have uniq : ∀ (H : Hp), Same G H → SqL M.K H a xs := fun H s => SqL.of (s _ _ h)
  refine ⟨fun i H s hi => ?_, fun i H s hi => ⟨xs, uniq H s, by rw [r.length]; exact hi⟩, fun i d Gc H x H' s s' hd hy => ?_⟩
  · obtain ⟨v, h1, _⟩ := r.get (List.getElem?_eq_getElem hi)
    exact ⟨xs, v, uniq H s, h1⟩
  · obtain ⟨rfl, hy⟩ := hy
    obtain ⟨v, h1, h2⟩ := r.get hd
    have := hy xs (uniq H' (s.trans s'))
    rw [h1] at this
    cases this
    exact ⟨Gc, XS.refl s', Rp.mono s d h2⟩
theorem items_rol {M : KM} {G : Hp} {a : Addr} {xs : List V} {ds : List D} (h : SqL M.K G a xs) (r : RpA M G ds xs) : Items M G (Itl M.K a) ds := by
  refine ⟨fun i H s hi => ?_, fun i H s hi => ⟨xs, Same.seq s h, by rw [r.length]; exact hi⟩, fun i d Gc H x H' s s' hd hy => ?_⟩
  · obtain ⟨v, h1, _⟩ := r.get (List.getElem?_eq_getElem hi)
    exact ⟨xs, v, Same.seq s h, h1⟩
  · obtain ⟨rfl, hy⟩ := hy
    obtain ⟨v, h1, h2⟩ := r.get hd
    have := hy xs (Same.seq (s.trans s') h)
    rw [h1] at this
    cases this
    exact ⟨Gc, XS.refl s', Rp.mono s d h2⟩
theorem items_tup {M : KM} {G : Hp} {a : Addr} {xs : List V} {ds : List D} (h : SqT M.K G a xs) (r : RpA M G ds xs) : Items M G (Itt M.K a) ds := by
  refine ⟨fun i H s hi => ?_, fun i H s hi => ⟨xs, Same.seqT s h, by rw [r.length]; exact hi⟩, fun i d Gc H x H' s s' hd hy => ?_⟩
  · obtain ⟨v, h1, _⟩ := r.get (List.getElem?_eq_getElem hi)
    exact ⟨xs, v, Same.seqT s h, h1⟩
  · obtain ⟨rfl, hy⟩ := hy
    obtain ⟨v, h1, h2⟩ := r.get hd
    have := hy xs (Same.seqT (s.trans s') h)
    rw [h1] at this
    cases this
    exact ⟨Gc, XS.refl s', Rp.mono s d h2⟩
def chars (z : Str) : List D := z.cps.toList.map fun c => .str ⟨#[c]⟩
theorem items_str {M : KM} {G : Hp} (z : Str) : Items M G (Its z) (chars z) := by
  have hl : (chars z).length = z.cps.size := by unfold chars; simp
  refine ⟨fun i H s hi => by rw [hl] at hi; exact hi, fun i H s hi => by rw [hl] at hi; exact hi, fun i d Gc H x H' s s' hd hy => ?_⟩
  obtain ⟨rfl, c, hc, rfl⟩ := hy
  unfold chars at hd
  rw [List.getElem?_map, Array.getElem?_toList, hc] at hd
  cases hd
  exact ⟨Gc, XS.refl s', rfl⟩
/-- a list, a tuple, a text walked -/
def itD : D → Option (List D)
  | .lst ds => some ds
  | .rol ds => some ds
  | .tup ds => some ds
  | .str z => some (chars z)
  | _ => none
def iAny (f : EV) : IV := fun δ => (f δ).bind fun r δ1 => (leak (stl r) δ1).bind fun d δ2 => ofO (itD d) δ2
theorem pi_any {tg e : Expr} {f : EV} (he : PD X W e f) : PId X W tg e (iAny f) := by
  -- from a value in hand
  have go : ∀ (pins : List (Addr × Obj)) (s : Shared) (σ : Sg) (H : Hp) (v : V) (u : Value) (Rr : It → Hp → Prop) (G : Hp) (d : D) (ds : List D), Inv X pins σ H s → RelV v u → Same G H → Rp (kmOf X) G d v → itD d = some ds →
      (∀ J, Items (kmOf X) G J ds → Rr J H) → wpAny (model X.prog X.w) X.A (pyIter u) (PIE X pins σ tg Rr) X.xe s := by
    intro pins s σ H v u Rr G d ds I r sg h e q
    cases d with
    | lst ds' =>
      cases e
      obtain ⟨a, xs, rfl, k1, k2⟩ := h
      cases r
      obtain ⟨its, rv, p, hz⟩ := I.list (SqL.of (sg _ _ k1))
      refine wpAny_pyIter_list p.isList ?_
      refine ⟨s.heap.objs.size, [s.heap.objs.size], _, _, H, rfl, I.kept (t' := s.toks) fun b o e => Heap.get?_push_of_some _ e, turn_list a _, ⟨_, Heap.get?_push_size _ rfl, rfl, rfl⟩, fun b hb => ?_, q _ (items_list k1 k2)⟩
      have e : b = s.heap.objs.size := by simpa using hb
      subst e
      exact I.fpOk (Nat.le_refl _) (I.hok.fresh (Nat.le_refl _))
    | rol ds' =>
      cases e
      obtain ⟨a, xs, rfl, k1, k2⟩ := h
      cases r
      obtain ⟨its, rv, p, hz⟩ := I.list (Same.seq sg k1)
      refine wpAny_pyIter_list p.isList ?_
      refine ⟨s.heap.objs.size, [s.heap.objs.size], _, _, H, rfl, I.kept (t' := s.toks) fun b o e => Heap.get?_push_of_some _ e, turn_list a _, ⟨_, Heap.get?_push_size _ rfl, rfl, rfl⟩, fun b hb => ?_, q _ (items_rol k1 k2)⟩
      have e : b = s.heap.objs.size := by simpa using hb
      subst e
      exact I.fpOk (Nat.le_refl _) (I.hok.fresh (Nat.le_refl _))
    | tup ds' =>
      cases e
      obtain ⟨a, xs, rfl, k1, k2⟩ := h
      cases r
      obtain ⟨its, rv, p, hz⟩ := I.tuple (Same.seqT sg k1)
      refine wpAny_pyIter_tuple (show s.heap.IsTuple a its.toArray from p) ?_
      refine ⟨s.heap.objs.size, [s.heap.objs.size], _, _, H, rfl, I.kept (t' := s.toks) fun b o e => Heap.get?_push_of_some _ e, turn_tuple a _, ⟨_, Heap.get?_push_size _ rfl, rfl, rfl⟩, fun b hb => ?_, q _ (items_tup k1 k2)⟩
      have e : b = s.heap.objs.size := by simpa using hb
      subst e
      exact I.fpOk (Nat.le_refl _) (I.hok.fresh (Nat.le_refl _))
    | str x =>
      cases e
      rw [show v = V.str x from h] at r
      obtain ⟨t, rfl⟩ := r
      cases ha : x.cps.all (· < 128)
      · exact wpAny_pyIter_wide ha (pi_one (tk := s.toks) I _ (turn_str _ x t "str_iterator" (.inr rfl)) ⟨_, Heap.get?_push_size _ rfl, rfl, rfl⟩ (q _ (items_str x)))
      · exact wpAny_pyIter_ascii ha (pi_one (tk := s.toks) I _ (turn_str _ x t "str_ascii_iterator" (.inl rfl)) ⟨_, Heap.get?_push_size _ rfl, rfl, rfl⟩ (q _ (items_str x)))
    | _ => cases e
  refine ⟨fun pins s σ H Rr I h => ?_⟩
  obtain ⟨F, δ, P, G, S, h⟩ := h
  refine thn (he.run pins s σ H (fun v H1 => ∃ G1 d ds, Same G1 H1 ∧ Rp (kmOf X) G1 d v ∧ itD d = some ds ∧ ∀ J, Items (kmOf X) G1 J ds → Rr J H1) I ⟨F, δ, P, G, S, Post.bind h fun r δ1 P1 G1 H1 S1 g1 h1 v rr => ?_⟩) fun u s1 ⟨v, H1, I1, r1, G1, d, ds, sg, h1, e, q⟩ => go pins s1 σ H1 v u Rr G1 d ds I1 r1 sg h1 e q
  obtain ⟨G1', S1', g1', rr'⟩ := S1.settle rr
  have h1 := h1.base g1'
  rcases leak_cases (stl r) δ1 with ⟨d, δ2, e⟩ | e
  · rw [e] at h1
    obtain ⟨G2, S2, g2, r2⟩ := S1'.leak rr' e
    obtain ⟨ds, hd, h2⟩ := post_ofO (o := itD d) (δ := δ2) h1
    exact ⟨G2, d, ds, S2.g, r2, hd, fun J hJ => h2 P1 G2 H1 S2 g2 J G2 H1 (XS.refl S2.g) hJ⟩
  · rw [e] at h1
    exact h1.elim

/-! ### for, while -/
def sLoop (g : TV) (body : SV) : List D → SV
  | [], δ => .nx δ
  | d :: ds, δ => match (nxt (g (.sh d) δ)).seq body with
    | .nx δ1 => sLoop g body ds δ1
    | .ct δ1 => sLoop g body ds δ1
    | .bk δ1 => .nx δ1
    | o => o
def sFor (f : IV) (g : TV) (body : SV) : SV := fun δ => (f δ).toS fun ds δ1 => sLoop g body ds δ1
theorem psd_for {iter : Expr} {f : IV} {body : List Stmt} (hp : PassesOwn (model X.prog X.w) X.A X.env X.xe) (hc : X.calm = true) {vs : List Nat} (hi : PId X W tg iter f) (hg : PGd X W vs tg g) (hb : PSsd X W body a)
    (hs : ∀ x, foldedSetIterable iter X.env x = pure x) : PSd X W (.For tg iter body [] pos) (sFor f g a) := by
  refine (ps_for hp hc hi hg hb hs).weak fun Dn σ H h => ?_
  obtain ⟨F, δ, P, G, S, h⟩ := h
  refine ⟨F, δ, P, G, S, Post.toS h fun ds δ1 P1 G1 H1 S1 g1 h1 J G2 H2 x2 it => ?_⟩
  obtain ⟨i1, i2, i3⟩ := it
  refine ⟨fun i m σ H => ∃ δ P G', m = ds.length - i ∧ i ≤ ds.length ∧ Same G2 G' ∧ SR (kmOf X) F δ σ P G' H ∧ SPost (kmOf X) W F G' Dn (sLoop g a (ds.drop i) δ), ⟨ds.length, δ1, P1, G2, by simp, Nat.zero_le _, Same.refl _, S1.ext x2, SPost.base h1 x2.g⟩, ?_⟩
  rintro i m σ H ⟨δ, P, G', rfl, hi, gg, S, hp⟩
  by_cases hlt : i < ds.length
  · refine .inr ⟨i1 i H (gg.trans S.g) hlt, fun σ' H' => ∃ δ P G', Same G2 G' ∧ SR (kmOf X) F δ σ' P G' H' ∧ SPost (kmOf X) W F G' Dn (sLoop g a (ds.drop (i + 1)) δ), fun σ' H' ⟨δ, P, G', g', S', h'⟩ => ⟨ds.length - (i + 1), by omega, δ, P, G', rfl, hlt, g', S', h'⟩, fun x H' hy => ?_⟩
    rw [List.drop_eq_getElem_cons hlt] at hp
    obtain ⟨G3, x3, rx⟩ := i3 i _ G' H x H' gg S.g (List.getElem?_eq_getElem hlt) hy
    refine ⟨F, δ, P, G3, .sh ds[i], S.ext x3, rx, ?_⟩
    have hp : SPost (kmOf X) W F G' Dn (match (nxt (g (.sh ds[i]) δ)).seq a with
      | .nx δ1 => sLoop g a (ds.drop (i + 1)) δ1
      | .ct δ1 => sLoop g a (ds.drop (i + 1)) δ1
      | .bk δ1 => .nx δ1
      | o => o) := hp
    cases q : g (.sh ds[i]) δ with
    | ex c δ2 =>
      rw [q] at hp
      exact SPost.base hp x3.g
    | st => rw [q] at hp; exact hp
    | ok _ δ2 =>
      rw [q] at hp
      have hp : SPost (kmOf X) W F G' Dn (match a δ2 with
        | .nx δ1 => sLoop g a (ds.drop (i + 1)) δ1
        | .ct δ1 => sLoop g a (ds.drop (i + 1)) δ1
        | .bk δ1 => .nx δ1
        | o => o) := hp
      refine fun σ4 P4 G4 H4 S4 g4 _ => ⟨F, δ2, P4, G4, S4, ?_⟩
      have gg4 := gg.trans (x3.g.trans g4)
      cases q2 : a δ2 with
      | nx δ3 =>
        rw [q2] at hp
        exact fun σ' P' G' H' S' g' => ⟨δ3, P', G', gg4.trans g', S', SPost.base hp (x3.g.trans (g4.trans g'))⟩
      | ct δ3 =>
        rw [q2] at hp
        exact fun σ' P' G' H' S' g' => ⟨δ3, P', G', gg4.trans g', S', SPost.base hp (x3.g.trans (g4.trans g'))⟩
      | bk δ3 =>
        rw [q2] at hp
        exact fun σ' P' G' H' S' g' => hp σ' P' G' H' S' (x3.g.trans (g4.trans g'))
      | rt r δ3 =>
        rw [q2] at hp
        exact fun v σ' P' G' H' S' g' rr => hp v σ' P' G' H' S' (x3.g.trans (g4.trans g')) rr
      | ex c δ3 =>
        rw [q2] at hp
        exact fun C σ' P' G' H' m S' g' => hp C σ' P' G' H' m S' (x3.g.trans (g4.trans g'))
      | st => rw [q2] at hp; exact hp
  · have e : ds.drop i = [] := List.drop_eq_nil_of_le (by omega)
    rw [e] at hp
    exact .inl ⟨i2 i H (gg.trans S.g) (by omega), hp σ P G' H S (Same.refl _)⟩
def sWh (c : BV) (body : SV) : Nat → SV
  | 0, _ => .st
  | n + 1, δ => (c δ).toS fun k δ1 => if k = true then (match body δ1 with
    | .nx δ2 => sWh c body n δ2
    | .ct δ2 => sWh c body n δ2
    | .bk δ2 => .nx δ2
    | o => o) else .nx δ1
theorem psd_while {body : List Stmt} (n : Nat) (hp : PassesOwn (model X.prog X.w) X.A X.env X.xe) (hc : PB X W c t) (hb : PSsd X W body a) : PSd X W (.While c body [] pos) (sWh t a n) := by
  refine (ps_while hp hc hb).weak fun Dn σ H h => ?_
  obtain ⟨F, δ, P, G, S, h⟩ := h
  refine ⟨fun m σ H => ∃ δ P G', SR (kmOf X) F δ σ P G' H ∧ SPost (kmOf X) W F G' Dn (sWh t a m δ), ⟨n, δ, P, G, S, h⟩, ?_⟩
  rintro m σ H ⟨δ, P, G', S, hp⟩
  cases m with
  | zero => exact hp.elim
  | succ m =>
    refine ⟨F, δ, P, G', S, Post.toS hp fun k δ1 P1 G1 H1 S1 g1 h1 => ?_⟩
    cases k with
    | false => exact ite_ff (h1 σ P1 G1 H1 S1 (Same.refl _))
    | true =>
      refine ite_tt ⟨fun σ' H' => ∃ δ P G', SR (kmOf X) F δ σ' P G' H' ∧ SPost (kmOf X) W F G' Dn (sWh t a m δ), fun σ' H' h' => ⟨m, Nat.lt_succ_self m, h'⟩, F, δ1, P1, G1, S1, ?_⟩
      have h1 : SPost (kmOf X) W F G1 Dn (match a δ1 with
        | .nx δ2 => sWh t a m δ2
        | .ct δ2 => sWh t a m δ2
        | .bk δ2 => .nx δ2
        | o => o) := h1
      cases q2 : a δ1 with
      | nx δ3 =>
        rw [q2] at h1
        exact fun σ' P' G' H' S' g' => ⟨δ3, P', G', S', SPost.base h1 g'⟩
      | ct δ3 =>
        rw [q2] at h1
        exact fun σ' P' G' H' S' g' => ⟨δ3, P', G', S', SPost.base h1 g'⟩
      | bk δ3 => rw [q2] at h1; exact h1
      | rt r δ3 => rw [q2] at h1; exact h1
      | ex c δ3 => rw [q2] at h1; exact h1
      | st => rw [q2] at h1; exact h1
end
end PV
/-! PVF: the call of a def. -/
namespace PV
open PySem PySem.Spec PyProof.Rows L2

abbrev Orc := Nat → List Sl → Out R

mutual
/-- nothing in it can change -/
def immD : D → Bool
  | .non => true
  | .bl _ => true
  | .int _ => true
  | .str _ => true
  | .tup ds => immA ds
  | _ => false
def immA : List D → Bool
  | [] => true
  | d :: ds => immD d && immA ds
end
def immK : List (D × D) → Bool
  | [] => true
  | (k, d) :: r => immD k && immD d && immK r
def immC : D → Bool
  | .lst ds => immA ds
  | .dic kvs => immK kvs
  | _ => false
def immR : R → Bool
  | .sh d => immD d
  | .ow d => immC d
  | .nm _ => false
/-- the arguments as the callee has them -/
def argsOf (δ : List Sl) : List Bool → List R → Option (List Sl)
  | [], [] => some []
  | false :: bs, .sh d :: rs => (argsOf δ bs rs).map (.sh d :: ·)
  | false :: bs, .nm i :: rs => match look (.nm i) δ, argsOf δ bs rs with
    | some d, some as => some (.sh d :: as)
    | _, _ => none
  | true :: bs, .nm i :: rs => match δ[i]?, argsOf δ bs rs with
    | some (.ow _ d), some as => some (.ow true d :: as)
    | _, _ => none
  | _, _ => none
def ioIx : List Bool → List R → List Nat
  | true :: bs, .nm i :: rs => i :: ioIx bs rs
  | _ :: bs, _ :: rs => ioIx bs rs
  | _, _ => []
def rdIx : List Bool → List R → List Nat
  | false :: bs, .nm i :: rs => i :: rdIx bs rs
  | _ :: bs, _ :: rs => rdIx bs rs
  | _, _ => []
def apart (bs : List Bool) (rs : List R) : Bool := decide (ioIx bs rs).Nodup && (ioIx bs rs).all fun i => !(rdIx bs rs).contains i
/-- the lent containers' contents alone hold nothing that can change -/
def cleanA : List Bool → List Sl → Bool
  | true :: bs, .ow _ d :: as => immC d && cleanA bs as
  | _ :: bs, _ :: as => cleanA bs as
  | _, _ => true
/-- the slots behind the call -/
def backs (clean : Bool) : List Bool → List R → List Sl → List Sl → Option (List Sl)
  | true :: bs, .nm i :: rs, .ow _ d' :: as, δ => match δ[i]? with
    | some (.ow f _) => backs clean bs rs as (δ.set i (.ow f d'))
    | _ => none
  | true :: _, _, _, _ => none
  | false :: bs, .nm i :: rs, _ :: as, δ => if clean then backs clean bs rs as δ else match δ[i]? with
    | some (.ow false d) => backs clean bs rs as (δ.set i (.sh d))
    | some (.ow true _) => none
    | _ => backs clean bs rs as δ
  | false :: bs, _ :: rs, _ :: as, δ => backs clean bs rs as δ
  | [], [], [], δ => some δ
  | _, _, _, _ => none
def callK (f : List Sl → Out R) (io : List Bool) (rs : List R) : EV := fun δ1 => if apart io rs then (match argsOf δ1 io rs with
  | none => .st
  | some as => match f as with
    | .ok (.nm _) _ => .st
    | .ok r as' => (match backs (immR r && cleanA io as') io rs as' δ1 with | some δ2 => .ok r δ2 | none => .st)
    | .ex c as' => (match backs (cleanA io as') io rs as' δ1 with | some δ2 => .ex c δ2 | none => .st)
    | .st => .st) else .st
def cCall (o : Orc) (j : Nat) (io : List Bool) (fs : List EV) : EV := fun δ => (cArgs fs δ).bind fun rs δ1 => callK (o j) io rs δ1

/-- a def's promise, by its outcome f on argument slots -/
def frm (H G : Hp) (A : List Addr) (IO : Nat → Addr) : Fm := ⟨fun a => if a ∈ A then none else H a, H, G, IO⟩
def spD (M : KM) (n : Nat) (f : List Sl → Out R) : Sp := fun vs H Q E => vs.length = n ∧ ∃ as P G A IO, SR M (frm H G A IO) as (vs.map some) P G H ∧
  Post M (fun cls d _ H' => E cls d H') (frm H G A IO) (vs.map some) G (fun r δ' P' G' H' => ∀ v, RR M (frm H G A IO) δ' (vs.map some) P' G' H' r v → Q v H') (f as)

/-! ### what does not change stands without the containers -/
section
variable {M : KM} {G G2 H : Hp}
mutual
theorem Rp.less (h : ∀ a o, G a = some o → (∃ xs, o = .tup xs) ∨ (∃ ob xs, o = .frz ob (.tup xs)) → G2 a = some o) : ∀ (d : D) {v : V}, Rp M G d v → immD d = true → Rp M G2 d v
  | .non, _, e, _ => e
  | .bl _, _, e, _ => e
  | .int _, _, e, _ => e
  | .str _, _, e, _ => e
  | .tup ds, _, ⟨a, xs, e, h1, h2⟩, k => by
    refine ⟨a, xs, e, ?_, RpA.less h ds h2 k⟩
    rcases h1 with (q | ⟨ob, q⟩) | q
    · exact .inl (.inl (h _ _ q (.inl ⟨_, rfl⟩)))
    · exact .inl (.inr ⟨ob, h _ _ q (.inr ⟨_, _, rfl⟩)⟩)
    · exact .inr q
  | .lst _, _, _, k => by cases k
  | .rol _, _, _, k => by cases k
  | .dic _, _, _, k => by cases k
  | .exc _, _, _, k => by cases k
theorem RpA.less (h : ∀ a o, G a = some o → (∃ xs, o = .tup xs) ∨ (∃ ob xs, o = .frz ob (.tup xs)) → G2 a = some o) : ∀ (ds : List D) {vs : List V}, RpA M G ds vs → immA ds = true → RpA M G2 ds vs
  | [], _, e, _ => e
  | d :: ds, _, ⟨v, r, e, h1, h2⟩, k => ⟨v, r, e, Rp.less h d h1 (and_l k), RpA.less h ds h2 (and_r k)⟩
end
theorem RpK.less (h : ∀ a o, G a = some o → (∃ xs, o = .tup xs) ∨ (∃ ob xs, o = .frz ob (.tup xs)) → G2 a = some o) : ∀ (kvs : List (D × D)) {es : List (HK × V × V)}, RpK M G kvs es → immK kvs = true → RpK M G2 kvs es
  | [], _, e, _ => e
  | (k, d) :: r, _, ⟨hk, kv, vv, es', e, h1, h2, h3, h4⟩, i => ⟨hk, kv, vv, es', e, h1, Rp.less h k h2 (and_l (and_l i)), Rp.less h d h3 (and_r (and_l i)), RpK.less h r h4 (and_r i)⟩
theorem OwnAt.less (h : ∀ a o, G a = some o → (∃ xs, o = .tup xs) ∨ (∃ ob xs, o = .frz ob (.tup xs)) → G2 a = some o) {p : Addr} : ∀ {d : D}, OwnAt M G H p d → immC d = true → OwnAt M G2 H p d
  | .lst ds, ⟨vs, h1, h2⟩, k => ⟨vs, h1, RpA.less h ds h2 k⟩
  | .dic kvs, ⟨es, h1, h2⟩, k => ⟨es, h1, RpK.less h kvs h2 k⟩
theorem OwnAt.shape {p : Addr} : ∀ {d : D}, OwnAt M G H p d → ∃ o, H p = some o ∧ ¬ ((∃ xs, o = .tup xs) ∨ (∃ ob xs, o = .frz ob (.tup xs)))
  | .lst ds, ⟨vs, h1, _⟩ => ⟨_, h1, fun z => by rcases z with ⟨_, z⟩ | ⟨_, _, z⟩ <;> cases z⟩
  | .dic kvs, ⟨es, h1, _⟩ => ⟨_, h1, fun z => by rcases z with ⟨_, z⟩ | ⟨_, _, z⟩ <;> cases z⟩
theorem OwnAt.rp' {p : Addr} {G' : Hp} (g : Same G G') (e : G' p = H p) : ∀ {d : D}, OwnAt M G H p d → Rp M G' d (.ref p)
  | .lst ds, ⟨vs, h1, h2⟩ => ⟨p, vs, rfl, e.trans h1, RpA.mono g ds h2⟩
  | .dic kvs, ⟨es, h1, h2⟩ => ⟨p, es, rfl, e.trans h1, RpK.mono g kvs h2⟩
end

/-! ### the slots behind a call, place by place -/
theorem ioIx_mem : ∀ {bs : List Bool} {rs : List R} {i : Nat}, i ∈ ioIx bs rs ↔ ∃ k : Nat, bs[k]? = some true ∧ rs[k]? = some (R.nm i)
  | [], rs, i => by simp [ioIx]
  | b :: bs, [], i => by cases b <;> simp [ioIx]
  | true :: bs, .nm j :: rs, i => by
    unfold ioIx
    rw [List.mem_cons, ioIx_mem (bs := bs) (rs := rs)]
    constructor
    · rintro (rfl | ⟨k, h1, h2⟩)
      · exact ⟨0, rfl, rfl⟩
      · exact ⟨k + 1, by simpa using h1, by simpa using h2⟩
    · rintro ⟨k, h1, h2⟩
      cases k with
      | zero => simp at h2; exact .inl h2.symm
      | succ k => exact .inr ⟨k, by simpa using h1, by simpa using h2⟩
  | true :: bs, .sh d :: rs, i => by
    unfold ioIx
    rw [ioIx_mem (bs := bs) (rs := rs)]
    constructor
    · rintro ⟨k, h1, h2⟩
      exact ⟨k + 1, by simpa using h1, by simpa using h2⟩
    · rintro ⟨k, h1, h2⟩
      cases k with
      | zero => simp at h2
      | succ k => exact ⟨k, by simpa using h1, by simpa using h2⟩
  | true :: bs, .ow d :: rs, i => by
    unfold ioIx
    rw [ioIx_mem (bs := bs) (rs := rs)]
    constructor
    · rintro ⟨k, h1, h2⟩
      exact ⟨k + 1, by simpa using h1, by simpa using h2⟩
    · rintro ⟨k, h1, h2⟩
      cases k with
      | zero => simp at h2
      | succ k => exact ⟨k, by simpa using h1, by simpa using h2⟩
  | false :: bs, r :: rs, i => by
    have : ioIx (false :: bs) (r :: rs) = ioIx bs rs := by cases r <;> rfl
    rw [this, ioIx_mem (bs := bs) (rs := rs)]
    constructor
    · rintro ⟨k, h1, h2⟩
      exact ⟨k + 1, by simpa using h1, by simpa using h2⟩
    · rintro ⟨k, h1, h2⟩
      cases k with
      | zero => simp at h1
      | succ k => exact ⟨k, by simpa using h1, by simpa using h2⟩
theorem rdIx_mem : ∀ {bs : List Bool} {rs : List R} {i : Nat}, i ∈ rdIx bs rs ↔ ∃ k : Nat, bs[k]? = some false ∧ rs[k]? = some (R.nm i)
  | [], rs, i => by simp [rdIx]
  | b :: bs, [], i => by cases b <;> simp [rdIx]
  | false :: bs, .nm j :: rs, i => by
    unfold rdIx
    rw [List.mem_cons, rdIx_mem (bs := bs) (rs := rs)]
    constructor
    · rintro (rfl | ⟨k, h1, h2⟩)
      · exact ⟨0, rfl, rfl⟩
      · exact ⟨k + 1, by simpa using h1, by simpa using h2⟩
    · rintro ⟨k, h1, h2⟩
      cases k with
      | zero => simp at h2; exact .inl h2.symm
      | succ k => exact .inr ⟨k, by simpa using h1, by simpa using h2⟩
  | false :: bs, .sh d :: rs, i => by
    unfold rdIx
    rw [rdIx_mem (bs := bs) (rs := rs)]
    constructor
    · rintro ⟨k, h1, h2⟩
      exact ⟨k + 1, by simpa using h1, by simpa using h2⟩
    · rintro ⟨k, h1, h2⟩
      cases k with
      | zero => simp at h2
      | succ k => exact ⟨k, by simpa using h1, by simpa using h2⟩
  | false :: bs, .ow d :: rs, i => by
    unfold rdIx
    rw [rdIx_mem (bs := bs) (rs := rs)]
    constructor
    · rintro ⟨k, h1, h2⟩
      exact ⟨k + 1, by simpa using h1, by simpa using h2⟩
    · rintro ⟨k, h1, h2⟩
      cases k with
      | zero => simp at h2
      | succ k => exact ⟨k, by simpa using h1, by simpa using h2⟩
  | true :: bs, r :: rs, i => by
    have : rdIx (true :: bs) (r :: rs) = rdIx bs rs := by cases r <;> rfl
    rw [this, rdIx_mem (bs := bs) (rs := rs)]
    constructor
    · rintro ⟨k, h1, h2⟩
      exact ⟨k + 1, by simpa using h1, by simpa using h2⟩
    · rintro ⟨k, h1, h2⟩
      cases k with
      | zero => simp at h1
      | succ k => exact ⟨k, by simpa using h1, by simpa using h2⟩
/-- how a slot behind comes -/
inductive BK (clean : Bool) (bs : List Bool) (rs : List R) (as : List Sl) (δ : List Sl) (j : Nat) (s : Sl) : Prop
  | keep : δ[j]? = some s → j ∉ ioIx bs rs → (clean = true ∨ j ∉ rdIx bs rs ∨ ∀ b d, s ≠ Sl.ow b d) → BK clean bs rs as δ j s
  | io {k : Nat} {f : Bool} {d : D} {b : Bool} {d' : D} : bs[k]? = some true → rs[k]? = some (R.nm j) → as[k]? = some (Sl.ow b d') → δ[j]? = some (Sl.ow f d) → s = Sl.ow f d' → BK clean bs rs as δ j s
  | rd {d : D} : clean = false → j ∈ rdIx bs rs → j ∉ ioIx bs rs → δ[j]? = some (Sl.ow false d) → s = Sl.sh d → BK clean bs rs as δ j s
theorem backs_len {clean : Bool} : ∀ {bs : List Bool} {rs : List R} {as δ δ2 : List Sl}, backs clean bs rs as δ = some δ2 → δ2.length = δ.length
  | [], [], [], δ, δ2, h => by cases h; rfl
  | [], [], _ :: _, δ, δ2, h => by cases h
  | [], _ :: _, _, δ, δ2, h => by cases h
  | true :: bs, [], as, δ, δ2, h => by cases as <;> cases h
  | true :: bs, .sh _ :: rs, as, δ, δ2, h => by cases h
  | true :: bs, .ow _ :: rs, as, δ, δ2, h => by cases h
  | true :: bs, .nm i :: rs, [], δ, δ2, h => by cases h
  | true :: bs, .nm i :: rs, .no :: as, δ, δ2, h => by cases h
  | true :: bs, .nm i :: rs, .sh _ :: as, δ, δ2, h => by cases h
  | true :: bs, .nm i :: rs, .ow _ d' :: as, δ, δ2, h => by
    unfold backs at h
    split at h
    · rw [backs_len h, List.length_set]
    · cases h
  | false :: bs, [], as, δ, δ2, h => by cases as <;> cases h
  | false :: bs, _ :: rs, [], δ, δ2, h => by rename_i r; cases r <;> cases h
  | false :: bs, .sh _ :: rs, _ :: as, δ, δ2, h => backs_len (bs := bs) (rs := rs) (as := as) h
  | false :: bs, .ow _ :: rs, _ :: as, δ, δ2, h => backs_len (bs := bs) (rs := rs) (as := as) h
  | false :: bs, .nm i :: rs, _ :: as, δ, δ2, h => by
    unfold backs at h
    split at h
    · exact backs_len h
    · split at h
      · rw [backs_len h, List.length_set]
      · cases h
      · exact backs_len h
theorem get_set {δ : List Sl} {i j : Nat} {a s : Sl} (h : (δ.set i a)[j]? = some s) : (j = i ∧ s = a ∧ i < δ.length) ∨ (j ≠ i ∧ δ[j]? = some s) := by
  by_cases e : i = j
  · subst e
    by_cases hi : i < δ.length
    · rw [List.getElem?_set_self hi] at h
      cases h
      exact .inl ⟨rfl, rfl, hi⟩
    · rw [List.getElem?_eq_none (by rw [List.length_set]; omega)] at h; cases h
  · rw [List.getElem?_set_ne e] at h
    exact .inr ⟨Ne.symm e, h⟩
theorem backs_bk {clean : Bool} : ∀ {bs : List Bool} {rs : List R} {as δ δ2 : List Sl}, backs clean bs rs as δ = some δ2 → (ioIx bs rs).Nodup → (∀ i ∈ ioIx bs rs, i ∉ rdIx bs rs) → ∀ j s, δ2[j]? = some s → BK clean bs rs as δ j s
  | [], [], [], δ, δ2, h, _, _ => fun j s e => by
    cases h
    exact .keep e (by simp [ioIx]) (.inr (.inl (by simp [rdIx])))
  | [], [], _ :: _, δ, δ2, h, _, _ => by cases h
  | [], _ :: _, _, δ, δ2, h, _, _ => by cases h
  | true :: bs, [], as, δ, δ2, h, _, _ => by cases as <;> cases h
  | true :: bs, .sh _ :: rs, as, δ, δ2, h, _, _ => by cases h
  | true :: bs, .ow _ :: rs, as, δ, δ2, h, _, _ => by cases h
  | true :: bs, .nm i :: rs, [], δ, δ2, h, _, _ => by cases h
  | true :: bs, .nm i :: rs, .no :: as, δ, δ2, h, _, _ => by cases h
  | true :: bs, .nm i :: rs, .sh _ :: as, δ, δ2, h, _, _ => by cases h
  | true :: bs, .nm i :: rs, .ow b d' :: as, δ, δ2, h, nd, ap => fun j s e => by
    unfold backs at h
    have nd' : i ∉ ioIx bs rs ∧ (ioIx bs rs).Nodup := List.nodup_cons.mp nd
    have ap' : ∀ i ∈ ioIx bs rs, i ∉ rdIx bs rs := fun i' hi => ap i' (List.mem_cons_of_mem _ hi)
    have ri : i ∉ rdIx bs rs := ap i List.mem_cons_self
    split at h
    · rename_i f d0 q
      rcases backs_bk h nd'.2 ap' j s e with h1 | ⟨h1, h2, h3, h4, h5⟩ | ⟨h1, h2, h3, h4, h5⟩
      · rename_i h2 h3
        rcases get_set h1 with ⟨rfl, rfl, _⟩ | ⟨n, h1⟩
        · exact .io (k := 0) rfl rfl rfl q rfl
        · exact .keep h1 (fun z => (List.mem_cons.mp z).elim n h2) h3
      · rename_i k f' d1 b' d2
        rcases get_set h4 with ⟨rfl, _, _⟩ | ⟨n, h4⟩
        · exact absurd (ioIx_mem.mpr ⟨k, h1, h2⟩) nd'.1
        · exact .io (k := k + 1) (by simpa using h1) (by simpa using h2) (by simpa using h3) h4 h5
      · rename_i d1
        rcases get_set h4 with ⟨rfl, _, _⟩ | ⟨n, h4⟩
        · exact absurd h2 ri
        · exact .rd h1 h2 (fun z => (List.mem_cons.mp z).elim n h3) h4 h5
    · cases h
  | false :: bs, [], as, δ, δ2, h, _, _ => by cases as <;> cases h
  | false :: bs, r :: rs, [], δ, δ2, h, _, _ => by cases r <;> cases h
  | false :: bs, .sh d0 :: rs, a :: as, δ, δ2, h, nd, ap => fun j s e => by
    rcases backs_bk (bs := bs) (rs := rs) (as := as) h nd ap j s e with h1 | ⟨h1, h2, h3, h4, h5⟩ | ⟨h1, h2, h3, h4, h5⟩
    · rename_i h2 h3
      exact .keep h1 h2 h3
    · rename_i k f d b d'
      exact .io (k := k + 1) (by simpa using h1) (by simpa using h2) (by simpa using h3) h4 h5
    · exact .rd h1 h2 h3 h4 h5
  | false :: bs, .ow d0 :: rs, a :: as, δ, δ2, h, nd, ap => fun j s e => by
    rcases backs_bk (bs := bs) (rs := rs) (as := as) h nd ap j s e with h1 | ⟨h1, h2, h3, h4, h5⟩ | ⟨h1, h2, h3, h4, h5⟩
    · rename_i h2 h3
      exact .keep h1 h2 h3
    · rename_i k f d b d'
      exact .io (k := k + 1) (by simpa using h1) (by simpa using h2) (by simpa using h3) h4 h5
    · exact .rd h1 h2 h3 h4 h5
  | false :: bs, .nm i :: rs, a :: as, δ, δ2, h, nd, ap => fun j s e => by
    have nd' : (ioIx bs rs).Nodup := nd
    have ap' : ∀ i ∈ ioIx bs rs, i ∉ rdIx bs rs := fun i' hi z => ap i' hi (List.mem_cons_of_mem _ z)
    have ii : i ∉ ioIx bs rs := fun z => ap i z List.mem_cons_self
    unfold backs at h
    split at h
    · rename_i hc
      rcases backs_bk (bs := bs) (rs := rs) (as := as) h nd' ap' j s e with h1 | ⟨h1, h2, h3, h4, h5⟩ | ⟨h1, h2, h3, h4, h5⟩
      · rename_i h2 h3
        exact .keep h1 h2 (.inl hc)
      · rename_i k f d b d'
        exact .io (k := k + 1) (by simpa using h1) (by simpa using h2) (by simpa using h3) h4 h5
      · rw [hc] at h1; cases h1
    · rename_i hc
      have hc : clean = false := by simpa using hc
      split at h
      · rename_i d0 q
        rcases backs_bk (bs := bs) (rs := rs) (as := as) h nd' ap' j s e with h1 | ⟨h1, h2, h3, h4, h5⟩ | ⟨h1, h2, h3, h4, h5⟩
        · rename_i h2 h3
          rcases get_set h1 with ⟨rfl, rfl, _⟩ | ⟨n, h1⟩
          · exact .rd hc List.mem_cons_self h2 q rfl
          · refine .keep h1 h2 (h3.imp id fun z => z.imp (fun z z' => (List.mem_cons.mp z').elim n z) id)
        · rename_i k f d b d'
          rcases get_set h4 with ⟨rfl, z, _⟩ | ⟨n, h4⟩
          · cases z
          · exact .io (k := k + 1) (by simpa using h1) (by simpa using h2) (by simpa using h3) h4 h5
        · rename_i d1
          rcases get_set h4 with ⟨rfl, z, _⟩ | ⟨n, h4⟩
          · cases z
          · exact .rd h1 (List.mem_cons_of_mem _ h2) h3 h4 h5
      · cases h
      · rename_i n1 n2
        rcases backs_bk (bs := bs) (rs := rs) (as := as) h nd' ap' j s e with h1 | ⟨h1, h2, h3, h4, h5⟩ | ⟨h1, h2, h3, h4, h5⟩
        · rename_i h2 h3
          refine .keep h1 h2 ?_
          rcases h3 with h3 | h3 | h3
          · exact .inl h3
          · by_cases ji : j = i
            · subst ji
              refine .inr (.inr fun b d z => ?_)
              subst z
              cases b with
              | false => exact n1 d h1
              | true => exact n2 d h1
            · exact .inr (.inl fun z => (List.mem_cons.mp z).elim ji h3)
          · exact .inr (.inr h3)
        · rename_i k f d b d'
          exact .io (k := k + 1) (by simpa using h1) (by simpa using h2) (by simpa using h3) h4 h5
        · exact .rd h1 (List.mem_cons_of_mem _ h2) h3 h4 h5
end PV
/-! PVG: the rule of a call. -/
namespace PV
open PySem PySem.Spec PyProof.Rows L2

section
variable {M : KM} {F : Fm} {δ : List Sl} {σ : Sg} {P : Nat → Addr} {G G' H H' : Hp} {W : WX} {Q : VK}

theorem RRs.get : ∀ {rs : List R} {vs : List V}, RRs M F δ σ P G H rs vs → ∀ (k : Nat) r, rs[k]? = some r → ∃ v, vs[k]? = some v ∧ RR M F δ σ P G H r v
  | [], _, h, k, r, e => by simp at e
  | r :: rs, _, ⟨v, t, e, h1, h2⟩, 0, r', q => by simp at q; subst q; rw [e]; exact ⟨v, rfl, h1⟩
  | r :: rs, _, ⟨v, t, e, h1, h2⟩, k + 1, r', q => by
    rw [e]
    obtain ⟨u, h3, h4⟩ := RRs.get h2 k r' (by simpa using q)
    exact ⟨u, by simpa using h3, h4⟩
theorem RRs.length : ∀ {rs : List R} {vs : List V}, RRs M F δ σ P G H rs vs → vs.length = rs.length
  | [], _, h => by rw [h]; rfl
  | r :: rs, _, ⟨v, t, e, _, h⟩ => by rw [e]; simp [RRs.length h]

/-- how an argument's slot comes -/
inductive AK (δ : List Sl) (io : List Bool) (rs : List R) (k : Nat) (s : Sl) : Prop
  | sh {d : D} : io[k]? = some false → rs[k]? = some (R.sh d) → s = .sh d → AK δ io rs k s
  | nm {i : Nat} {d : D} : io[k]? = some false → rs[k]? = some (R.nm i) → look (.nm i) δ = some d → s = .sh d → AK δ io rs k s
  | io {i : Nat} {f : Bool} {d : D} : io[k]? = some true → rs[k]? = some (R.nm i) → δ[i]? = some (Sl.ow f d) → s = .ow true d → AK δ io rs k s
theorem args_ak : ∀ {io : List Bool} {rs : List R} {as : List Sl}, argsOf δ io rs = some as → as.length = rs.length ∧ io.length = rs.length ∧ ∀ (k : Nat) s, as[k]? = some s → AK δ io rs k s
  | [], [], as, h => by cases h; exact ⟨rfl, rfl, fun k s e => by simp at e⟩
  | [], _ :: _, as, h => by cases h
  | b :: bs, [], as, h => by cases b <;> cases h
  | false :: bs, .sh d :: rs, as, h => by
    have h : (argsOf δ bs rs).map (Sl.sh d :: ·) = some as := h
    cases e : argsOf δ bs rs with
    | none => rw [e] at h; cases h
    | some t =>
      rw [e] at h
      cases h
      obtain ⟨l1, l2, f⟩ := args_ak e
      refine ⟨by simp [l1], by simp [l2], fun k s q => ?_⟩
      cases k with
      | zero => simp at q; exact .sh rfl rfl q.symm
      | succ k =>
        rcases f k s (by simpa using q) with ⟨a, b, c⟩ | ⟨a, b, c, e⟩ | ⟨a, b, c, e⟩
        · exact .sh (by simpa using a) (by simpa using b) c
        · exact .nm (by simpa using a) (by simpa using b) c e
        · exact .io (by simpa using a) (by simpa using b) c e
  | false :: bs, .ow d :: rs, as, h => by cases h
  | true :: bs, .sh d :: rs, as, h => by cases h
  | true :: bs, .ow d :: rs, as, h => by cases h
  | false :: bs, .nm i :: rs, as, h => by
    unfold argsOf at h
    split at h
    · rename_i d t e0 e
      cases h
      obtain ⟨l1, l2, f⟩ := args_ak e
      refine ⟨by simp [l1], by simp [l2], fun k s q => ?_⟩
      cases k with
      | zero => simp at q; exact .nm rfl rfl e0 q.symm
      | succ k =>
        rcases f k s (by simpa using q) with ⟨a, b, c⟩ | ⟨a, b, c, e⟩ | ⟨a, b, c, e⟩
        · exact .sh (by simpa using a) (by simpa using b) c
        · exact .nm (by simpa using a) (by simpa using b) c e
        · exact .io (by simpa using a) (by simpa using b) c e
    · cases h
  | true :: bs, .nm i :: rs, as, h => by
    unfold argsOf at h
    split at h
    · rename_i b d t e0 e
      cases h
      obtain ⟨l1, l2, f⟩ := args_ak e
      refine ⟨by simp [l1], by simp [l2], fun k s q => ?_⟩
      cases k with
      | zero => simp at q; exact .io rfl rfl e0 q.symm
      | succ k =>
        rcases f k s (by simpa using q) with ⟨a, b, c⟩ | ⟨a, b, c, e⟩ | ⟨a, b, c, e⟩
        · exact .sh (by simpa using a) (by simpa using b) c
        · exact .nm (by simpa using a) (by simpa using b) c e
        · exact .io (by simpa using a) (by simpa using b) c e
    · cases h
theorem io_inj : ∀ {bs : List Bool} {rs : List R} {k k' i : Nat}, (ioIx bs rs).Nodup → bs[k]? = some true → rs[k]? = some (R.nm i) → bs[k']? = some true → rs[k']? = some (R.nm i) → k = k'
  | [], _, k, _, _, _, e, _, _, _ => by simp at e
  | _ :: _, [], k, _, _, _, _, e, _, _ => by simp at e
  | b :: bs, r :: rs, 0, 0, i, _, _, _, _, _ => rfl
  | b :: bs, r :: rs, 0, k' + 1, i, nd, h1, h2, h3, h4 => by
    simp at h1 h2
    subst h1 h2
    have := (List.nodup_cons.mp nd).1
    exact absurd (ioIx_mem.mpr ⟨k', by simpa using h3, by simpa using h4⟩) this
  | b :: bs, r :: rs, k + 1, 0, i, nd, h1, h2, h3, h4 => by
    simp at h3 h4
    subst h3 h4
    have := (List.nodup_cons.mp nd).1
    exact absurd (ioIx_mem.mpr ⟨k, by simpa using h1, by simpa using h2⟩) this
  | b :: bs, r :: rs, k + 1, k' + 1, i, nd, h1, h2, h3, h4 => by
    have nd' : (ioIx bs rs).Nodup := by
      cases b with
      | false =>
        have : ioIx (false :: bs) (r :: rs) = ioIx bs rs := by cases r <;> rfl
        rw [this] at nd; exact nd
      | true =>
        cases r with
        | sh d => exact nd
        | ow d => exact nd
        | nm j => exact (List.nodup_cons.mp nd).2
    exact congrArg (· + 1) (io_inj nd' (by simpa using h1) (by simpa using h2) (by simpa using h3) (by simpa using h4))
theorem clean_at : ∀ {bs : List Bool} {as : List Sl} {k : Nat} {b : Bool} {d : D}, cleanA bs as = true → bs[k]? = some true → as[k]? = some (Sl.ow b d) → immC d = true
  | [], _, k, _, _, _, e, _ => by simp at e
  | _ :: _, [], k, _, _, _, _, e => by simp at e
  | true :: bs, s :: as, 0, b, d, h, _, e => by simp at e; subst e; exact and_l h
  | false :: bs, s :: as, 0, b, d, h, e, _ => by simp at e
  | c :: bs, s :: as, k + 1, b, d, h, e1, e2 => by
    refine clean_at (bs := bs) (as := as) (k := k) ?_ (by simpa using e1) (by simpa using e2)
    cases c with
    | false => exact h
    | true => cases s with
      | no => exact h
      | sh _ => exact h
      | ow _ _ => exact and_r h

/-- the shared part for the callee: G and the containers that it reads -/
def rdHp (G H : Hp) (A : List Addr) : Hp := fun a => if a ∈ A then H a else G a
def unHp (G : Hp) (A : List Addr) : Hp := fun a => if a ∈ A then none else G a
end

section
variable {M : KM} {F : Fm} {δ : List Sl} {σ : Sg} {P : Nat → Addr} {G G' H H' : Hp} {W : WX} {Q : VK}
/-- what a place is lent or read as -/
def isOw (δ : List Sl) (i : Nat) : Bool := match δ[i]? with
  | some (.ow _ _) => true
  | _ => false
theorem isOw_iff {i : Nat} : isOw δ i = true ↔ ∃ b d, δ[i]? = some (.ow b d) := by
  unfold isOw
  split
  · rename_i b d e; exact ⟨fun _ => ⟨b, d, e⟩, fun _ => rfl⟩
  · rename_i n
    refine ⟨fun z => (by cases z), fun z => ?_⟩
    obtain ⟨b, d, e⟩ := z
    exact (n b d e).elim

theorem call_in {io : List Bool} {rs : List R} {as : List Sl} {vs : List V} (S : SR M F δ σ P G H) (rr : RRs M F δ σ P G H rs vs) (ap : apart io rs = true) (e : argsOf δ io rs = some as) :
    ∃ Pc, SR M (frm H (rdHp G H (((rdIx io rs).filter (isOw δ)).map P)) ((ioIx io rs).map P) Pc) as (vs.map some) Pc (rdHp G H (((rdIx io rs).filter (isOw δ)).map P)) H ∧ (∀ (k j : Nat), io[k]? = some true → rs[k]? = some (R.nm j) → Pc k = P j) := by
  obtain ⟨l1, l2, ak⟩ := args_ak e
  have nd : (ioIx io rs).Nodup := of_decide_eq_true (and_l ap)
  have dj : ∀ i ∈ ioIx io rs, i ∉ rdIx io rs := fun i hi hr => by
    have := List.all_eq_true.mp (and_r ap) i hi
    simp [hr] at this
  refine ⟨fun k => match rs[k]? with | some (.nm j) => P j | _ => 0, ?_, fun k j _ h => by dsimp only; rw [h]⟩
  have inRD : ∀ {i : Nat} {b d}, i ∈ rdIx io rs → δ[i]? = some (.ow b d) → P i ∈ ((rdIx io rs).filter (isOw δ)).map P := fun hi hd => List.mem_map.mpr ⟨_, List.mem_filter.mpr ⟨hi, isOw_iff.mpr ⟨_, _, hd⟩⟩, rfl⟩
  have gg : Same G (rdHp G H (((rdIx io rs).filter (isOw δ)).map P)) := fun a o h => by
    unfold rdHp
    split
    · exact S.g a o h
    · exact h
  have gh : Same (rdHp G H (((rdIx io rs).filter (isOw δ)).map P)) H := fun a o h => by
    unfold rdHp at h
    split at h
    · exact h
    · exact S.g a o h
  refine ⟨by rw [l1, List.length_map, rr.length], fun k d q => ?_, fun k b d q => ?_, fun k k' b d b' d' q q' z => ?_, fun a o h => ?_, gh, Same.refl _, fun a o h => .inl h, fun a o h z => (by rw [show H a = some o from h] at z; cases z)⟩
  · rcases ak k _ q with ⟨a, b, c⟩ | ⟨a, b, c, e⟩ | ⟨a, b, c, e⟩
    · cases c
      obtain ⟨v, h1, h2⟩ := rr.get k _ b
      exact ⟨v, by simp [h1], Rp.mono gg _ h2⟩
    · cases e
      obtain ⟨v, h1, h2⟩ := rr.get k _ b
      refine ⟨v, by simp [h1], ?_⟩
      rename_i i
      rcases hh : δ[i]? with _ | s
      · unfold look at c; dsimp only at c; rw [hh] at c; cases c
      · cases s with
        | no => unfold look at c; dsimp only at c; rw [hh] at c; cases c
        | sh d' =>
          unfold look at c; dsimp only at c; rw [hh] at c; cases c
          obtain ⟨u, h3, h4⟩ := S.sh i _ hh
          rw [show σ[i]? = some (some v) from h2] at h3
          cases h3
          exact Rp.mono gg _ h4
        | ow b' d' =>
          unfold look at c; dsimp only at c; rw [hh] at c; cases c
          obtain ⟨h3, h4, _⟩ := S.ow i _ _ hh
          rw [show σ[i]? = some (some v) from h2] at h3
          cases h3
          refine OwnAt.rp' gg ?_ h4
          unfold rdHp
          rw [if_pos (inRD (rdIx_mem.mpr ⟨k, a, b⟩) hh)]
    · cases e
  · rcases ak k _ q with ⟨a, b, c⟩ | ⟨a, b, c, e⟩ | ⟨a, b', c, e⟩
    · cases c
    · cases e
    · cases e
      rename_i i f
      obtain ⟨v, h1, h2⟩ := rr.get k _ b'
      obtain ⟨h3, h4, h5, _⟩ := S.ow i _ _ c
      rw [show σ[i]? = some (some v) from h2] at h3
      cases h3
      have hio : i ∈ ioIx io rs := ioIx_mem.mpr ⟨k, a, b'⟩
      have hP : P i ∈ (ioIx io rs).map P := List.mem_map.mpr ⟨i, hio, rfl⟩
      have eP : (match rs[k]? with | some (.nm j) => P j | _ => 0) = P i := by rw [b']
      rw [eP]
      refine ⟨by simp [h1], h4.mono gg rfl, ?_, if_pos hP, fun z => (by cases z), fun _ => (by show (match rs[k]? with | some (.nm j) => P j | _ => 0) = P i; rw [b'])⟩
      unfold rdHp
      rw [if_neg, h5]
      intro z
      obtain ⟨j, hj, ej⟩ := List.mem_map.mp z
      obtain ⟨hj1, hj2⟩ := List.mem_filter.mp hj
      obtain ⟨b2, d2, hj2⟩ := isOw_iff.mp hj2
      exact dj i hio (S.ap _ _ _ _ _ _ hj2 c ej ▸ hj1)
  · rcases ak k _ q with ⟨a, b, c⟩ | ⟨a, b, c, e⟩ | ⟨a, b, c, e⟩
    · cases c
    · cases e
    · rcases ak k' _ q' with ⟨a', b', c'⟩ | ⟨a', b', c', e'⟩ | ⟨a', b', c', e'⟩
      · cases c'
      · cases e'
      · simp only [b, b'] at z
        have hi := S.ap _ _ _ _ _ _ c c' z
        subst hi
        exact io_inj nd a b a' b'
  · have h : (if a ∈ (ioIx io rs).map P then none else H a) = some o := h
    split at h
    · cases h
    · exact h

theorem call_out {io : List Bool} {rs : List R} {as as' δ2 : List Sl} {vs : List V} {P' IO : Nat → Addr} {clean : Bool} (S : SR M F δ σ P G H) (rr : RRs M F δ σ P G H rs vs) (ap : apart io rs = true)
    (S' : SR M (frm H (rdHp G H (((rdIx io rs).filter (isOw δ)).map P)) ((ioIx io rs).map P) IO) as' (vs.map some) P' G' H') (hc : clean = true → cleanA io as' = true) (e0 : argsOf δ io rs = some as) (hPc : ∀ (k j : Nat) v, io[k]? = some true → rs[k]? = some (R.nm j) → vs[k]? = some v → v = .ref (P j)) (e : backs clean io rs as' δ = some δ2) :
    ∃ G2, SR M F δ2 σ P G2 H' ∧ Same G G2 ∧ (∀ a o, G2 a = some o → G' a = some o) ∧ (clean = false → G2 = G') ∧ (clean = true → ∀ a o, G' a = some o → (∃ xs, o = .tup xs) ∨ (∃ ob xs, o = .frz ob (.tup xs)) → G2 a = some o) := by
  have nd : (ioIx io rs).Nodup := of_decide_eq_true (and_l ap)
  have dj : ∀ i ∈ ioIx io rs, i ∉ rdIx io rs := fun i hi hr => by
    have := List.all_eq_true.mp (and_r ap) i hi
    simp [hr] at this
  have bk := backs_bk e nd dj
  have len := backs_len e
  obtain ⟨A, hA⟩ : ∃ A, A = ((rdIx io rs).filter (isOw δ)).map P := ⟨_, rfl⟩
  rw [← hA] at S'
  have memA : ∀ {a}, a ∈ A → ∃ i b d, i ∈ rdIx io rs ∧ δ[i]? = some (.ow b d) ∧ P i = a := fun h => by
    rw [hA] at h
    obtain ⟨j, hj, ej⟩ := List.mem_map.mp h
    obtain ⟨hj1, hj2⟩ := List.mem_filter.mp hj
    obtain ⟨b2, d2, hj2⟩ := isOw_iff.mp hj2
    exact ⟨j, b2, d2, hj1, hj2, ej⟩
  have inA : ∀ {i : Nat} {b d}, i ∈ rdIx io rs → δ[i]? = some (.ow b d) → P i ∈ A := fun hi hd => hA ▸ List.mem_map.mpr ⟨_, List.mem_filter.mpr ⟨hi, isOw_iff.mpr ⟨_, _, hd⟩⟩, rfl⟩
  have g0 : Same (rdHp G H A) G' := S'.g0
  have gA : ∀ {i : Nat} {b d}, i ∈ rdIx io rs → δ[i]? = some (.ow b d) → G' (P i) = H (P i) := fun hi hd => by
    obtain ⟨o, ho⟩ := (S.ow _ _ _ hd).2.1.ex
    rw [ho]
    refine g0 _ _ ?_
    unfold rdHp
    rw [if_pos (inA hi hd), ho]
  have keepH : ∀ {a o}, H a = some o → a ∉ (ioIx io rs).map P → H' a = some o := fun {a o} h n => S'.t a o (by
    show (if a ∈ (ioIx io rs).map P then none else H a) = some o
    rw [if_neg n, h])
  have gG : Same G G' := fun a o h => g0 a o (by
    unfold rdHp
    split
    · exact S.g a o h
    · exact h)
  refine ⟨if clean = true then unHp G' A else G', ?_⟩
  have g2 : ∀ a o, (if clean = true then unHp G' A else G') a = some o → G' a = some o := fun a o h => by
    split at h
    · unfold unHp at h
      split at h
      · cases h
      · exact h
    · exact h
  have GA : ∀ a, a ∈ A → G a = none := fun a h => by
    obtain ⟨i, b, d, _, h2, rfl⟩ := memA h
    exact (S.ow _ _ _ h2).2.2.1
  have gG2 : Same G (if clean = true then unHp G' A else G') := fun a o h => by
    split
    · unfold unHp
      rw [if_neg, gG a o h]
      intro z
      rw [GA a z] at h; cases h
    · exact gG a o h
  have imm : clean = true → ∀ a o, G' a = some o → (∃ xs, o = .tup xs) ∨ (∃ ob xs, o = .frz ob (.tup xs)) → (if clean = true then unHp G' A else G') a = some o := fun hc a o h z => by
    rw [if_pos hc]
    unfold unHp
    rw [if_neg, h]
    intro ha
    obtain ⟨i, b, d, h1, h2, rfl⟩ := memA ha
    obtain ⟨u, hu, nu⟩ := (S.ow _ _ _ h2).2.1.shape
    rw [gA h1 h2, hu] at h
    cases h
    exact nu z
  have lent : ∀ i ∈ ioIx io rs, ∃ f d, δ[i]? = some (Sl.ow f d) := fun i hi => by
    obtain ⟨k, hk1, hk2⟩ := ioIx_mem.mp hi
    obtain ⟨l1, l2, ak⟩ := args_ak e0
    have hk : k < as.length := by rw [l1]; exact (List.getElem?_eq_some_iff.mp hk2).1
    rcases ak k _ (List.getElem?_eq_getElem hk) with ⟨a, b, c⟩ | ⟨a, b, c, e⟩ | ⟨a, b, c, e⟩
    · rw [hk1] at a; cases a
    · rw [hk1] at a; cases a
    · rw [hk2] at b; cases b; exact ⟨_, _, c⟩
  have notio : ∀ {j : Nat} {b d}, δ[j]? = some (.ow b d) → j ∉ ioIx io rs → P j ∉ (ioIx io rs).map P := fun {j b d} hj hn z => by
    obtain ⟨i, hi, ei⟩ := List.mem_map.mp z
    obtain ⟨k, hk1, hk2⟩ := ioIx_mem.mp hi
    obtain ⟨f, d', hd'⟩ := lent i hi
    exact hn (S.ap _ _ _ _ _ _ hd' hj ei ▸ hi)
  -- an own slot behind was one ahead
  have was : ∀ {j : Nat} {b : Bool} {d : D}, δ2[j]? = some (.ow b d) → ∃ d', δ[j]? = some (.ow b d') := fun {j b d} h => by
    rcases bk j _ h with h1 | ⟨h1, h2, h3, h4, h5⟩ | ⟨h1, h2, h3, h4, h5⟩
    · exact ⟨_, h1⟩
    · cases h5; exact ⟨_, h4⟩
    · cases h5
  have rdOwn : clean = false → ∀ {j : Nat} {b : Bool} {d : D}, j ∈ rdIx io rs → δ[j]? = some (.ow b d) → b = false := fun hcf j b d hj hd => by
    have hl : j < δ2.length := by rw [len]; exact (List.getElem?_eq_some_iff.mp hd).1
    rcases bk j _ (List.getElem?_eq_getElem hl) with h1 | ⟨h1, h2, h3, h4, h5⟩ | ⟨h1, h2, h3, h4, h5⟩
    · rename_i h2 h3
      rw [hd] at h1
      rcases h3 with h3 | h3 | h3
      · rw [hcf] at h3; cases h3
      · exact absurd hj h3
      · exact (h3 b d (Option.some.inj h1).symm).elim
    · exact absurd hj (dj j (ioIx_mem.mpr ⟨_, h1, h2⟩))
    · rw [hd] at h4; cases h4; rfl
  have g2n : ∀ {a o}, (if clean = true then unHp G' A else G') a = some o → clean = true → a ∉ A := fun {a o} h hc z => by
    rw [if_pos hc] at h
    unfold unHp at h
    rw [if_pos z] at h
    cases h
  refine ⟨⟨by rw [len, S.len], fun j d q => ?_, fun j b d q => ?_, fun j j' b d b' d' q q' z => ?_, fun a o h => ?_, fun a o h => S'.g a o (g2 a o h), S.g0.trans gG2, fun a o h => ?_, fun a o h z => ?_⟩, gG2, g2, fun h => by rw [h]; rfl, imm⟩
  · rcases bk j _ q with h1 | ⟨h1, h2, h3, h4, h5⟩ | ⟨h1, h2, h3, h4, h5⟩
    · obtain ⟨v, k1, k2⟩ := S.sh j _ h1
      exact ⟨v, k1, Rp.mono gG2 _ k2⟩
    · cases h5
    · cases h5
      obtain ⟨k1, k2, _⟩ := S.ow j _ _ h4
      refine ⟨_, k1, ?_⟩
      have : (if clean = true then unHp G' A else G') = G' := by rw [h1]; rfl
      rw [this]
      exact OwnAt.rp' gG (gA h2 h4) k2
  · rcases bk j _ q with h1 | ⟨h1, h2, h3, h4, h5⟩ | ⟨h1, h2, h3, h4, h5⟩
    · rename_i h2 h3
      obtain ⟨k1, k2, k3, k4⟩ := S.ow j _ _ h1
      obtain ⟨o, ho⟩ := k2.ex
      refine ⟨k1, k2.mono gG2 ((keepH ho (notio h1 h2)).trans ho.symm), ?_, k4⟩
      cases hz : (if clean = true then unHp G' A else G') (P j) with
      | none => rfl
      | some u =>
        have hnA : P j ∉ A := by
          rcases h3 with h3 | h3 | h3
          · exact g2n hz h3
          · intro z
            obtain ⟨i, b', d', i1, i2, i3⟩ := memA z
            exact h3 (S.ap _ _ _ _ _ _ i2 h1 i3 ▸ i1)
          · exact (h3 _ _ rfl).elim
        rcases S'.gn _ _ (g2 _ _ hz) with w | w
        · have w : rdHp G H A (P j) = some u := w
          unfold rdHp at w
          rw [if_neg hnA, k3] at w
          cases w
        · have w : H (P j) = none := w
          rw [ho] at w; cases w
    · rename_i k f d0 b' d1
      cases h5
      obtain ⟨k1, k2, k3, k4⟩ := S.ow j _ _ h4
      obtain ⟨m1, m2, m3, _⟩ := S'.ow k _ _ h3
      have hv : ∃ v, vs[k]? = some v ∧ v = .ref (P' k) := by
        rw [List.getElem?_map] at m1
        cases hv : vs[k]? with
        | none => rw [hv] at m1; cases m1
        | some v => rw [hv] at m1; cases m1; exact ⟨_, rfl, rfl⟩
      obtain ⟨v, hv, ev⟩ := hv
      have := hPc k j v h1 h2 hv
      rw [ev] at this
      have eP : P' k = P j := by injection this
      rw [eP] at m2 m3
      have gz : (if clean = true then unHp G' A else G') (P j) = none := by
        cases hz : (if clean = true then unHp G' A else G') (P j) with
        | none => rfl
        | some u => rw [g2 _ _ hz] at m3; cases m3
      refine ⟨k1, ?_, gz, k4⟩
      cases hcl : clean with
      | false => exact m2
      | true =>
        rw [hcl] at imm hc
        exact OwnAt.less (imm rfl) m2 (clean_at (hc rfl) h1 h3)
    · cases h5
  · obtain ⟨e1, w1⟩ := was q
    obtain ⟨e2, w2⟩ := was q'
    exact S.ap _ _ _ _ _ _ w1 w2 z
  · refine keepH (S.t a o h) fun z => ?_
    obtain ⟨i, hi, ei⟩ := List.mem_map.mp z
    obtain ⟨f, d', hd'⟩ := lent i hi
    have := (S.ow _ _ _ hd').2.2.2.1
    rw [ei, h] at this; cases this
  · rcases S'.gn _ _ (g2 _ _ h) with w | w
    · have w : rdHp G H A a = some o := w
      unfold rdHp at w
      split at w
      · rename_i ha
        obtain ⟨i, b', d', i1, i2, i3⟩ := memA ha
        cases hcl : clean with
        | true => exact absurd ha (g2n h hcl)
        | false =>
          have := rdOwn hcl i1 i2
          subst this
          rw [← i3]
          exact .inr ((S.ow _ _ _ i2).2.2.2.2.1 rfl)
      · exact S.gn a o w
    · have w : H a = none := w
      refine .inr ?_
      cases e : F.B a with
      | none => rfl
      | some u => exact absurd w (S.b a u e)
  · cases e : H a with
    | none => exact S.b a o h e
    | some u => exact S'.b a u e z
end

section
variable {M : KM} {F : Fm} {δ : List Sl} {σ : Sg} {P : Nat → Addr} {G G' H H' : Hp} {W : WX} {Q : VK}
theorem run_call {f : List Sl → Out R} {io : List Bool} {rs : List R} {vs : List V} (S : SR M F δ σ P G H) (rr : RRs M F δ σ P G H rs vs) (h : EPost M W F σ G Q (callK f io rs δ)) :
    spD M rs.length f vs H Q (fun cls d H' => W cls d σ H') := by
  unfold callK at h
  cases ap : apart io rs with
  | false => rw [ap] at h; exact h.elim
  | true =>
  rw [ap, if_pos rfl] at h
  cases ea : argsOf δ io rs with
  | none => rw [ea] at h; exact h.elim
  | some as =>
  rw [ea] at h
  dsimp only at h
  obtain ⟨Pc, Sc, _⟩ := call_in S rr ap ea
  have hPc : ∀ (k j : Nat) v, io[k]? = some true → rs[k]? = some (R.nm j) → vs[k]? = some v → v = .ref (P j) := fun k j v h1 h2 h3 => by
    obtain ⟨u, h4, h5⟩ := rr.get k _ h2
    rw [h3] at h4
    cases h4
    obtain ⟨l1, l2, ak⟩ := args_ak ea
    have hk : k < as.length := by rw [l1]; exact (List.getElem?_eq_some_iff.mp h2).1
    rcases ak k _ (List.getElem?_eq_getElem hk) with ⟨a, b, c⟩ | ⟨a, b, c, e⟩ | ⟨a, b, c, e⟩
    · rw [h1] at a; cases a
    · rw [h1] at a; cases a
    · rw [h2] at b; cases b
      have := (S.ow _ _ _ c).1
      rw [show σ[j]? = some (some v) from h5] at this
      cases this
      rfl
  refine ⟨rr.length, as, Pc, _, _, _, Sc, ?_⟩
  cases ef : f as with
  | st => rw [ef] at h; exact h.elim
  | ex c as' =>
    rw [ef] at h
    have h : EPost M W F σ G Q (match backs (cleanA io as') io rs as' δ with | some δ2 => .ex c δ2 | none => .st) := h
    cases eb : backs (cleanA io as') io rs as' δ with
    | none => rw [eb] at h; exact h.elim
    | some δ2 =>
    rw [eb] at h
    intro C P' G' H' hc S' g'
    obtain ⟨G2, S2, g2, _⟩ := call_out S rr ap S' (fun z => z) ea hPc eb
    exact h C P G2 H' hc S2 g2
  | ok r as' =>
    rw [ef] at h
    cases r with
    | nm i => exact h.elim
    | sh d =>
      have h : EPost M W F σ G Q (match backs (immR (.sh d) && cleanA io as') io rs as' δ with | some δ2 => .ok (.sh d) δ2 | none => .st) := h
      cases eb : backs (immR (.sh d) && cleanA io as') io rs as' δ with
      | none => rw [eb] at h; exact h.elim
      | some δ2 =>
      rw [eb] at h
      intro P' G' H' S' g' v hv
      obtain ⟨G2, S2, g2, k2, e2, i2⟩ := call_out S rr ap S' (fun z => and_r z) ea hPc eb
      refine h P G2 H' S2 g2 v ?_
      cases hcl : (immR (.sh d) && cleanA io as') with
      | false => rw [e2 hcl]; exact hv
      | true => exact Rp.less (i2 hcl) d hv (and_l hcl)
    | ow d =>
      have h : EPost M W F σ G Q (match backs (immR (.ow d) && cleanA io as') io rs as' δ with | some δ2 => .ok (.ow d) δ2 | none => .st) := h
      cases eb : backs (immR (.ow d) && cleanA io as') io rs as' δ with
      | none => rw [eb] at h; exact h.elim
      | some δ2 =>
      rw [eb] at h
      intro P' G' H' S' g' v hv
      obtain ⟨G2, S2, g2, k2, e2, i2⟩ := call_out S rr ap S' (fun z => and_r z) ea hPc eb
      refine h P G2 H' S2 g2 v ?_
      obtain ⟨q, ev, h1, h2, h3, h4, h5⟩ := hv
      have hq : H q = none := h4
      refine ⟨q, ev, ?_, ?_, ?_, ?_, fun i b d' e z => ?_⟩
      · cases hcl : (immR (.ow d) && cleanA io as') with
        | false => rw [e2 hcl]; exact h1
        | true => exact OwnAt.less (i2 hcl) h1 (and_l hcl)
      · cases hz : G2 q with
        | none => rfl
        | some u => rw [k2 _ _ hz] at h2; cases h2
      · cases hz : F.T q with
        | none => rfl
        | some u => rw [S.t q u hz] at hq; cases hq
      · cases hz : F.B q with
        | none => rfl
        | some u => exact absurd hq (S.b q u hz)
      · have hi : i < δ.length := by rw [← backs_len eb]; exact (List.getElem?_eq_some_iff.mp e).1
        have ow : ∃ d0, δ[i]? = some (.ow b d0) := by
          have nd : (ioIx io rs).Nodup := of_decide_eq_true (and_l ap)
          have dj : ∀ i ∈ ioIx io rs, i ∉ rdIx io rs := fun i hi hr => by
            have := List.all_eq_true.mp (and_r ap) i hi
            simp [hr] at this
          rcases backs_bk eb nd dj i _ e with h1 | ⟨h1, h2, h3, h4, h5⟩ | ⟨h1, h2, h3, h4, h5⟩
          · exact ⟨_, h1⟩
          · cases h5; exact ⟨_, h4⟩
          · cases h5
        obtain ⟨d0, ow⟩ := ow
        obtain ⟨o, ho⟩ := (S.ow _ _ _ ow).2.1.ex
        rw [z, hq] at ho; cases ho
end

section
variable {X : Cx} {W : WX} {k n : Nat} {f : Addr} {fd : FuncData} {ps : List Str} {fn : List Sl → Out R} {x : Str} {p pos : Pos} {io : List Bool} {es : List Expr} {fs : List EV}
theorem PAs.length {es : List Expr} {fs : List EV} (h : PAs X W es fs) : fs.length = es.length := by
  induction h with
  | nil => rfl
  | cons _ _ _ ih => simp [ih]
theorem cArgs_length : ∀ (fs : List EV) δ rs δ', cArgs fs δ = .ok rs δ' → rs.length = fs.length
  | [], δ, rs, δ', h => by cases h; rfl
  | f :: fs, δ, rs, δ', h => by
    unfold cArgs at h
    cases e1 : f δ with
    | st => rw [e1] at h; cases h
    | ex c d => rw [e1] at h; cases h
    | ok r1 δ1 =>
      rw [e1] at h
      have h : (cArgs fs δ1).bind (fun rs δ2 => .ok (stl r1 :: rs) δ2) = .ok rs δ' := h
      cases e2 : cArgs fs δ1 with
      | st => rw [e2] at h; cases h
      | ex c d => rw [e2] at h; cases h
      | ok rs2 δ2 =>
        rw [e2] at h
        cases h
        simp [cArgs_length fs δ1 rs2 _ e2]
theorem pe_callS0 {CX : CXT} {sp : Sp} {E : L2.St → XK} (F : FnOk X.prog X.w X.K X.mg X.base CX k f fd ps sp) (hr : Room k X.A) (hg : Gl X x) (hm : X.mg x = some (.ref f)) (hk : PySem.W.keepIn X.K (.ref f) = true) (hb : Binds X.K fd ps []) (hx : ∀ σ, PassesAt CX X σ (E σ))
    (hdb : (x == ("__debug__" : Str)) = false) : PE X (.Call (.Name x p) [] [] pos) (tCallS sp E tNil) := by
  refine ⟨fun pins s σ H Q I h => ?_⟩
  refine wpAny_Call_Name_kw (ld_glob I hg hm ?_ hdb)
  exact PySem.W.callWith_K0 I.kIn hk (run_fnS (us := []) (vs := []) F hr hb (hx σ) I .nil h)
theorem pd_call (tk : Takes X W) (F : FnOk X.prog X.w X.K X.mg X.base (L2.CX X.prog X.w) k f fd ps (spD (kmOf X) fs.length fn)) (hr : Room k X.A) (hg : Gl X x) (hm : X.mg x = some (.ref f)) (hk : PySem.W.keepIn X.K (.ref f) = true) (hb : Binds X.K fd ps [])
    (ha : PAs X W es fs) (hdb : (x == ("__debug__" : Str)) = false) :
    PD X W (.Call (.Name x p) es [] pos) (fun δ => (cArgs fs δ).bind fun rs δ1 => callK fn io rs δ1) := by
  have hx : ∀ σ, PassesAt (L2.CX X.prog X.w) X σ (fun cls d H' => W cls d σ H') := fun σ => passAt tk σ
  have key : ∀ (σ : Sg) H Q, tD (kmOf X) W (fun δ => (cArgs fs δ).bind fun rs δ1 => callK fn io rs δ1) σ H Q → tCallS (spD (kmOf X) fs.length fn) (fun σ cls d H' => W cls d σ H') (tA' (kmOf X) W (cArgs fs)) σ H Q := by
    intro σ H Q h
    obtain ⟨F, δ, P, G, S, h⟩ := h
    refine ⟨F, δ, P, G, S, ?_⟩
    have : Post (kmOf X) W F σ G (fun rs δ' P' G' H' => rs.length = fs.length → ∀ vs, RRs (kmOf X) F δ' σ P' G' H' rs vs → spD (kmOf X) fs.length fn vs H' Q (fun cls d H' => W cls d σ H')) (cArgs fs δ) := by
      refine Post.bind h fun rs δ1 P1 G1 H1 S1 g1 h1 hl vs rr => ?_
      have := run_call S1 rr h1
      rw [← hl]
      exact this
    cases e : cArgs fs δ with
    | st => rw [e] at this; exact this.elim
    | ex c δ1 => rw [e] at this; exact this
    | ok rs δ1 => rw [e] at this; exact fun P' G' H' S' g' vs rr => this P' G' H' S' g' (cArgs_length _ _ _ _ e) vs rr
  cases ha with
  | nil =>
    refine (pe_callS0 F hr hg hm hk hb hx hdb).weak fun σ H Q h => ?_
    obtain ⟨F, δ, P, G, S, h⟩ := key σ H Q h
    exact h P G H S (Same.refl _) [] rfl
  | cons ha1 ha2 ha3 =>
    have hh := PAs.cons ha1 ha2 ha3
    exact (pe_callS F hr hg hm hk hb hx (pr_args hh) hdb (ha2 _) ha3.plain).weak key
end
end PV
/-! PVH: a def's body keeps its promise; list comprehensions. -/
namespace PV
open PySem PySem.Spec PyProof.Rows L2

/-- the lent containers alone, behind a body -/
def lent1 : Sl → Sl → Sl
  | .ow true _, .ow true d => .ow true d
  | _, _ => .no
def lentOf : List Sl → List Sl → List Sl
  | [], _ => []
  | s :: as, t :: δ => lent1 s t :: lentOf as δ
  | _ :: as, [] => .no :: lentOf as []
def retR (r : R) (δ : List Sl) : Option R := match r with
  | .nm i => (match δ[i]? with
    | some (.sh d) => some (.sh d)
    | some (.ow false d) => some (.ow d)
    | _ => none)
  | r => some r
def SOut.out (as : List Sl) : SOut → Out R
  | .nx δ => .ok (.sh .non) (lentOf as δ)
  | .rt r δ => (match retR r δ with | some r' => .ok r' (lentOf as δ) | none => .st)
  | .ex c δ => .ex c (lentOf as δ)
  | _ => .st
/-- what a def with further names m computes, by its body -/
def defD (m : Nat) (a : SV) : List Sl → Out R := fun as => (a (as ++ List.replicate m .no)).out as

theorem lentOf_length : ∀ (as δ : List Sl), (lentOf as δ).length = as.length
  | [], _ => rfl
  | s :: as, [] => by unfold lentOf; simp [lentOf_length as []]
  | s :: as, t :: δ => by unfold lentOf; simp [lentOf_length as δ]
theorem lent1_cases (s t : Sl) : lent1 s t = .no ∨ ∃ d d0, lent1 s t = .ow true d ∧ s = .ow true d0 ∧ t = .ow true d := by
  unfold lent1
  split
  · exact .inr ⟨_, _, rfl, rfl, rfl⟩
  · exact .inl rfl
theorem lentOf_get : ∀ {as δ : List Sl} {i : Nat} {s : Sl}, (lentOf as δ)[i]? = some s → s = .no ∨ ∃ d d0, s = .ow true d ∧ as[i]? = some (.ow true d0) ∧ δ[i]? = some (.ow true d)
  | [], _, i, s, h => by simp [lentOf] at h
  | t :: as, [], 0, s, h => by simp [lentOf] at h; exact .inl h.symm
  | t :: as, [], i + 1, s, h => by
    have h : (lentOf as [])[i]? = some s := by simpa [lentOf] using h
    rcases lentOf_get h with q | ⟨d, d0, e, h1, h2⟩
    · exact .inl q
    · simp at h2
  | t :: as, u :: δ, 0, s, h => by
    have h : lent1 t u = s := by simpa [lentOf] using h
    rcases lent1_cases t u with q | ⟨d, d0, q, h1, h2⟩
    · exact .inl (h.symm.trans q)
    · subst h1 h2
      exact .inr ⟨d, d0, h.symm.trans q, rfl, rfl⟩
  | t :: as, u :: δ, i + 1, s, h => by
    have h : (lentOf as δ)[i]? = some s := by simpa [lentOf] using h
    rcases lentOf_get h with q | ⟨d, d0, e, h1, h2⟩
    · exact .inl q
    · exact .inr ⟨d, d0, e, by simpa using h1, by simpa using h2⟩

section
variable {M : KM} {F : Fm} {G G' H H' : Hp} {W : WX} {Q : VK}
theorem SR.start {as : List Sl} {vs : List V} {P : Nat → Addr} {N : List Str} (S : SR M F as (vs.map some) P G H) : SR M F (as ++ List.replicate (N.length - vs.length) .no) (L2.start N vs) P G H where
  len := by unfold L2.start; simp [S.len]
  sh := fun i d e => by
    by_cases hi : i < as.length
    · rw [List.getElem?_append_left hi] at e
      obtain ⟨v, h1, h2⟩ := S.sh i d e
      exact ⟨v, by unfold L2.start; rw [List.getElem?_append_left (by rw [← S.len]; exact hi)]; exact h1, h2⟩
    · rw [List.getElem?_append_right (by omega), List.getElem?_replicate] at e
      split at e <;> cases e
  ow := fun i b d e => by
    by_cases hi : i < as.length
    · rw [List.getElem?_append_left hi] at e
      obtain ⟨h1, h2⟩ := S.ow i b d e
      exact ⟨by unfold L2.start; rw [List.getElem?_append_left (by rw [← S.len]; exact hi)]; exact h1, h2⟩
    · rw [List.getElem?_append_right (by omega), List.getElem?_replicate] at e
      split at e <;> cases e
  ap := fun i j b d b' d' e e' z => by
    have key : ∀ {i : Nat} {b : Bool} {d : D}, (as ++ List.replicate (N.length - vs.length) Sl.no)[i]? = some (.ow b d) → as[i]? = some (.ow b d) := fun {i b d} e => by
      by_cases hi : i < as.length
      · rw [List.getElem?_append_left hi] at e; exact e
      · rw [List.getElem?_append_right (by omega), List.getElem?_replicate] at e
        split at e <;> cases e
    exact S.ap i j b d b' d' (key e) (key e') z
  t := S.t
  g := S.g
  g0 := S.g0
  gn := S.gn
  b := S.b
/-- behind the body: the arguments' slots -/
theorem SR.lent {as δ : List Sl} {σ' : Sg} {vs : List V} {P P' : Nat → Addr} (S : SR M F as (vs.map some) P G H) (S' : SR M F δ σ' P' G' H') : SR M F (lentOf as δ) (vs.map some) P' G' H' where
  len := by rw [lentOf_length]; exact S.len
  sh := fun i d e => by
    rcases lentOf_get e with q | ⟨d1, d0, q, _⟩ <;> cases q
  ow := fun i b d e => by
    rcases lentOf_get e with q | ⟨d1, d0, q, h1, h2⟩
    · cases q
    · cases q
      obtain ⟨k1, k2, k3, k4, k5, k6⟩ := S.ow i _ _ h1
      obtain ⟨m1, m2, m3, m4, m5, m6⟩ := S'.ow i _ _ h2
      have : P i = P' i := (k6 rfl).symm.trans (m6 rfl)
      rw [this] at k1
      exact ⟨k1, m2, m3, m4, m5, m6⟩
  ap := fun i j b d b' d' e e' z => by
    rcases lentOf_get e with q | ⟨d1, d0, q, h1, h2⟩
    · cases q
    · rcases lentOf_get e' with q' | ⟨d1', d0', q', h1', h2'⟩
      · cases q'
      · exact S'.ap _ _ _ _ _ _ h2 h2' z
  t := S'.t
  g := S'.g
  g0 := S'.g0
  gn := S'.gn
  b := S'.b
theorem run_def {as : List Sl} {σ : Sg} {vs : List V} {P : Nat → Addr} {Ex : Value → Option Addr → Hp → Prop} {o : SOut} {q : Out R} (S : SR M F as (vs.map some) P G H) (e : o.out as = q)
    (h : Post M (fun cls d _ H' => Ex cls d H') F (vs.map some) G (fun r δ' P' G' H' => ∀ v, RR M F δ' (vs.map some) P' G' H' r v → Q v H') q) :
    SPost M (fun cls d _ H' => Ex cls d H') F G { nx := fun _ H' => Q .non H', rt := Q } o := by
  subst e
  cases o with
  | st => exact h.elim
  | bk δ => exact h.elim
  | ct δ => exact h.elim
  | nx δ => exact fun σ' P' G' H' S' g' => h P' G' H' (S.lent S') g' .non rfl
  | ex c δ => exact fun C σ' P' G' H' hc S' g' => h C P' G' H' hc (S.lent S') g'
  | rt r δ =>
    intro v σ' P' G' H' S' g' rr
    unfold SOut.out at h
    dsimp only at h
    cases er : retR r δ with
    | none => rw [er] at h; exact h.elim
    | some r' =>
      rw [er] at h
      refine h P' G' H' (S.lent S') g' v ?_
      have own : ∀ {q : Addr} {d : D}, RR M F δ σ' P' G' H' (.ow d) (V.ref q) → RR M F (lentOf as δ) (vs.map some) P' G' H' (.ow d) (V.ref q) := fun {q d} z => by
        obtain ⟨q', e, h1, h2, h3, h4, h5⟩ := z
        refine ⟨q', e, h1, h2, h3, h4, fun i b d' e' => ?_⟩
        rcases lentOf_get e' with z | ⟨d1, d0, z, _, z2⟩
        · cases z
        · exact h5 i _ _ z2
      cases r with
      | sh d => cases er; exact rr
      | ow d =>
        cases er
        obtain ⟨q, e, _⟩ := id rr
        subst e
        exact own rr
      | nm i =>
        have er : (match δ[i]? with
          | some (.sh d) => some (R.sh d)
          | some (.ow false d) => some (R.ow d)
          | _ => none) = some r' := er
        have rr : σ'[i]? = some (some v) := rr
        split at er
        · rename_i d e
          cases er
          obtain ⟨u, h1, h2⟩ := S'.sh i _ e
          rw [rr] at h1; cases h1
          exact h2
        · rename_i d e
          cases er
          obtain ⟨h1, h2, h3, h4, h5, _⟩ := S'.ow i _ _ e
          rw [rr] at h1; cases h1
          refine ⟨_, rfl, h2, h3, h4, h5 rfl, fun j b d' e' z => ?_⟩
          rcases lentOf_get e' with w | ⟨d1, d0, w, _, z2⟩
          · cases w
          · have := S'.ap _ _ _ _ _ _ z2 e z
            subst this
            rw [e] at z2; cases z2
        · cases er
end

section
variable {P : Program} {w : World} {K : PySem.W.Frag} {mg : Str → Option Value} {base : Heap}
/-- THE RULE of a def -/
theorem def_ok {x qual : Str} {st : Stmt} {f : Addr} {fd : FuncData} {N ps : List Str} {k : Nat} {a : SV} (Fu : Fun K x qual st f fd) (S : FnScope N ps (defScope st))
    (hbody : ∀ (cdv : Value) (A : Around) (outer : List Env) (s : Shared) (H : Hp) (E : XK), Room k (A.deeper (envOfC qual (defScope st) s.heap.objs.size f cdv)) →
      PSsd (cxOf (L2.CX P w) P w K mg base N qual (defScope st) f cdv A outer s H E) (fun cls d _ H' => E cls d H') (defBody st) a) :
    FnOk P w K mg base (L2.CX P w) (k + 1) f fd ps (spD ⟨P, w, K, mg⟩ ps.length (defD (N.length - ps.length) a)) := by
  refine Fun.okX Fu S (fun vs H Q E h => h.1) fun cdv A outer s H vs Q E hr h => ⟨_, hbody cdv A outer s H E hr, ?_⟩
  obtain ⟨hl, as, Pp, G, Ad, IO, Sr, hq⟩ := h
  rw [← hl] at hq
  exact ⟨frm H G Ad IO, _, Pp, G, Sr.start, run_def (M := ⟨P, w, K, mg⟩) (Ex := E) (σ := []) Sr rfl hq⟩
end
end PV
/-! PVI: list comprehensions. -/
namespace PV
open PySem PySem.Spec PyProof.Rows L2

def wipeD (δ : List Sl) : List Nat → List Sl
  | [] => δ
  | v :: vs => (wipeD δ vs).set v .no
/-- the own slots as they were, where they hold shared data -/
def back1 (δ0 δ : List Sl) (i : Nat) : List Sl := match δ0[i]? with
  | some (.sh d) => δ.set i (.sh d)
  | _ => δ.set i .no
def backD (δ0 δ : List Sl) : List Nat → List Sl
  | [] => δ
  | v :: vs => back1 δ0 (backD δ0 δ vs) v
def Out.noex {α : Type} : Out α → Out α
  | .ex _ _ => .st
  | o => o
def cLoop (g : TV) (t : BV) (f : EV) (vs : List Nat) : List D → List D → List Sl → Out (List D)
  | [], acc, δ => .ok acc (wipeD δ vs)
  | d :: ds, acc, δ => (g (.sh d) (wipeD δ vs)).bind fun _ δ1 => (t δ1).bind fun k δ2 => if k = true then (f δ2).bind fun r δ3 => (leak (stl r) δ3).bind fun y δ4 => if fit (acc.length + 1) then cLoop g t f vs ds (acc ++ [y]) δ4 else .st
    else cLoop g t f vs ds acc δ2
def cLC (it : IV) (g : TV) (t : BV) (f : EV) (vs : List Nat) : EV := fun δ => (it δ).bind fun ds δ1 => (cLoop g t f vs ds [] δ1).noex.bind fun out δ2 => .ok (.ow (.lst out)) (backD δ1 δ2 vs)

section
variable {M : KM} {F : Fm} {δ : List Sl} {σ : Sg} {P : Nat → Addr} {G G' H H' : Hp} {W : WX} {Q : VK}
theorem SR.wipe (S : SR M F δ σ P G H) : ∀ vs : List Nat, SR M F (wipeD δ vs) (wipe σ vs) P G H
  | [] => S
  | v :: vs => (SR.wipe S vs).setNo none
def Fm.hold (F : Fm) (p : Addr) (o : HO) : Fm := { F with T := upd F.T p o, B := upd F.B p (.lst []) }
theorem SR.off {p : Addr} (S : SR M F δ σ P G H) (hp : H p = none) : F.T p = none ∧ F.B p = none ∧ F.G0 p = none ∧ G p = none := by
  refine ⟨?_, ?_, ?_, ?_⟩
  · cases e : F.T p with
    | none => rfl
    | some u => rw [S.t _ _ e] at hp; cases hp
  · cases e : F.B p with
    | none => rfl
    | some u => exact absurd hp (S.b _ _ e)
  · cases e : F.G0 p with
    | none => rfl
    | some u => rw [S.g _ _ (S.g0 _ _ e)] at hp; cases hp
  · cases e : G p with
    | none => rfl
    | some u => rw [S.g _ _ e] at hp; cases hp
theorem SR.hold {p : Addr} {u : HO} (S : SR M F δ σ P G H) (hp : H p = none) : SR M (F.hold p u) δ σ P G (upd H p u) := by
  obtain ⟨n1, n2, n3, n4⟩ := S.off hp
  have ne : ∀ {i : Nat} {b d}, δ[i]? = some (.ow b d) → P i ≠ p := fun e z => by
    obtain ⟨o, ho⟩ := (S.ow _ _ _ e).2.1.ex
    rw [z, hp] at ho; cases ho
  refine ⟨S.len, S.sh, fun i b d e => ?_, S.ap, fun a o h => ?_, fun a o h => ?_, S.g0, fun a o h => ?_, fun a o h z => ?_⟩
  · obtain ⟨h1, h2, h3, h4, h5, h6⟩ := S.ow i b d e
    refine ⟨h1, h2.mono (Same.refl _) (upd_ne (ne e)), h3, ?_, fun hb => ?_, h6⟩
    · show upd F.T p _ (P i) = none
      rw [upd_ne (ne e)]; exact h4
    · show upd F.B p _ (P i) = none
      rw [upd_ne (ne e)]; exact h5 hb
  · have h : upd F.T p u a = some o := h
    by_cases e : a = p
    · rw [e, upd_same] at h ⊢; exact h
    · rw [upd_ne e] at h ⊢; exact S.t a o h
  · rw [upd_ne (ne_of_none h n4)]; exact S.g a o h
  · rcases S.gn a o h with q | q
    · exact .inl q
    · refine .inr ?_
      show upd F.B p _ a = none
      rw [upd_ne (ne_of_none h n4)]; exact q
  · have h : upd F.B p (.lst []) a = some o := h
    by_cases e : a = p
    · rw [e, upd_same] at z; cases z
    · rw [upd_ne e] at h z; exact S.b a o h z
theorem SR.held {p : Addr} {u : HO} (S : SR M (F.hold p u) δ σ P G H) : H p = some u := S.t p _ upd_same
theorem SR.offG {p : Addr} {u : HO} (S : SR M (F.hold p u) δ σ P G H) (n3 : F.G0 p = none) : G p = none := by
  cases e : G p with
  | none => rfl
  | some v =>
    rcases S.gn p v e with q | q
    · rw [show F.G0 p = some v from q] at n3; cases n3
    · rw [show (F.hold p u).B p = some _ from upd_same] at q; cases q
theorem SR.neP {p : Addr} {u : HO} (S : SR M (F.hold p u) δ σ P G H) {i : Nat} {b : Bool} {d : D} (e : δ[i]? = some (.ow b d)) : P i ≠ p := fun z => by
  have := (S.ow _ _ _ e).2.2.2.1
  rw [z, show (F.hold p u).T p = some _ from upd_same] at this; cases this
theorem SR.rehold {p : Addr} {u u' : HO} (S : SR M (F.hold p u) δ σ P G H) (n3 : F.G0 p = none) : SR M (F.hold p u') δ σ P G (upd H p u') := by
  have n4 := S.offG n3
  refine ⟨S.len, S.sh, fun i b d e => ?_, S.ap, fun a o h => ?_, fun a o h => ?_, S.g0, S.gn, fun a o h z => ?_⟩
  · obtain ⟨h1, h2, h3, h4, h5, h6⟩ := S.ow i b d e
    refine ⟨h1, h2.mono (Same.refl _) (upd_ne (S.neP e)), h3, ?_, h5, h6⟩
    show upd F.T p _ (P i) = none
    have h4 : upd F.T p _ (P i) = none := h4
    rw [upd_ne (S.neP e)] at h4 ⊢; exact h4
  · have h : upd F.T p u' a = some o := h
    by_cases e : a = p
    · rw [e, upd_same] at h ⊢; exact h
    · rw [upd_ne e] at h ⊢
      exact S.t a o (by show upd F.T p _ a = some o; rw [upd_ne e]; exact h)
  · rw [upd_ne (ne_of_none h n4)]; exact S.g a o h
  · by_cases e : a = p
    · rw [e, upd_same] at z; cases z
    · rw [upd_ne e] at z; exact S.b a o h z
theorem SR.unhold {p : Addr} {u : HO} (S : SR M (F.hold p u) δ σ P G H) (n1 : F.T p = none) (n2 : F.B p = none) (n3 : F.G0 p = none) : SR M F δ σ P G H := by
  have n4 := S.offG n3
  refine ⟨S.len, S.sh, fun i b d e => ?_, S.ap, fun a o h => ?_, S.g, S.g0, fun a o h => ?_, fun a o h => ?_⟩
  · obtain ⟨h1, h2, h3, h4, h5, h6⟩ := S.ow i b d e
    have h4 : upd F.T p _ (P i) = none := h4
    have h5 : b = false → upd F.B p _ (P i) = none := h5
    rw [upd_ne (S.neP e)] at h4 h5
    exact ⟨h1, h2, h3, h4, h5, h6⟩
  · exact S.t a o (by show upd F.T p _ a = some o; rw [upd_ne (ne_of_none h n1)]; exact h)
  · rcases S.gn a o h with q | q
    · exact .inl q
    · have q : upd F.B p _ a = none := q
      rw [upd_ne (ne_of_none h n4)] at q
      exact .inr q
  · exact S.b a o (by show upd F.B p _ a = some o; rw [upd_ne (ne_of_none h n2)]; exact h)
theorem SR.post_hold {p : Addr} {acc : List V} (S : SR M (F.hold p (.lst acc)) δ σ P G H) (n1 : F.T p = none) (n2 : F.B p = none) (n3 : F.G0 p = none) {ds : List D} (r : RpA M G ds acc) : RR M F δ σ P G H (.ow (.lst ds)) (.ref p) :=
  ⟨p, rfl, ⟨acc, S.held, r⟩, S.offG n3, n1, n2, fun i b d e => S.neP e⟩
/-- own slots given back -/
theorem SR.back {δ0 : List Sl} {σ0 : Sg} (S0 : ∀ (i : Nat) d, δ0[i]? = some (.sh d) → ∃ v, σ0[i]? = some (some v) ∧ Rp M G d v) : ∀ (vs : List Nat), SR M F δ (L2.wipe σ0 vs) P G H → SR M F (backD δ0 δ vs) σ0 P G H := by
  intro vs S
  have len : δ.length = σ0.length := by rw [S.len, wipe_length]
  have bl : ∀ ws : List Nat, (backD δ0 δ ws).length = δ.length := fun ws => by
    induction ws with
    | nil => rfl
    | cons w ws ih =>
      unfold backD back1
      split <;> rw [List.length_set, ih]
  have bg : ∀ (ws : List Nat) (i : Nat) s, (backD δ0 δ ws)[i]? = some s → (i ∉ ws ∧ δ[i]? = some s) ∨ (i ∈ ws ∧ (s = .no ∨ ∃ d, s = .sh d ∧ δ0[i]? = some (.sh d))) := fun ws => by
    induction ws with
    | nil => exact fun i s e => .inl ⟨by simp, e⟩
    | cons w ws ih =>
      intro i s e
      have e' : (back1 δ0 (backD δ0 δ ws) w)[i]? = some s := e
      unfold back1 at e'
      split at e'
      · rename_i d hd
        rcases get_set e' with ⟨rfl, rfl, _⟩ | ⟨n, h⟩
        · exact .inr ⟨by simp, .inr ⟨d, rfl, hd⟩⟩
        · rcases ih i s h with ⟨k1, k2⟩ | ⟨k1, k2⟩
          · exact .inl ⟨by simp [n, k1], k2⟩
          · exact .inr ⟨by simp [k1], k2⟩
      · rcases get_set e' with ⟨rfl, rfl, _⟩ | ⟨n, h⟩
        · exact .inr ⟨by simp, .inl rfl⟩
        · rcases ih i s h with ⟨k1, k2⟩ | ⟨k1, k2⟩
          · exact .inl ⟨by simp [n, k1], k2⟩
          · exact .inr ⟨by simp [k1], k2⟩
  refine ⟨by rw [bl, len], fun i d e => ?_, fun i b d e => ?_, fun i j b d b' d' e e' z => ?_, S.t, S.g, S.g0, S.gn, S.b⟩
  · rcases bg vs i _ e with ⟨k1, k2⟩ | ⟨k1, k2 | ⟨d', k2, k3⟩⟩
    · obtain ⟨v, h1, h2⟩ := S.sh i d k2
      exact ⟨v, (wipe_some h1).1, h2⟩
    · cases k2
    · cases k2
      exact S0 i d k3
  · rcases bg vs i _ e with ⟨k1, k2⟩ | ⟨k1, k2 | ⟨d', k2, k3⟩⟩
    · obtain ⟨h1, h2⟩ := S.ow i b d k2
      exact ⟨(wipe_some h1).1, h2⟩
    · cases k2
    · cases k2
  · have key : ∀ {i : Nat} {b : Bool} {d : D}, (backD δ0 δ vs)[i]? = some (.ow b d) → δ[i]? = some (.ow b d) := fun {i b d} e => by
      rcases bg vs i _ e with ⟨k1, k2⟩ | ⟨k1, k2 | ⟨d', k2, k3⟩⟩
      · exact k2
      · cases k2
      · cases k2
    exact S.ap i j b d b' d' (key e) (key e') z
theorem wipe_wipe {σ : Sg} {vs : List Nat} : L2.wipe (L2.wipe σ vs) vs = L2.wipe σ vs := by
  refine List.ext_getElem? fun j => ?_
  rw [wipe_get, wipe_get]
  split
  · cases σ[j]? <;> rfl
  · rfl
end
abbrev W0 : WX := fun _ _ _ _ => False
section
variable {X : Cx} {W : WX} {pos : Pos}
theorem lc_run {M : KM} {it : IV} {g : TV} {t : BV} {f : EV} {vs : List Nat} {σ : Sg} {H : Hp} {Q : VK} (h : tD M W (cLC it g t f vs) σ H Q) : tLc (tI M W it) (tG M W0 vs g) (tB' M W0 t) (tD M W0 f) vs σ H Q := by
  obtain ⟨F, δ, P, G, S, h⟩ := h
  refine ⟨F, δ, P, G, S, Post.bind h fun ds δ1 P1 G1 H1 S1 g1 h1 J G2 H2 x2 items D hD => ?_⟩
  obtain ⟨i1, i2, i3⟩ := items
  have S2 := S1.ext x2
  obtain ⟨n1, n2, n3, n4⟩ := S2.off hD
  have h2 := Post.base h1 x2.g
  refine ⟨fun i m H => ∃ δ P G acc dacc, m = ds.length - i ∧ i ≤ ds.length ∧ Same G2 G ∧ SR M (F.hold D (.lst acc)) (wipeD δ vs) (wipe σ vs) P G H ∧ RpA M G dacc acc ∧
    EPost M W F σ G Q ((cLoop g t f vs (ds.drop i) dacc δ).noex.bind fun out δ2 => .ok (.ow (.lst out)) (backD δ1 δ2 vs)), ⟨ds.length, δ1, P1, G2, [], [], by simp, Nat.zero_le _, Same.refl _, (S2.hold hD).wipe vs, RpA.nil, h2⟩, ?_⟩
  rintro i m H ⟨δ, P, G, acc, dacc, rfl, hi, gg, S, ra, hp⟩
  by_cases hlt : i < ds.length
  · refine .inr ⟨i1 i H (gg.trans S.g) hlt, fun H' => ∃ δ P G acc dacc, Same G2 G ∧ SR M (F.hold D (.lst acc)) (wipeD δ vs) (wipe σ vs) P G H' ∧ RpA M G dacc acc ∧
      EPost M W F σ G Q ((cLoop g t f vs (ds.drop (i + 1)) dacc δ).noex.bind fun out δ2 => .ok (.ow (.lst out)) (backD δ1 δ2 vs)), fun H' ⟨δ, P, G, acc, dacc, g', S', r', h'⟩ => ⟨ds.length - (i + 1), by omega, δ, P, G, acc, dacc, rfl, hlt, g', S', r', h'⟩, fun x H' hy => ?_⟩
    rw [List.drop_eq_getElem_cons hlt] at hp
    obtain ⟨G3, x3, rx⟩ := i3 i _ G H x H' gg S.g (List.getElem?_eq_getElem hlt) hy
    refine ⟨F.hold D (.lst acc), wipeD δ vs, P, G3, .sh ds[i], S.ext x3, rx, ?_⟩
    unfold cLoop at hp
    cases q : g (.sh ds[i]) (wipeD δ vs) with
    | ex c δ2 => rw [q] at hp; exact hp.elim
    | st => rw [q] at hp; exact hp.elim
    | ok _ δ2 =>
      rw [q] at hp
      refine fun σ4 P4 G4 H4 S4 g4 hw => ⟨hw.trans wipe_wipe, F.hold D (.lst acc), δ2, P4, G4, S4, ?_⟩
      have hw4 : wipe σ4 vs = wipe σ vs := hw.trans wipe_wipe
      dsimp only [Out.bind] at hp
      cases q2 : t δ2 with
      | ex c δ3 => rw [q2] at hp; exact hp.elim
      | st => rw [q2] at hp; exact hp.elim
      | ok k δ3 =>
        rw [q2] at hp
        intro P5 G5 H5 S5 g5
        have gg5 : Same G2 G5 := gg.trans (x3.g.trans (g4.trans g5))
        have ra5 : RpA M G5 dacc acc := RpA.mono (x3.g.trans (g4.trans g5)) _ ra
        have hp5 := Post.base hp (x3.g.trans (g4.trans g5))
        dsimp only at hp5
        cases k with
        | false =>
          simp only [Bool.false_eq_true, if_false]
          exact ⟨δ3, P5, G5, acc, dacc, gg5, hw4 ▸ S5.wipe vs, ra5, hp5⟩
        | true =>
          simp only [if_true] at hp5 ⊢
          refine ⟨F.hold D (.lst acc), δ3, P5, G5, S5, ?_⟩
          cases q3 : f δ3 with
          | ex c δ4 => rw [q3] at hp5; exact hp5.elim
          | st => rw [q3] at hp5; exact hp5.elim
          | ok r δ4 =>
            rw [q3] at hp5
            intro P6 G6 H6 S6 g6 y ry
            obtain ⟨G7, S7, g7, ry7⟩ := S6.settle ry
            dsimp only [Out.bind] at hp5
            rcases leak_cases (stl r) δ4 with ⟨d', δ5, e⟩ | e
            · rw [e] at hp5
              dsimp only at hp5
              obtain ⟨G8, S8, g8, r8⟩ := S7.leak ry7 e
              cases hf : fit (dacc.length + 1) with
              | true =>
                simp only [hf, if_true] at hp5
                have gz : Same G5 G8 := g6.trans (g7.trans g8)
                refine ⟨acc, S8.held, ?_, δ5, P6, G8, acc ++ [y], dacc ++ [d'], gg5.trans gz, hw4 ▸ (S8.rehold n3).wipe vs, RpA.append (RpA.mono gz _ ra5) (RpA.cons r8 RpA.nil), Post.base hp5 gz⟩
                have := ra.length
                have hf : dacc.length + 1 ≤ sizeLine := of_decide_eq_true hf
                omega
              | false =>
                simp only [hf, Bool.false_eq_true, if_false] at hp5
                exact hp5.elim
            · rw [e] at hp5
              exact hp5.elim
  · have e : ds.drop i = [] := List.drop_eq_nil_of_le (by omega)
    rw [e] at hp
    refine .inl ⟨i2 i H (gg.trans S.g) (by omega), ?_⟩
    have Sb : SR M (F.hold D (.lst acc)) (backD δ1 (wipeD δ vs) vs) σ P G H := SR.back (fun i d e => by
      obtain ⟨v, k1, k2⟩ := S2.sh i d e
      exact ⟨v, k1, Rp.mono gg d k2⟩) vs S
    exact hp P G H (Sb.unhold n1 n2 n3) (Same.refl _) _ (Sb.post_hold n1 n2 n3 ra)
theorem pd_lc {elt tg iter : Expr} {ifs : List Expr} {scope : Scope} {own : List (Str × Nat)} {it : IV} {g : TV} {t : BV} {f : EV} (hc : X.calm = true) (hN : X.N.Nodup) (hi : PId X W tg iter it) (ok : BlkOk X.N X.env.scope scope own)
    (hg : ∀ (s : Shared) (H : Hp) (C : Addr) (cl : List (Str × Addr)) (fp : List Addr), PGd (X.blk s H scope (compEnvC scope cl C X.env) fp) W0 (own.map (·.2)) tg g)
    (ht : ∀ (s : Shared) (H : Hp) (C : Addr) (cl : List (Str × Addr)) (fp : List Addr), PTs (X.blk s H scope (compEnvC scope cl C X.env) fp) ifs (tB' (kmOf X) W0 t))
    (he : ∀ (s : Shared) (H : Hp) (C : Addr) (cl : List (Str × Addr)) (fp : List Addr), PD (X.blk s H scope (compEnvC scope cl C X.env) fp) W0 elt f) (hs : ∀ x, foldedSetIterable iter X.env x = pure x) :
    PD X W (.ListComp elt [⟨tg, iter, ifs, 0⟩] scope pos) (cLC it g t f (own.map (·.2))) := by
  exact (pe_lc (g := tG (kmOf X) W0 (own.map (·.2)) g) (te := tD (kmOf X) W0 f) hc hN hi ok hg ht he hs).weak fun σ H Q h => lc_run h
theorem psd_setLc {i : Nat} {y : Str} {py spos : Pos} {elt tg iter : Expr} {ifs : List Expr} {scope : Scope} {own : List (Str × Nat)} {it : IV} {g : TV} {t : BV} {f : EV} (hc : X.calm = true) (hN : X.N.Nodup) (hy : X.N[i]? = some y) (hyl : X.env.scope.names.lookup y = some .local)
    (hsw : swapsWith (.ListComp elt [⟨tg, iter, ifs, 0⟩] scope pos) (some (.Name y py)) spos.line X.env = pure true) (hi : PId X W tg iter it) (ok : BlkOk X.N X.env.scope scope own)
    (hg : ∀ (s : Shared) (H : Hp) (C : Addr) (cl : List (Str × Addr)) (fp : List Addr), PGd (X.blk s H scope (compEnvC scope cl C X.env) fp) W0 (own.map (·.2)) tg g)
    (ht : ∀ (s : Shared) (H : Hp) (C : Addr) (cl : List (Str × Addr)) (fp : List Addr), PTs (X.blk s H scope (compEnvC scope cl C X.env) fp) ifs (tB' (kmOf X) W0 t))
    (he : ∀ (s : Shared) (H : Hp) (C : Addr) (cl : List (Str × Addr)) (fp : List Addr), PD (X.blk s H scope (compEnvC scope cl C X.env) fp) W0 elt f) (hs : ∀ x, foldedSetIterable iter X.env x = pure x) :
    PSd X W (.Assign [.Name y py] (.ListComp elt [⟨tg, iter, ifs, 0⟩] scope pos) spos) (sAsg (cLC it g t f (own.map (·.2))) (gN i)) := by
  refine (ps_setLc (g := tG (kmOf X) W0 (own.map (·.2)) g) (te := tD (kmOf X) W0 f) hc hN hy hyl hsw hi ok hg ht he hs).weak fun Dn σ H h => ?_
  obtain ⟨F, δ, P, G, S, h⟩ := h
  exact lc_run ⟨F, δ, P, G, S, Post.toS h fun r δ1 P1 G1 H1 S1 g1 h1 v rr => run_gN S1 rr h1⟩
/-- the tests of a comprehension -/
def tYesB : BV := fun δ => .ok true δ
theorem pts0 : PTs X [] (tB' (kmOf X) W tYesB) := ⟨fun pins s σ H Q I h => by
  obtain ⟨F, δ, P, G, S, h⟩ := h
  exact pts_nil.run pins s σ H Q I (h P G H S (Same.refl _))⟩
theorem pts1 {c : Expr} {t : BV} (h : PB X W c t) : PTs X [c] (tB' (kmOf X) W t) := pts_one h
end
end PV
/-! PVJ: built-in functions, isinstance, methods that only look. -/
namespace PV
open PySem PySem.Spec PyProof.Rows L2

def LkA (M : KM) (G H : Hp) : List D → List V → Prop
  | [], vs => vs = []
  | d :: ds, vs => ∃ v r, vs = v :: r ∧ Lk M G H d v ∧ LkA M G H ds r
def rDs (M : KM) (φ : List D → Option R) : List V → Hp → VK → Prop := fun vs H Q => ∃ G ds r, Same G H ∧ LkA M G H ds vs ∧ φ ds = some r ∧ NQ M G H r Q
def looks : List R → List Sl → Option (List D)
  | [], _ => some []
  | r :: rs, δ => match look (stl r) δ, looks rs δ with
    | some d, some ds => some (d :: ds)
    | _, _ => none
section
variable {M : KM} {F : Fm} {δ : List Sl} {σ : Sg} {P : Nat → Addr} {G G' H H' : Hp} {W : WX} {Q : VK}
theorem SR.lks (S : SR M F δ σ P G H) : ∀ {rs : List R} {vs : List V} {ds : List D}, (∀ r ∈ rs, stl r = r) → RRs M F δ σ P G H rs vs → looks rs δ = some ds → LkA M G H ds vs
  | [], _, _, _, h, e => by cases e; exact h
  | r :: rs, _, ds, hs, ⟨v, t, e1, h1, h2⟩, e => by
    unfold looks at e
    split at e
    · rename_i d ds' e2 e3
      cases e
      refine ⟨v, t, e1, S.lk (by rw [hs r List.mem_cons_self]; exact h1) e2, SR.lks S (fun r hr => hs r (List.mem_cons_of_mem _ hr)) h2 e3⟩
    · cases e
end
theorem LkA.one {M : KM} {G H : Hp} {d : D} {vs : List V} (h : LkA M G H [d] vs) : ∃ v, vs = [v] ∧ Lk M G H d v := by
  obtain ⟨v, r, e, h1, h2⟩ := h
  exact ⟨v, by rw [e, show r = [] from h2], h1⟩
theorem LkA.two {M : KM} {G H : Hp} {d d' : D} {vs : List V} (h : LkA M G H [d, d'] vs) : ∃ v v', vs = [v, v'] ∧ Lk M G H d v ∧ Lk M G H d' v' := by
  obtain ⟨v, r, e, h1, h2⟩ := h
  obtain ⟨v', e', h3⟩ := LkA.one h2
  exact ⟨v, v', by rw [e, e'], h1, h3⟩
theorem LkA.three {M : KM} {G H : Hp} {d d' d'' : D} {vs : List V} (h : LkA M G H [d, d', d''] vs) : ∃ v v' v'', vs = [v, v', v''] ∧ Lk M G H d v ∧ Lk M G H d' v' ∧ Lk M G H d'' v'' := by
  obtain ⟨v, r, e, h1, h2⟩ := h
  obtain ⟨v', v'', e', h3, h4⟩ := LkA.two h2
  exact ⟨v, v', v'', by rw [e, e'], h1, h3, h4⟩

/-! ### calls of built-ins -/
def cFn (φ : List D → Option R) (fs : List EV) : EV := fun δ => (cArgs fs δ).bind fun rs δ1 => match looks rs δ1 with
  | some ds => ofO (φ ds) δ1
  | none => .st
section
variable {X : Cx} {W : WX} {x : Str} {p pos : Pos} {id T : String} {φ : List D → Option R} {e : Expr} {es : List Expr} {f : EV} {fs : List EV}
theorem run_fn {σ : Sg} {H : Hp} {Q : VK} {r : List V → Hp → VK → Prop} (hr : ∀ vs H Q, rDs (kmOf X) φ vs H Q → r vs H Q) (h : tD (kmOf X) W (cFn φ fs) σ H Q) : tCB r (tA' (kmOf X) W (cArgs fs)) σ H Q := by
  obtain ⟨F, δ, P, G, S, h⟩ := h
  refine ⟨F, δ, P, G, S, rrs_stl h fun rs δ1 P1 G1 H1 hs S1 g1 h1 vs rr => ?_⟩
  cases el : looks rs δ1 with
  | none => rw [el] at h1; exact h1.elim
  | some ds =>
    rw [el] at h1
    obtain ⟨r, er, h2⟩ := post_ofO (o := φ ds) (δ := δ1) h1
    exact hr _ _ _ ⟨G1, ds, r, S1.g, S1.lks hs rr el, er, nq_of S1 h2⟩
theorem pd_fn (hc : CallR X (.builtin id) (rDs (kmOf X) φ)) (hg : Gl X x) (hm : X.mg x = none) (hv : bootBuiltins x = some (.builtin id)) (ha : PAs X W (e :: es) (f :: fs)) (hn : x ≠ "__name__") (hdb : (x == ("__debug__" : Str)) = false) :
    PD X W (.Call (.Name x p) (e :: es) [] pos) (cFn φ (f :: fs)) := by
  have hh := ha
  cases ha with
  | cons ha1 ha2 ha3 => exact (pe_callB hc hg hm hv (pr_args hh) hn hdb (ha2 _) ha3.plain).weak fun σ H Q h => run_fn (fun _ _ _ z => z) h
theorem pd_fnTy (hc : CallR X (.type T) (rDs (kmOf X) φ)) (hg : Gl X x) (hm : X.mg x = none) (hv : bootBuiltins x = some (.type T)) (ha : PAs X W (e :: es) (f :: fs)) (hn : x ≠ "__name__") (hdb : (x == ("__debug__" : Str)) = false) :
    PD X W (.Call (.Name x p) (e :: es) [] pos) (cFn φ (f :: fs)) := by
  have hh := ha
  cases ha with
  | cons ha1 ha2 ha3 => exact (pe_callTy hc hg hm hv (pr_args hh) hn hdb (ha2 _) ha3.plain).weak fun σ H Q h => run_fn (fun _ _ _ z => z) h
end

def lenD : List D → Option R
  | [.lst ds] => some (.sh (.int ds.length))
  | [.rol ds] => some (.sh (.int ds.length))
  | [.tup ds] => some (.sh (.int ds.length))
  | [.str z] => if fit z.length then some (.sh (.int z.length)) else none
  | _ => none
def absD : List D → Option R
  | [.int i] => some (.sh (.int (if i < 0 then -i else i)))
  | _ => none
def intD : List D → Option R
  | [.int i] => some (.sh (.int i))
  | [.bl k] => some (.sh (.int (if k then 1 else 0)))
  | [.str a] => if decide (a.length ≤ 640) then (PySem.intText? a).map fun n => .sh (.int n) else none
  | _ => none
def strD : List D → Option R
  | [.int i] => if decide (i.natAbs.log2 < 1920) then some (.sh (.str (Str.ofString (toString i)))) else none
  | [.str a] => some (.sh (.str a))
  | _ => none
def listD : List D → Option R
  | [.lst ds] => some (.ow (.lst ds))
  | [.rol ds] => some (.ow (.lst ds))
  | [.tup ds] => some (.ow (.lst ds))
  | _ => none
def tupleD : List D → Option R
  | [.lst ds] => some (.sh (.tup ds))
  | [.rol ds] => some (.sh (.tup ds))
  | [.tup ds] => some (.sh (.tup ds))
  | _ => none
section
variable {X : Cx}
theorem call_lenD : CallR X (.builtin "len") (rDs (kmOf X) lenD) := by
  intro pins s σ H xs us Q I r h
  obtain ⟨G, ds, rr, sg, hl, hr, q⟩ := h
  unfold lenD at hr
  split at hr
  · cases hr
    obtain ⟨v, rfl, h1⟩ := hl.one
    obtain ⟨a, xs, rfl, k1, k2⟩ := h1.lst sg
    exact call_len_seq pins s σ H _ us Q I r ⟨a, xs, rfl, .inl (SqL.of k1), by rw [k2.length]; exact q.sh sg rfl⟩
  · cases hr
    obtain ⟨v, rfl, h1⟩ := hl.one
    obtain ⟨a, xs, rfl, k1, k2⟩ := h1.rol sg
    exact call_len_seq pins s σ H _ us Q I r ⟨a, xs, rfl, .inl k1, by rw [k2.length]; exact q.sh sg rfl⟩
  · cases hr
    obtain ⟨v, rfl, h1⟩ := hl.one
    obtain ⟨a, xs, rfl, k1, k2⟩ := h1.tup sg
    exact call_len_seq pins s σ H _ us Q I r ⟨a, xs, rfl, .inr k1, by rw [k2.length]; exact q.sh sg rfl⟩
  · obtain ⟨hf, rfl⟩ := if_some hr
    obtain ⟨v, rfl, h1⟩ := hl.one
    cases h1.str
    exact call_len_str pins s σ H _ us Q I r ⟨_, rfl, fit_le hf, q.sh sg rfl⟩
  · cases hr
theorem call_absD : CallR X (.builtin "abs") (rDs (kmOf X) absD) := by
  intro pins s σ H xs us Q I r h
  obtain ⟨G, ds, rr, sg, hl, hr, q⟩ := h
  unfold absD at hr
  split at hr
  · cases hr
    obtain ⟨v, rfl, h1⟩ := hl.one
    cases h1.int
    exact call_abs pins s σ H _ us Q I r ⟨_, rfl, q.sh sg rfl⟩
  · cases hr
theorem call_intD : CallR X (.type "int") (rDs (kmOf X) intD) := by
  intro pins s σ H xs us Q I r h
  obtain ⟨G, ds, rr, sg, hl, hr, q⟩ := h
  unfold intD at hr
  split at hr
  · cases hr
    obtain ⟨v, rfl, h1⟩ := hl.one
    cases h1.int
    exact call_int1 pins s σ H _ us Q I r (.inl ⟨_, rfl, q.sh sg rfl⟩)
  · cases hr
    obtain ⟨v, rfl, h1⟩ := hl.one
    cases h1.bl
    exact call_int1 pins s σ H _ us Q I r (.inr ⟨_, rfl, q.sh sg rfl⟩)
  · split at hr
    · rename_i hz
      obtain ⟨n, hn, rfl⟩ := Option.map_eq_some_iff.mp hr
      obtain ⟨v, rfl, h1⟩ := hl.one
      cases h1.str
      exact call_int_str pins s σ H _ us Q I r ⟨_, n, rfl, hn, of_decide_eq_true hz, q.sh sg rfl⟩
    · cases hr
  · cases hr
theorem call_strD : CallR X (.type "str") (rDs (kmOf X) strD) := by
  intro pins s σ H xs us Q I r h
  obtain ⟨G, ds, rr, sg, hl, hr, q⟩ := h
  unfold strD at hr
  split at hr
  · obtain ⟨hf, rfl⟩ := if_some hr
    obtain ⟨v, rfl, h1⟩ := hl.one
    cases h1.int
    exact call_str_int pins s σ H _ us Q I r ⟨_, rfl, of_decide_eq_true hf, q.sh sg rfl⟩
  · cases hr
    obtain ⟨v, rfl, h1⟩ := hl.one
    cases h1.str
    exact SkE.call_str_str pins s σ H _ us Q I r ⟨_, rfl, q.sh sg rfl⟩
  · cases hr
theorem call_listD : CallR X (.type "list") (rDs (kmOf X) listD) := by
  intro pins s σ H xs us Q I r h
  obtain ⟨G, ds, rr, sg, hl, hr, q⟩ := h
  unfold listD at hr
  split at hr
  · cases hr
    obtain ⟨v, rfl, h1⟩ := hl.one
    obtain ⟨a, xs, rfl, k1, k2⟩ := h1.lst sg
    exact call_list_of pins s σ H _ us Q I r ⟨a, xs, rfl, .inl (SqL.of k1), q.lst sg k2⟩
  · cases hr
    obtain ⟨v, rfl, h1⟩ := hl.one
    obtain ⟨a, xs, rfl, k1, k2⟩ := h1.rol sg
    exact call_list_of pins s σ H _ us Q I r ⟨a, xs, rfl, .inl k1, q.lst sg k2⟩
  · cases hr
    obtain ⟨v, rfl, h1⟩ := hl.one
    obtain ⟨a, xs, rfl, k1, k2⟩ := h1.tup sg
    exact call_list_of pins s σ H _ us Q I r ⟨a, xs, rfl, .inr k1, q.lst sg k2⟩
  · cases hr
theorem call_tupleD : CallR X (.type "tuple") (rDs (kmOf X) tupleD) := by
  intro pins s σ H xs us Q I r h
  obtain ⟨G, ds, rr, sg, hl, hr, q⟩ := h
  unfold tupleD at hr
  split at hr
  · cases hr
    obtain ⟨v, rfl, h1⟩ := hl.one
    obtain ⟨a, xs, rfl, k1, k2⟩ := h1.lst sg
    exact call_tuple_of pins s σ H _ us Q I r ⟨a, xs, rfl, .inl ⟨SqL.of k1, q.tup sg k2⟩⟩
  · cases hr
    obtain ⟨v, rfl, h1⟩ := hl.one
    obtain ⟨a, xs, rfl, k1, k2⟩ := h1.rol sg
    exact call_tuple_of pins s σ H _ us Q I r ⟨a, xs, rfl, .inl ⟨k1, q.tup sg k2⟩⟩
  · cases hr
    obtain ⟨v, rfl, h1⟩ := hl.one
    obtain ⟨a, xs, rfl, k1, k2⟩ := id h1.tup sg
    refine call_tuple_of pins s σ H _ us Q I r ⟨a, xs, rfl, .inr ⟨k1, ?_⟩⟩
    rcases h1 with h1 | ⟨_, _, z⟩
    · exact q.sh sg h1
    · exact z.elim
  · cases hr
end

/-! ### isinstance -/
def tyD : D → Option String
  | .non => some "NoneType" | .bl _ => some "bool" | .int _ => some "int" | .str _ => some "str" | .tup _ => some "tuple" | .lst _ => some "list" | .rol _ => some "list" | _ => none
def isAny (t : String) : List String → Option Bool
  | [] => some false
  | c :: cs => match kitB t c with
    | none => none
    | some true => some true
    | some false => isAny t cs
theorem isAny_kit {K : PySem.W.Frag} {t : String} : ∀ {cs : List String} {b : Bool}, isAny t cs = some b → PySem.W.kitAny K (.type t) (cs.map Value.type) = some b
  | [], b, h => by cases h; rfl
  | c :: cs, b, h => by
    unfold isAny at h
    cases e : kitB t c with
    | none => rw [e] at h; cases h
    | some k =>
      rw [e] at h
      refine kitAny_cons (kit_ty e) (fun z => ?_) fun z => ?_
      · subst z; exact isAny_kit h
      · subst z; cases h; rfl
theorem isAny_one {t c : String} {b : Bool} (h : isAny t [c] = some b) : kitB t c = some b := by
  unfold isAny at h
  cases e : kitB t c with
  | none => rw [e] at h; cases h
  | some k => rw [e] at h; cases k <;> cases h <;> rfl
theorem rol_tyx {K : PySem.W.Frag} {H : Hp} {a : Addr} {xs : List V} (h : SqL K H a xs) : TyX K H (.ref a) (.type "list") := by
  rcases h with (h | ⟨o, h⟩) | h
  · exact .base (.lst h)
  · exact .base (.frz h)
  · obtain ⟨o, its, n, h1, h2, _⟩ := h
    exact .kList h1 h2
theorem lk_tyx {M : KM} {G H : Hp} {d : D} {x : V} {t : String} (h : Lk M G H d x) (s : Same G H) (e : tyD d = some t) : TyX M.K H x (.type t) := by
  cases d with
  | non => cases e; cases h.non; exact .base .non
  | bl b => cases e; cases h.bl; exact .base (.bl _)
  | int b => cases e; cases h.int; exact .base (.int _)
  | str b => cases e; cases h.str; exact .base (.str _)
  | tup ds =>
    cases e
    obtain ⟨a, xs, rfl, k1, _⟩ := h.tup s
    rcases k1 with (k | ⟨o, k⟩) | k
    · exact .base (.tup k)
    · exact .fTuple k
    · obtain ⟨o, its, n, h1, h2, _⟩ := k
      exact .kTuple h1 h2
  | lst ds =>
    cases e
    obtain ⟨a, xs, rfl, k1, _⟩ := h.lst s
    exact .base (.lst k1)
  | rol ds =>
    cases e
    obtain ⟨a, xs, rfl, k1, _⟩ := h.rol s
    exact rol_tyx k1
  | _ => cases e
def cIsi (cs : List String) (f : EV) : EV := fun δ => (f δ).bind fun r δ1 => match look (stl r) δ1 with
  | some d => (match tyD d with | some t => ofO ((isAny t cs).map fun b => .sh (.bl b)) δ1 | none => .st)
  | none => .st
/-- a class, or a tuple of classes, as it is written -/
inductive ClsE (X : Cx) : Expr → List String → Prop
  | one {c T} : PE X c (tC (.ty T)) → ClsE X c [T]
  | tup {es k pos ts} : PA X es (fun _ H Q => Q (ts.map V.ty) H) → ts.length ≤ sizeLine → ClsE X (.Tuple es k pos) ts
theorem pa_tys {X : Cx} : ∀ {es : List Expr} {ts : List String}, Paired (fun e t => PE X e (tC (.ty t)) ∧ ∀ a as, e :: es = a :: as → True) es ts → True := fun _ => trivial
section
variable {X : Cx} {W : WX} {x : Str} {p pos : Pos} {id T : String} {φ : List D → Option R} {e o c : Expr} {es : List Expr} {f fo : EV} {fs : List EV} {ts : List String}
theorem clsv_all (H : Hp) : ∀ ts : List String, Paired ClsV (ts.map V.ty) (ts.map Value.type)
  | [] => .nil
  | t :: ts => .cons (.ty t) (clsv_all H ts)
theorem pd_isi (he : PD X W e f) (hc : ClsE X c ts) (hg : Gl X "isinstance") (hm : X.mg "isinstance" = none) (h1 : ∀ env, starEach [e, c] env = [(false, eval e env), (false, eval c env)]) (h2 : ∀ env, starEach [c] env = [(false, eval c env)]) :
    PD X W (.Call (.Name "isinstance" p) [e, c] [] pos) (cIsi ts f) := by
  cases hc with
  | @one c T ht =>
    refine (pe_callB call_isi hg hm rfl (pa_cons he (pa_cons ht pa_nil (h2 _)) (by rw [h1, h2])) (by decide) (by decide) (by rw [h1, h2]) (by rw [h2]; rfl)).weak fun σ H Q h => ?_
    obtain ⟨F, δ, P, G, S, h⟩ := h
    refine ⟨F, δ, P, G, S, Post.bind h fun r δ1 P1 G1 H1 S1 g1 h1 v rr => ?_⟩
    obtain ⟨G1', S1', g1', rr'⟩ := S1.settle rr
    cases el : look (stl r) δ1 with
    | none => rw [el] at h1; exact h1.elim
    | some d =>
      rw [el] at h1
      cases et : tyD d with
      | none => simp only [et] at h1; exact h1.elim
      | some t =>
        simp only [et] at h1
        obtain ⟨r', er, h2⟩ := post_ofO (δ := δ1) h1
        obtain ⟨b, eb, rfl⟩ := Option.map_eq_some_iff.mp er
        have hk1 : PySem.W.kitOne X.K (.type t) (.type T) = some b := kit_ty (isAny_one eb)
        exact ⟨v, .ty T, .type t, .type T, b, rfl, .ty T, lk_tyx (S1'.lk rr' el) S1'.g et, hk1, h2 P1 G1 H1 S1 (Same.refl _) _ rfl⟩
  | @tup es k tpos ts ha hz =>
    refine (pe_callB call_isiT hg hm rfl (pa_cons he (pa_cons (pe_tup ha) pa_nil (h2 _)) (by rw [h1, h2])) (by decide) (by decide) (by rw [h1, h2]) (by rw [h2]; rfl)).weak fun σ H Q h => ?_
    obtain ⟨F, δ, P, G, S, h⟩ := h
    refine ⟨F, δ, P, G, S, Post.bind h fun r δ1 P1 G1 H1 S1 g1 h1 v rr => ?_⟩
    obtain ⟨G1', S1', g1', rr'⟩ := S1.settle rr
    cases el : look (stl r) δ1 with
    | none => rw [el] at h1; exact h1.elim
    | some d =>
      rw [el] at h1
      cases et : tyD d with
      | none => simp only [et] at h1; exact h1.elim
      | some t =>
        simp only [et] at h1
        obtain ⟨r', er, h2⟩ := post_ofO (δ := δ1) h1
        obtain ⟨b, eb, rfl⟩ := Option.map_eq_some_iff.mp er
        refine ⟨by rw [List.length_map]; exact hz, fun q hq => ?_⟩
        have x3 := XS.new (p := q) (o := .tup (ts.map V.ty)) S1'.g hq
        refine ⟨v, q, ts.map V.ty, .type t, ts.map Value.type, b, rfl, upd_same, clsv_all H1 ts, lk_tyx ((S1'.ext x3).lk (rr'.keep x3.g) el) x3.s et, isAny_kit eb, ?_⟩
        exact h2 P1 _ _ (S1'.ext x3) (g1'.trans x3.g) _ rfl
end

/-! ### methods that only look -/
def tyOk (T : String) : D → Bool
  | .str _ => T == "str"
  | .lst _ => T == "list"
  | .rol _ => T == "list"
  | _ => false
def cMt (T : String) (φ : List D → Option R) (fo : EV) (fs : List EV) : EV := fun δ => (fo δ).bind fun r δ1 => match look (stl r) δ1 with
  | none => .st
  | some d0 => if tyOk T d0 then (cArgs fs δ1).bind fun rs δ2 => match look (stl r) δ2, looks rs δ2 with
    | some d, some ds => ofO (φ (d :: ds)) δ2
    | _, _ => .st else .st
/-- a method's contract over data -/
def MtD (X : Cx) (id : String) (φ : List D → Option R) : Prop := MtR X id (fun x xs H Q => rDs (kmOf X) φ (x :: xs) H Q)
section
variable {X : Cx} {W : WX} {name : Str} {p apos pos : Pos} {id T : String} {φ : List D → Option R} {e o c : Expr} {es : List Expr} {f fo : EV} {fs : List EV} {ts : List String}
theorem ty_lk {M : KM} {G H : Hp} {d : D} {x : V} (h : Lk M G H d x) (s : Same G H) (e : tyOk T d = true) : tyV M.K T x H := by
  cases d with
  | str z => cases h.str; exact eq_of_beq e
  | lst ds =>
    obtain ⟨a, xs, rfl, k1, _⟩ := h.lst s
    exact .inl ⟨eq_of_beq e, xs, SqL.of k1⟩
  | rol ds =>
    obtain ⟨a, xs, rfl, k1, _⟩ := h.rol s
    exact .inl ⟨eq_of_beq e, xs, k1⟩
  | _ => cases e
theorem fewOk (h : PAs X W es fs) (hl : es.length < 30) : ((backTo pos (starEach es X.env)).all (fun x => !x.1) && (backToKw pos (keywordEach [] X.env)).all (fun x => x.1.isSome)
      && decide (es.length + ([] : List Keyword).length + (if ([] : List Keyword).isEmpty then 0 else 1) < 30)) = true := by
  have h1 : (backTo pos (starEach es X.env)).all (fun x => !x.1) = true := by
    clear hl
    induction h with
    | nil => rfl
    | cons _ hs _ ih => rw [hs]; exact ih
  have h2 : decide (es.length + ([] : List Keyword).length + (if ([] : List Keyword).isEmpty then 0 else 1) < 30) = true := decide_eq_true (by simpa using hl)
  rw [h1, h2]; rfl
theorem pd_mt (pa : PlainAttrs T) (slot : Slot T name id) (hty : typeOf (.builtin id) = pure (.type "method_descriptor")) (hm : MtD X id φ) (ho : PD X W o fo) (ha : PAs X W (e :: es) (f :: fs)) (hl : (e :: es).length < 30)
    (hbase : attributeBase o name X.env (eval o X.env) = eval o X.env) (hline : (apos.endLine == pos.line) = true) : PD X W (.Call (.Attribute o name apos) (e :: es) [] pos) (cMt T φ fo (f :: fs)) := by
  have hh := ha
  cases ha with
  | cons ha1 ha2 ha3 =>
    refine (pe_bm pa slot hty hm ho (pr_args hh) hbase (fewOk hh hl) hline (ha2 _) ha3.plain).weak fun σ H Q h => ?_
    obtain ⟨F, δ, P, G, S, h⟩ := h
    refine ⟨F, δ, P, G, S, Post.bind h fun r δ1 P1 G1 H1 S1 g1 h1 v rr => ?_⟩
    obtain ⟨G1', S1', g1', rr'⟩ := S1.settle rr
    cases el : look (stl r) δ1 with
    | none => simp only [el] at h1; exact h1.elim
    | some d0 =>
      simp only [el] at h1
      split at h1
      · rename_i ht
        refine ⟨ty_lk (S1'.lk rr' el) S1'.g ht, F, δ1, P1, G1', S1', rrs_stl (h1.base g1') fun rs δ2 P2 G2 H2 hs S2 g2 h2 vs rrs => ?_⟩
        split at h2
        · rename_i d ds e1 e2
          obtain ⟨r', er, h3⟩ := post_ofO (o := φ (d :: ds)) (δ := δ2) h2
          exact ⟨G2, d :: ds, r', S2.g, ⟨v, vs, rfl, S2.lk (rr'.keep g2) e1, S2.lks hs rrs e2⟩, er, nq_of S2 h3⟩
        · exact h2.elim
      · exact h1.elim
end

def allStr : List D → Option (List Str)
  | [] => some []
  | .str a :: ds => (allStr ds).map (a :: ·)
  | _ => none
def joinOk (a : Str) (ys : List Str) : Bool := decide ((ys.map (·.length)).sum + ys.length * a.length ≤ 16777216)
def joinD : List D → Option R
  | [.str a, .lst ds] => (allStr ds).bind fun ys => if joinOk a ys then some (.sh (.str (Txt.join a ys))) else none
  | [.str a, .tup ds] => (allStr ds).bind fun ys => if joinOk a ys then some (.sh (.str (Txt.join a ys))) else none
  | _ => none
def splitD : List D → Option R
  | [.str a, .str b] => if !(b.length == 0) && decide (a.length + 2 ≤ sizeLine) then some (.ow (.lst ((Txt.split a b).map D.str))) else none
  | _ => none
def idxP (d : PyData) : List PyData → Option Nat
  | [] => none
  | z :: zs => if PyData.eqv z d then some 0 else (idxP d zs).map (· + 1)
def indexD : List D → Option R
  | [.lst ds, d] => match toPyA ds, toPy d with
    | some ps, some p => if SeqAt.shaped (.list ps) && SeqAt.shaped p then (idxP p ps).map fun (j : Nat) => .sh (.int (j : Nat)) else none
    | _, _ => none
  | _ => none
def countD : List D → Option R
  | [.lst ds, d] => match toPyA ds, toPy d with
    | some ps, some p => if SeqAt.shaped (.list ps) && SeqAt.shaped p then some (.sh (.int (ps.countP fun z => PyData.eqv z p : Nat))) else none
    | _, _ => none
  | _ => none
theorem allStr_map {M : KM} {G : Hp} : ∀ {ds : List D} {vs : List V} {ys : List Str}, RpA M G ds vs → allStr ds = some ys → vs = ys.map V.str
  | [], _, _, h, e => by cases e; exact h
  | d :: ds, _, ys, ⟨v, r, e, h1, h2⟩, q => by
    cases d with
    | str a =>
      obtain ⟨zs, e1, rfl⟩ := Option.map_eq_some_iff.mp q
      rw [e, show v = .str a from h1, allStr_map h2 e1]; rfl
    | _ => cases q
theorem idxP_some {d : PyData} : ∀ {zs : List PyData} {j : Nat}, idxP d zs = some j → ∃ z, zs[j]? = some z ∧ PyData.eqv z d = true ∧ ∀ (m : Nat) (z' : PyData), m < j → zs[m]? = some z' → PyData.eqv z' d = false
  | [], j, h => by cases h
  | z :: zs, j, h => by
    unfold idxP at h
    split at h
    · cases h; exact ⟨z, rfl, by assumption, fun m z' hm _ => absurd hm (by omega)⟩
    · rename_i hn
      obtain ⟨k, hk, rfl⟩ := Option.map_eq_some_iff.mp h
      obtain ⟨z1, h1, h2, h3⟩ := idxP_some hk
      refine ⟨z1, by simpa using h1, h2, fun m z' hm e => ?_⟩
      cases m with
      | zero => simp at e; subst e; simpa using hn
      | succ m => exact h3 m z' (by omega) (by simpa using e)
theorem rpa_strs {M : KM} {G : Hp} : ∀ ys : List Str, RpA M G (ys.map D.str) (ys.map V.str)
  | [] => rfl
  | y :: ys => ⟨_, _, rfl, rfl, rpa_strs ys⟩
section
variable {X : Cx}
theorem mt_joinD : MtD X "str.join" joinD := by
  intro pins s σ H x xs v us Q I rx rxs h
  obtain ⟨G, ds, rr, sg, hl, hr, q⟩ := h
  unfold joinD at hr
  split at hr
  · obtain ⟨v1, v2, e, h1, h2⟩ := hl.two
    cases e
    cases h1.str
    obtain ⟨ys, ey, hr⟩ := Option.bind_eq_some_iff.mp hr
    obtain ⟨hz, rfl⟩ := if_some hr
    obtain ⟨a, zs, rfl, k1, k2⟩ := h2.lst sg
    exact mt_join pins s σ H _ _ v us Q I rx rxs ⟨_, a, ys, rfl, rfl, .inl (by rw [← allStr_map k2 ey]; exact SqL.of k1), of_decide_eq_true hz, q.sh sg rfl⟩
  · obtain ⟨v1, v2, e, h1, h2⟩ := hl.two
    cases e
    cases h1.str
    obtain ⟨ys, ey, hr⟩ := Option.bind_eq_some_iff.mp hr
    obtain ⟨hz, rfl⟩ := if_some hr
    obtain ⟨a, zs, rfl, k1, k2⟩ := h2.tup sg
    exact mt_join pins s σ H _ _ v us Q I rx rxs ⟨_, a, ys, rfl, rfl, .inr (by rw [← allStr_map k2 ey]; exact k1), of_decide_eq_true hz, q.sh sg rfl⟩
  · cases hr
theorem mt_splitD : MtD X "str.split" splitD := by
  intro pins s σ H x xs v us Q I rx rxs h
  obtain ⟨G, ds, rr, sg, hl, hr, q⟩ := h
  unfold splitD at hr
  split at hr
  · obtain ⟨v1, v2, e, h1, h2⟩ := hl.two
    cases e
    cases h1.str
    cases h2.str
    obtain ⟨hz, rfl⟩ := if_some hr
    refine mt_split pins s σ H _ _ v us Q I rx rxs ⟨_, _, rfl, rfl, by simpa using and_l hz, of_decide_eq_true (and_r hz), q.lst sg (rpa_strs _)⟩
  · cases hr
theorem mt_indexD' (hu : X.A.units + 65 < cLine) : MtD X "list.index" indexD := by
  intro pins s σ H x xs v us Q I rx rxs h
  obtain ⟨G, ds, rr, sg, hl, hr, q⟩ := h
  unfold indexD at hr
  split at hr
  · obtain ⟨v1, v2, e, h1, h2⟩ := hl.two
    cases e
    obtain ⟨a, zs, rfl, k1, k2⟩ := h1.lst sg
    split at hr
    · rename_i ps p e1 e2
      split at hr
      · rename_i hc
        obtain ⟨j, ej, rfl⟩ := Option.map_eq_some_iff.mp hr
        obtain ⟨z, j1, j2, j3⟩ := idxP_some ej
        exact mt_indexD hu pins s σ H _ _ v us Q I rx rxs ⟨a, _, p, ps, j, z, rfl, rfl, .lst (SqL.of k1) (RpA.dp sg _ k2 e1), h2.dp sg e2, and_l hc, and_r hc, j1, j2, j3, q.sh sg rfl⟩
      · cases hr
    · cases hr
  · cases hr
theorem mt_countD' (hu : X.A.units + 65 < cLine) : MtD X "list.count" countD := by
  intro pins s σ H x xs v us Q I rx rxs h
  obtain ⟨G, ds0, rr, sg, hl, hr, q⟩ := h
  unfold countD at hr
  split at hr
  · obtain ⟨v1, v2, e, h1, h2⟩ := hl.two
    cases e
    obtain ⟨a, zs, rfl, k1, k2⟩ := h1.lst sg
    split at hr
    · rename_i ps p e1 e2
      obtain ⟨hc, rfl⟩ := if_some hr
      cases rx
      cases rxs with
      | cons ry rt =>
        rename_i uy ut
        cases rt
        have sl : SeqAt.shaped (.list ps) = true := and_l hc
        have sd : SeqAt.shaped p = true := and_r hc
        obtain ⟨bs, r1⟩ := Dp.reads I p _ uy (h2.dp sg e2) ry
        have hxs : PyData.canLayAll0 ps = true := SeqAt.canLay_of_shaped sl
        have hroom : X.A.units + 1 + min (PyData.depthAll ps) p.depth < cLine := room_in_shaped sd hu
        have ha := RpA.dp (M := kmOf X) sg _ k2 e1
        obtain ⟨its, rv, ⟨⟨cls, dd, data, sls⟩, n, ho, hcl, hdn, hdt⟩, hlen⟩ := I.list (SqL.of k1)
        simp only at hcl hdt
        subst hcl hdt
        obtain ⟨as, h4⟩ := Dp.readsAll I ps _ its ha rv
        have hmap : its.map (SeqAt.readOf s.heap) = ps := SeqAt.readsAll_map ps its as hxs h4
        refine call_meets PySem.F.slot_list_count ⟨_, ho, rfl⟩ PySem.F.entry_list_count (PySem.F.args_list_count_2 _ _)
          (SeqAt.list_countAt a its.toArray n dd sls uy (fun u => PyData.eqv (SeqAt.readOf s.heap u) p)) ⟨ho, SeqAt.items_eqAt (vs := its.toArray) (show ReadsAll s.heap its.toArray.toList ps as from h4) r1 hxs (SeqAt.canLay_of_shaped sd) hroom, ?_⟩
        have ec : its.toArray.toList.countP (fun u => PyData.eqv (SeqAt.readOf s.heap u) p) = ps.countP fun z => PyData.eqv z p := by
          rw [← hmap, List.countP_map]; rfl
        rw [ec]
        exact ⟨.int (ps.countP fun z => PyData.eqv z p : Nat), H, I.tok _, ⟨s.toks, rfl⟩, q.sh sg rfl⟩
    · cases hr
  · cases hr
end
end PV
/-! PVK: own containers changed; range, enumerate; raise; x op= e. -/
namespace PV
open PySem PySem.Spec PyProof.Rows L2

section
variable {M : KM} {F : Fm} {δ : List Sl} {σ : Sg} {P : Nat → Addr} {G G' H H' : Hp} {W : WX} {Q : VK}
/-- an own container's object is written -/
theorem SR.mut {i : Nat} {b : Bool} {d d' : D} {o : HO} (S : SR M F δ σ P G H) (e : δ[i]? = some (.ow b d)) (h : OwnAt M G (upd H (P i) o) (P i) d') : SR M F (δ.set i (.ow b d')) σ P G (upd H (P i) o) := by
  obtain ⟨k1, k2, k3, k4, k5, k6⟩ := S.ow i b d e
  have hi : i < δ.length := (List.getElem?_eq_some_iff.mp e).1
  refine ⟨by rw [List.length_set]; exact S.len, fun j d1 q => ?_, fun j b1 d1 q => ?_, fun j j' b1 d1 b2 d2 q q' z => ?_, fun a u q => ?_, fun a u q => ?_, S.g0, S.gn, fun a u q z => ?_⟩
  · rcases get_set q with ⟨_, z, _⟩ | ⟨_, q⟩
    · cases z
    · exact S.sh j d1 q
  · rcases get_set q with ⟨rfl, z, _⟩ | ⟨n, q⟩
    · cases z
      exact ⟨k1, h, k3, k4, k5, k6⟩
    · obtain ⟨h1, h2, h3, h4⟩ := S.ow j b1 d1 q
      exact ⟨h1, h2.mono (Same.refl _) (upd_ne fun z => n (S.ap _ _ _ _ _ _ q e z)), h3, h4⟩
  · have key : ∀ {j : Nat} {b1 : Bool} {d1 : D}, (δ.set i (.ow b d'))[j]? = some (.ow b1 d1) → ∃ d2, δ[j]? = some (.ow b1 d2) := fun {j b1 d1} q => by
      rcases get_set q with ⟨rfl, z, _⟩ | ⟨_, q⟩
      · cases z; exact ⟨_, e⟩
      · exact ⟨_, q⟩
    obtain ⟨e1, w1⟩ := key q
    obtain ⟨e2, w2⟩ := key q'
    exact S.ap _ _ _ _ _ _ w1 w2 z
  · have ne : a ≠ P i := fun z => by rw [z, k4] at q; cases q
    rw [upd_ne ne]; exact S.t a u q
  · have ne : a ≠ P i := fun z => by rw [z, k3] at q; cases q
    rw [upd_ne ne]; exact S.g a u q
  · by_cases ne : a = P i
    · rw [ne, upd_same] at z; cases z
    · rw [upd_ne ne] at z; exact S.b a u q z
end
/-- a changing method over data: the container behind it, what it yields -/
abbrev Mu := D → List D → Option (D × D)
def rMu (M : KM) (ψ : Mu) : V → List V → Hp → VK → Prop := fun x xs H Q => ∃ G d ds d' r p, x = .ref p ∧ Same G H ∧ OwnAt M G H p d ∧ RpA M G ds xs ∧ ψ d ds = some (d', r) ∧
  ∀ o v, OwnAt M G (upd H p o) p d' → Rp M G r v → Q v (upd H p o)
def MuD (X : Cx) (id : String) (ψ : Mu) : Prop := MtR X id (rMu (kmOf X) ψ)
def muOk (T : String) : D → Bool
  | .lst _ => T == "list"
  | _ => false
def cMu (T : String) (ψ : Mu) (i : Nat) (fs : List EV) : EV := fun δ => match δ[i]? with
  | some (.ow _ d0) => if muOk T d0 then (cArgs fs δ).bind fun rs δ1 => (leaks rs δ1).bind fun ds δ2 => match δ2[i]? with
    | some (.ow b d) => (match ψ d ds with
      | some (d', r) => .ok (.sh r) (δ2.set i (.ow b d'))
      | none => .st)
    | _ => .st else .st
  | _ => .st
section
variable {X : Cx} {W : WX} {name x : Str} {p apos pos : Pos} {id T : String} {ψ : Mu} {e : Expr} {es : List Expr} {f : EV} {fs : List EV} {i : Nat}
theorem run_mu {σ : Sg} {H : Hp} {Q : VK} (h : tD (kmOf X) W (cMu T ψ i fs) σ H Q) : tBM X.K T (rMu (kmOf X) ψ) (tVar i) (tA' (kmOf X) W (cArgs fs)) σ H Q := by
  obtain ⟨F, δ, P, G, S, h⟩ := h
  unfold cMu at h
  split at h
  · rename_i b0 d0 e0
    split at h
    · rename_i ht
      obtain ⟨k1, k2, k3, _⟩ := S.ow i _ _ e0
      refine ⟨_, k1, ?_, F, δ, P, G, S, rrs_stl h fun rs δ1 P1 G1 H1 hs S1 g1 h1 vs rr => ?_⟩
      · cases d0 with
        | lst ds =>
          obtain ⟨zs, z1, z2⟩ := k2
          exact .inl ⟨eq_of_beq ht, zs, SqL.of z1⟩
        | _ => cases ht
      · rcases leaks_cases rs δ1 with ⟨ds, δ2, e⟩ | e
        · rw [e] at h1
          obtain ⟨G2, S2, g2, r2⟩ := S1.leaks hs rr e
          have h1 := Post.base h1 g2
          dsimp only [Out.bind] at h1
          split at h1
          · rename_i b d e2
            split at h1
            · rename_i d' r e3
              obtain ⟨m1, m2, m3, _⟩ := S2.ow i _ _ e2
              rw [k1] at m1
              have eP : P i = P1 i := by injection m1 with m1; injection m1 with m1; injection m1
              rw [eP]
              refine ⟨G2, d, ds, d', r, P1 i, rfl, S2.g, m2, r2, e3, fun o v ho hv => ?_⟩
              exact h1 P1 G2 _ (S2.mut e2 ho) (Same.refl _) v hv
            · exact h1.elim
          · exact h1.elim
        · rw [e] at h1; exact h1.elim
    · exact h.elim
  · exact h.elim
theorem pd_mu (pa : PlainAttrs T) (slot : Slot T name id) (hty : typeOf (.builtin id) = pure (.type "method_descriptor")) (hm : MuD X id ψ) (hN : X.N[i]? = some x) (hv : Vis X.env.scope x) (hd : (x == ("__debug__" : Str)) = false) (hcd : (x == ("__classdict__" : Str)) = false)
    (ha : PAs X W (e :: es) (f :: fs)) (hl : (e :: es).length < 30) (hbase : attributeBase (.Name x p) name X.env (eval (.Name x p) X.env) = eval (.Name x p) X.env) (hline : (apos.endLine == pos.line) = true) :
    PD X W (.Call (.Attribute (.Name x p) name apos) (e :: es) [] pos) (cMu T ψ i (f :: fs)) := by
  have hh := ha
  cases ha with
  | cons ha1 ha2 ha3 => exact (pe_bm pa slot hty hm (pe_var hN hv hd hcd) (pr_args hh) hbase (fewOk hh hl) hline (ha2 _) ha3.plain).weak fun σ H Q h => run_mu h
theorem pd_mu0 (pa : PlainAttrs T) (slot : Slot T name id) (hty : typeOf (.builtin id) = pure (.type "method_descriptor")) (hm : MuD X id ψ) (hN : X.N[i]? = some x) (hv : Vis X.env.scope x) (hd : (x == ("__debug__" : Str)) = false) (hcd : (x == ("__classdict__" : Str)) = false)
    (hbase : attributeBase (.Name x p) name X.env (eval (.Name x p) X.env) = eval (.Name x p) X.env) (hline : (apos.endLine == pos.line) = true) :
    PD X W (.Call (.Attribute (.Name x p) name apos) [] [] pos) (cMu T ψ i []) :=
  (pe_bm0 pa slot hty hm (pe_var hN hv hd hcd) hbase hline).weak fun σ H Q h => by
    obtain ⟨v, h1, h2, F, δ, P, G, S, h3⟩ := run_mu h
    exact ⟨v, h1, h2, h3 P G H S (Same.refl _) [] rfl⟩
end
def appendD : Mu
  | .lst xs, [y] => if fit (xs.length + 1) then some (.lst (xs ++ [y]), .non) else none
  | _, _ => none
def extendD : Mu
  | .lst xs, [.lst ys] => if fit (xs.length + ys.length) then some (.lst (xs ++ ys), .non) else none
  | _, _ => none
def popD : Mu
  | .lst xs, [] => (xs[xs.length - 1]?).map fun y => (.lst xs.dropLast, y)
  | _, _ => none
def insertD : Mu
  | .lst xs, [.int i, y] => if fit (xs.length + 1) && decide (0 ≤ i) && decide (i < 2 ^ 63) then some (.lst (xs.take i.toNat ++ [y] ++ xs.drop i.toNat), .non) else none
  | _, _ => none
def clearD : Mu
  | .lst _, [] => some (.lst [], .non)
  | _, _ => none
theorem RpA.dropLast {M : KM} {G : Hp} {ds : List D} {vs : List V} (h : RpA M G ds vs) : RpA M G ds.dropLast vs.dropLast := by
  rw [List.dropLast_eq_take, List.dropLast_eq_take, h.length]
  exact h.take _
section
variable {X : Cx}
theorem RpA.one {M : KM} {G : Hp} {d : D} {vs : List V} (h : RpA M G [d] vs) : ∃ v, vs = [v] ∧ Rp M G d v := by
  obtain ⟨v, r, e, h1, h2⟩ := h
  exact ⟨v, by rw [e, show r = [] from h2], h1⟩
theorem mu_append : MuD X "list.append" appendD := by
  intro pins s σ H x xs v us Q I rx rxs h
  obtain ⟨G, d, ds, d', r, p, rfl, sg, hd, ha, e, q⟩ := h
  unfold appendD at e
  split at e
  · rename_i zs y
    obtain ⟨hf, e⟩ := if_some e
    cases e
    obtain ⟨w, rfl, hw⟩ := ha.one
    obtain ⟨vs, h1, h2⟩ := hd
    have := fit_le hf
    have hl := h2.length
    exact mt_append pins s σ H _ _ v us Q I rx rxs ⟨p, vs, w, rfl, rfl, h1, by omega, q _ .non ⟨_, upd_same, RpA.append h2 (RpA.cons hw RpA.nil)⟩ rfl⟩
  · cases e
theorem mu_extend : MuD X "list.extend" extendD := by
  intro pins s σ H x xs v us Q I rx rxs h
  obtain ⟨G, d, ds, d', r, p, rfl, sg, hd, ha, e, q⟩ := h
  unfold extendD at e
  split at e
  · rename_i zs ys
    obtain ⟨hf, e⟩ := if_some e
    cases e
    obtain ⟨w, rfl, b, us', rfl, k1, k2⟩ := ha.one
    obtain ⟨vs, h1, h2⟩ := hd
    have := fit_le hf
    have hl := h2.length
    have hl2 := k2.length
    exact mt_extend pins s σ H _ _ v us Q I rx rxs ⟨p, b, vs, us', rfl, rfl, h1, sg _ _ k1, by omega, q _ .non ⟨_, upd_same, RpA.append h2 k2⟩ rfl⟩
  · cases e
theorem mu_pop : MuD X "list.pop" popD := by
  intro pins s σ H x xs v us Q I rx rxs h
  obtain ⟨G, d, ds, d', r, p, rfl, sg, hd, ha, e, q⟩ := h
  unfold popD at e
  split at e
  · rename_i zs
    obtain ⟨y, ey, e⟩ := Option.map_eq_some_iff.mp e
    cases e
    obtain ⟨vs, h1, h2⟩ := hd
    obtain ⟨w, hw1, hw2⟩ := h2.get ey
    exact mt_pop pins s σ H _ _ v us Q I rx rxs ⟨p, vs, w, rfl, ha, h1, by rw [h2.length]; exact hw1, q _ w ⟨_, upd_same, h2.dropLast⟩ hw2⟩
  · cases e
theorem mu_insert : MuD X "list.insert" insertD := by
  intro pins s σ H x xs v us Q I rx rxs h
  obtain ⟨G, d, ds, d', r, p, rfl, sg, hd, ha, e, q⟩ := h
  unfold insertD at e
  split at e
  · rename_i zs i y
    obtain ⟨hf, e⟩ := if_some e
    cases e
    obtain ⟨w, r1, rfl, hw, ha2⟩ := ha
    cases (show w = .int i from hw)
    obtain ⟨w2, rfl, hw2⟩ := RpA.one ha2
    obtain ⟨vs, h1, h2⟩ := hd
    have := fit_le (and_l (and_l hf))
    have hl := h2.length
    exact mt_insert pins s σ H _ _ v us Q I rx rxs ⟨p, vs, i, w2, rfl, rfl, h1, by omega, of_decide_eq_true (and_r (and_l hf)), of_decide_eq_true (and_r hf), q _ .non ⟨_, upd_same, RpA.append (RpA.append (h2.take _) (RpA.cons hw2 RpA.nil)) (h2.drop _)⟩ rfl⟩
  · cases e
theorem mu_clear : MuD X "list.clear" clearD := by
  intro pins s σ H x xs v us Q I rx rxs h
  obtain ⟨G, d, ds, d', r, p, rfl, sg, hd, ha, e, q⟩ := h
  unfold clearD at e
  split at e
  · cases e
    obtain ⟨vs, h1, h2⟩ := hd
    exact mt_clear pins s σ H _ _ v us Q I rx rxs ⟨p, vs, rfl, ha, h1, q _ .non ⟨_, upd_same, RpA.nil⟩ rfl⟩
  · cases e
end

/-! ### x[i] = v -/
def setD : D → D → D → Option D
  | .lst xs, .int k, y => (ixN xs.length k).map fun j => .lst (xs.set j y)
  | _, _, _ => none
/-- target x[fi] of an own container; the value is shared -/
def gSubD (i : Nat) (fi : EV) : TV := fun r δ => (leak (stl r) δ).bind fun d δ1 => match δ1[i]? with
  | some (.ow _ _) => (fi δ1).bind fun ri δ2 => match look (stl ri) δ2, δ2[i]? with
    | some k, some (.ow b c) => (match setD c k d with
      | some c' => .ok () (δ2.set i (.ow b c'))
      | none => .st)
    | _, _ => .st
  | _ => .st
section
variable {X : Cx} {W : WX} {x : Str} {p pos : Pos} {ei : Expr} {fi : EV} {i : Nat} {vs : List Nat}
theorem pgd_sub (hN : X.N[i]? = some x) (hv : Vis X.env.scope x) (hd : (x == ("__debug__" : Str)) = false) (hcd : (x == ("__classdict__" : Str)) = false) (hi : PD X W ei fi)
    (ha : ∀ v, assign (.Subscript (.Name x p) ei pos) X.env v = (do
      let ov ← holding [v] (eval (.Name x p) X.env)
      let iv ← holding [v, ov] (eval ei X.env)
      standAt pos
      holding [v, ov, iv] (setItem ov iv v)
      release [v, ov, iv] [])) : PGd X W vs (.Subscript (.Name x p) ei pos) (gSubD i fi) := by
  refine (pg_sub (pe_var hN hv hd hcd) hi set_list ha).weak fun v σ H Q h => ?_
  obtain ⟨F, δ, P, G, r, S, rr, h⟩ := h
  obtain ⟨G1, S1, g1, rr1⟩ := S.settle rr
  unfold gSubD at h
  rcases leak_cases (stl r) δ with ⟨d, δ1, e⟩ | e
  · rw [e] at h
    obtain ⟨G2, S2, g2, r2⟩ := S1.leak rr1 e
    have h := SPost.base h (g1.trans g2)
    dsimp only [Out.bind] at h
    split at h
    · rename_i b0 d0 e0
      obtain ⟨k1, _⟩ := S2.ow i _ _ e0
      refine ⟨_, k1, F, δ1, P, G2, S2, ?_⟩
      cases ef : fi δ1 with
      | st => rw [ef] at h; exact h.elim
      | ex c δ2 => rw [ef] at h; exact fun C P' G' H' hc S' g' => h C σ P' G' H' hc S' g'
      | ok ri δ2 =>
        rw [ef] at h
        intro P3 G3 H3 S3 g3 k rk
        obtain ⟨G4, S4, g4, rk4⟩ := S3.settle rk
        dsimp only at h
        have h := SPost.base h (g3.trans g4)
        split at h
        · rename_i kd b c e1 e2
          split at h
          · rename_i c' e3
            unfold setD at e3
            split at e3
            · rename_i xs kk
              obtain ⟨j, ej, rfl⟩ := Option.map_eq_some_iff.mp e3
              obtain ⟨m1, ⟨zs, m2, m2'⟩, m3, _⟩ := S4.ow i _ _ e2
              rw [k1] at m1
              have eP : P i = P3 i := by injection m1 with m1; injection m1 with m1; injection m1
              cases (S4.lk rk4 e1).int
              rw [eP]
              refine ⟨P3 i, zs, kk, j, rfl, rfl, m2, by rw [m2'.length]; exact ej, ?_⟩
              exact h σ P3 G4 _ (S4.mut e2 ⟨_, upd_same, RpA.set m2' (Rp.mono (g3.trans g4) _ r2)⟩) (Same.refl _) rfl
            · cases e3
          · exact h.elim
        · exact h.elim
    · exact h.elim
  · rw [e] at h; exact h.elim
end

/-! ### range, enumerate -/
def rgOk (i : Int) : Bool := decide (-(2 ^ 62) ≤ i) && decide (i < 2 ^ 62)
def rgL (lo : Int) (n : Nat) : List D := (List.range n).map fun (k : Nat) => .int (lo + (k : Int))
def enumL : Nat → List D → List D
  | _, [] => []
  | k, d :: ds => .tup [.int k, d] :: enumL (k + 1) ds
def rngIt1 : List D → Option (List D)
  | [.int j] => if rgOk j then some (rgL 0 j.toNat) else none
  | _ => none
def rngIt2 : List D → Option (List D)
  | [.int i, .int j] => if rgOk i && rgOk j then some (rgL i (j - i).toNat) else none
  | _ => none
def iFn (φ : List D → Option (List D)) (fs : List EV) : IV := fun δ => (cArgs fs δ).bind fun rs δ1 => match looks rs δ1 with
  | some ds => ofO (φ ds) δ1
  | none => .st
/-- over a shared list: it stays as it is -/
def iEnumD (f : EV) : IV := fun δ => (f δ).bind fun r δ1 => (leak (stl r) δ1).bind fun d δ2 => match d with
  | .lst ds => .ok (enumL 0 ds) δ2
  | .rol ds => .ok (enumL 0 ds) δ2
  | _ => .st
theorem rgL_len {lo : Int} {n : Nat} : (rgL lo n).length = n := by simp [rgL]
theorem items_rng {M : KM} {G : Hp} (lo : Int) (n : Nat) : Items M G (Itr lo n) (rgL lo n) := by
  refine ⟨fun i H s hi => by rw [rgL_len] at hi; exact hi, fun i H s hi => by rw [rgL_len] at hi; exact hi, fun i d Gc H x H' s s' hd hy => ?_⟩
  obtain ⟨rfl, rfl⟩ := hy
  have hi : i < n := by
    have := (List.getElem?_eq_some_iff.mp hd).1
    rwa [rgL_len] at this
  have : d = .int (lo + i) := by
    unfold rgL at hd
    rw [List.getElem?_map, List.getElem?_range hi] at hd
    exact (Option.some.inj hd).symm
  subst this
  exact ⟨Gc, XS.refl s', rfl⟩
theorem enumL_get : ∀ {ds : List D} {k i : Nat}, (enumL k ds)[i]? = (ds[i]?).map fun d => .tup [.int (k + i : Nat), d]
  | [], k, i => by simp [enumL]
  | d :: ds, k, 0 => by simp [enumL]
  | d :: ds, k, i + 1 => by
    have := enumL_get (ds := ds) (k := k + 1) (i := i)
    simp only [enumL, List.getElem?_cons_succ, this]
    have e : k + 1 + i = k + (i + 1) := by omega
    rw [e]
theorem enumL_len : ∀ {ds : List D} {k : Nat}, (enumL k ds).length = ds.length
  | [], _ => rfl
  | _ :: ds, _ => by simp [enumL, enumL_len (ds := ds)]
theorem items_enum {M : KM} {G : Hp} {a : Addr} {xs : List V} {ds : List D} (h : SqL M.K G a xs) (r : RpA M G ds xs) : Items M G (Ite M.K a) (enumL 0 ds) := by
  have uniq : ∀ (H : Hp), Same G H → SqL M.K H a xs := fun H s => Same.seq s h
  refine ⟨fun i H s hi => ?_, fun i H s hi => ⟨xs, uniq H s, by rw [r.length]; rw [enumL_len] at hi; exact hi⟩, fun i d Gc H x H' s s' hd hy => ?_⟩
  · rw [enumL_len] at hi
    obtain ⟨v, h1, _⟩ := r.get (List.getElem?_eq_getElem hi)
    exact ⟨xs, v, uniq H s, h1⟩
  · obtain ⟨T, y, rfl, hn, rfl, hall⟩ := hy
    have h0 := hall xs (uniq H (s.trans s'))
    rw [enumL_get] at hd
    obtain ⟨d0, e0, rfl⟩ := Option.map_eq_some_iff.mp hd
    obtain ⟨v, h1, h2⟩ := r.get e0
    rw [h0] at h1
    cases h1
    have x3 := XS.new (p := T) (o := .tup [.int (i : Nat), y]) s' hn
    refine ⟨_, x3, T, _, rfl, .inl (.inl upd_same), ?_⟩
    exact RpA.cons (show V.int (i : Nat) = .int ((0 + i : Nat)) by simp) (RpA.cons (Rp.mono (s.trans x3.g) _ h2) RpA.nil)
section
variable {X : Cx} {W : WX} {p pos tpos : Pos} {tg e : Expr} {es elts : List Expr} {f : EV} {fs : List EV} {kk : Nat}
theorem run_it {φ : List D → Option (List D)} {σ : Sg} {H : Hp} {Rr : It → Hp → Prop} {r : List V → Hp → (It → Hp → Prop) → Prop} (h : tI (kmOf X) W (iFn φ fs) σ H Rr)
    (hr : ∀ vs G H ds out, Same G H → LkA (kmOf X) G H ds vs → φ ds = some out → (∀ J, Items (kmOf X) G J out → Rr J H) → r vs H Rr) : tA' (kmOf X) W (cArgs fs) σ H fun vs H1 => r vs H1 Rr := by
  obtain ⟨F, δ, P, G, S, h⟩ := h
  refine ⟨F, δ, P, G, S, rrs_stl h fun rs δ1 P1 G1 H1 hs S1 g1 h1 vs rr => ?_⟩
  cases el : looks rs δ1 with
  | none => rw [el] at h1; exact h1.elim
  | some ds =>
    rw [el] at h1
    obtain ⟨out, er, h2⟩ := post_ofO (o := φ ds) (δ := δ1) h1
    exact hr vs G1 H1 ds out S1.g (S1.lks hs rr el) er fun J hJ => h2 P1 G1 H1 S1 (Same.refl _) J G1 H1 (XS.refl S1.g) hJ
theorem rg_ok {i : Int} (h : rgOk i = true) : -(2 ^ 62) ≤ i ∧ i < 2 ^ 62 := ⟨of_decide_eq_true (and_l h), of_decide_eq_true (and_r h)⟩
theorem pid_rng1 (hg : Gl X "range") (hm : X.mg "range" = none) (ha : PAs X W [e] fs) (h1 : ∀ env, starEach [e] env = [(false, eval e env)]) : PId X W tg (.Call (.Name "range" p) [e] [] pos) (iFn rngIt1 fs) :=
  ⟨fun pins s σ H R I h => (pi_range1 hg hm (pr_args ha) (h1 _)).run pins s σ H R I (run_it (r := fun vs H1 R => ∃ j : Int, vs = [.int j] ∧ -(2 ^ 62) ≤ j ∧ j < 2 ^ 62 ∧ R (Itr 0 j.toNat) H1) h fun vs G H ds out sg hl er k => by
    unfold rngIt1 at er
    split at er
    · obtain ⟨hc, rfl⟩ := if_some er
      obtain ⟨v, rfl, h1⟩ := hl.one
      cases h1.int
      exact ⟨_, rfl, (rg_ok hc).1, (rg_ok hc).2, k _ (items_rng _ _)⟩
    · cases er)⟩
theorem pid_rng2 {e' : Expr} (hg : Gl X "range") (hm : X.mg "range" = none) (ha : PAs X W [e, e'] fs) (h1 : ∀ env, starEach [e, e'] env = [(false, eval e env), (false, eval e' env)]) (h2 : ∀ env, starEach [e'] env = [(false, eval e' env)]) :
    PId X W tg (.Call (.Name "range" p) [e, e'] [] pos) (iFn rngIt2 fs) :=
  ⟨fun pins s σ H R I h => (pi_range2 hg hm (pr_args ha) (h1 _) (h2 _)).run pins s σ H R I (run_it (r := fun vs H1 R => ∃ i j : Int, vs = [.int i, .int j] ∧ (-(2 ^ 62) ≤ i ∧ i < 2 ^ 62 ∧ -(2 ^ 62) ≤ j ∧ j < 2 ^ 62) ∧ R (Itr i (j - i).toNat) H1) h fun vs G H ds out sg hl er k => by
    unfold rngIt2 at er
    split at er
    · obtain ⟨hc, rfl⟩ := if_some er
      obtain ⟨v, v', rfl, h1, h2⟩ := hl.two
      cases h1.int
      cases h2.int
      exact ⟨_, _, rfl, ⟨(rg_ok (and_l hc)).1, (rg_ok (and_l hc)).2, (rg_ok (and_r hc)).1, (rg_ok (and_r hc)).2⟩, k _ (items_rng _ _)⟩
    · cases er)⟩
theorem pid_enum (hg : Gl X "enumerate") (hm : X.mg "enumerate" = none) (ha : PD X W e f) (h1 : ∀ env, starEach [e] env = [(false, eval e env)]) : PId X W (.Tuple elts kk tpos) (.Call (.Name "enumerate" p) [e] [] pos) (iEnumD f) :=
  ⟨fun pins s σ H Rr I h => by
    refine (pi_enum hg hm (pa_cons ha pa_nil (h1 _)) (h1 _)).run pins s σ H Rr I ?_
    obtain ⟨F, δ, P, G, S, h⟩ := h
    refine ⟨F, δ, P, G, S, Post.bind h fun r δ1 P1 G1 H1 S1 g1 h1 v rr => ?_⟩
    obtain ⟨G2, S2, g2, rr2⟩ := S1.settle rr
    rcases leak_cases (stl r) δ1 with ⟨d, δ2, e⟩ | e
    · rw [e] at h1
      obtain ⟨G3, S3, g3, r3⟩ := S2.leak rr2 e
      have h1 := Post.base h1 (g2.trans g3)
      dsimp only [Out.bind] at h1
      split at h1
      · obtain ⟨a, xs, rfl, k1, k2⟩ := r3
        exact ⟨a, xs, rfl, SqL.of (S3.g _ _ k1), h1 P1 G3 H1 S3 (Same.refl _) _ G3 H1 (XS.refl S3.g) (items_enum (SqL.of k1) k2)⟩
      · obtain ⟨a, xs, rfl, k1, k2⟩ := r3
        exact ⟨a, xs, rfl, Same.seq S3.g k1, h1 P1 G3 H1 S3 (Same.refl _) _ G3 H1 (XS.refl S3.g) (items_enum k1 k2)⟩
      · exact h1.elim
    · rw [e] at h1; exact h1.elim⟩
end

/-! ### raise X('m'), name op= e -/
def sRaise (c : Str) : SV := fun δ => .ex c δ
def cAug (op : Operator) (i : Nat) (f : EV) : EV := c2 (binD op) (cVar i) f
section
variable {X : Cx} {W : WX} {C : Addr} {bmB : List Value} {B newId initId : String} {x m : Str} {j : Nat} {p p2 pos pos' : Pos} {e : Expr} {f : EV} {i : Nat}
theorem psd_raise (hc : X.calm = true) (tk : Takes X W) (F : ExcBaseFacts B newId initId bmB) (q : PySem.W.excIn X.K C bmB newId = true) (gC : X.mg x = some (.ref C)) (kC : PySem.W.keepIn X.K (.ref C) = true) (r : Raises X (.ref C)) (hg : Gl X x) (hdb : (x == ("__debug__" : Str)) = false) :
    PSd X W (.Raise (some (.Call (.Name x p) [.Constant (.str m) j p2] [] pos)) none pos') (sRaise x) :=
  (ps_raise hc tk (pmk_own F q gC kC r hg hdb)).weak fun Dn σ H ⟨F, δ, P, G, S, h⟩ => h (C) σ P G H gC S (Same.refl _)
end
end PV
/-! PVL: defs of a text and calls of them. -/
namespace PV
open PySem PySem.Spec PyProof.Rows L2

/-- the def named x (m parameters) does what g says -/
structure CalD (P : Program) (w : World) (K : PySem.W.Frag) (mg : Str → Option Value) (base : Heap) (k : Nat) (x : Str) (ps : List Str) (g : List Sl → Out R) : Prop where
  ex : ∃ (f : Addr) (fd : FuncData), FnOk P w K mg base (L2.CX P w) k f fd ps (spD ⟨P, w, K, mg⟩ ps.length g) ∧ mg x = some (.ref f) ∧ PySem.W.keepIn K (.ref f) = true ∧ Binds K fd ps [] ∧ ∃ (oc : Value) (od : Option Addr) (sl : Array (Option Value)), K.lookup f = some ⟨oc, od, .func fd, sl⟩
/-- the def stands in the text -/
structure DefT (K : PySem.W.Frag) (mg : Str → Option Value) (x : Str) (st : Stmt) (ps : List Str) : Prop where
  ex : ∃ (f : Addr) (fd : FuncData), Fun K x x st f fd ∧ mg x = some (.ref f) ∧ Binds K fd ps []
section
variable {P : Program} {w : World} {K : PySem.W.Frag} {mg : Str → Option Value} {base : Heap}
theorem fun_lk {x qual : Str} {st : Stmt} {f : Addr} {fd : FuncData} (F : Fun K x qual st f fd) : ∃ (oc : Value) (od : Option Addr) (sl : Array (Option Value)), K.lookup f = some ⟨oc, od, .func fd, sl⟩ := by
  obtain ⟨oc, od, kV, doc, pm, an, cdv, ct, osl, rfl, lk, hcd⟩ := F.ex
  exact ⟨oc, od, osl, lk⟩
theorem cal_ok {x : Str} {st : Stmt} {N ps : List Str} {k m : Nat} {a : SV} (T : DefT K mg x st ps) (S : FnScope N ps (defScope st)) (hm : m = N.length - ps.length)
    (hbody : ∀ (f : Addr) (cdv : Value) (A : Around) (outer : List Env) (s : Shared) (H : Hp) (E : XK), Room k (A.deeper (envOfC x (defScope st) s.heap.objs.size f cdv)) →
      PSsd (cxOf (L2.CX P w) P w K mg base N x (defScope st) f cdv A outer s H E) (fun cls d _ H' => E cls d H') (defBody st) a) :
    CalD P w K mg base (k + 1) x ps (defD m a) := by
  obtain ⟨f, fd, F, hf, hb⟩ := T.ex
  subst hm
  exact ⟨f, fd, def_ok F S (hbody f), hf, F.kp, hb, fun_lk F⟩
/-- a def that is never run to its end -/
theorem cal_st {x : Str} {st : Stmt} {ps : List Str} (T : DefT K mg x st ps) : CalD P w K mg base 0 x ps (fun _ => .st) := by
  obtain ⟨f, fd, F, hf, hb⟩ := T.ex
  refine ⟨f, fd, ⟨fun vs H Q E h => h.1, fun A outer s H args us vs Q E _ _ _ _ h => ?_⟩, hf, F.kp, hb, fun_lk F⟩
  obtain ⟨_, _, _, _, _, _, _, z⟩ := h
  exact z.elim
end
section
variable {X : Cx} {W : WX} {k n : Nat} {ps : List Str} {fn : List Sl → Out R} {x : Str} {p pos : Pos} {io : List Bool} {es : List Expr} {fs : List EV}
def cCal (g : List Sl → Out R) (io : List Bool) (fs : List EV) : EV := fun δ => (cArgs fs δ).bind fun rs δ1 => callK g io rs δ1
theorem pd_cal (tk : Takes X W) (c : CalD X.prog X.w X.K X.mg X.base n x ps fn) (hm : fs.length = ps.length) (hr : Room k X.A) (hk : n ≤ k) (hg : Gl X x)
    (ha : PAs X W es fs) (hdb : (x == ("__debug__" : Str)) = false) : PD X W (.Call (.Name x p) es [] pos) (cCal fn io fs) := by
  obtain ⟨f, fd, F, hf, kp, b, _⟩ := c.ex
  rw [← hm] at F
  exact pd_call tk F (hr.mono hk) hg hf kp b ha hdb
end
/-- a class of exceptions that stands in the text -/
structure ExcT (K : PySem.W.Frag) (mg : Str → Option Value) (x : Str) (B newId initId : String) (bmB : List Value) : Prop where
  ex : ∃ C : Addr, mg x = some (.ref C) ∧ PySem.W.excIn K C bmB newId = true ∧ PySem.W.keepIn K (.ref C) = true ∧ PySem.W.subIn K (.ref C) (.type "BaseException") = some true ∧ PySem.W.typeIn K (.ref C) = some (.type "type")
section
variable {X : Cx} {W : WX} {bmB : List Value} {B newId initId : String} {x m : Str} {j : Nat} {p p2 pos pos' : Pos}
theorem psd_raiseT (hc : X.calm = true) (tk : Takes X W) (F : ExcBaseFacts B newId initId bmB) (T : ExcT X.K X.mg x B newId initId bmB) (hg : Gl X x) (hdb : (x == ("__debug__" : Str)) = false) :
    PSd X W (.Raise (some (.Call (.Name x p) [.Constant (.str m) j p2] [] pos)) none pos') (sRaise x) := by
  obtain ⟨C, h1, h2, h3, h4, h5⟩ := T.ex
  exact psd_raise hc tk F h2 h1 h3 (raises_own h4 h5) hg hdb
end
section
variable {X : Cx} {W : WX} {x : Str} {pos : Pos} {d : D} {v : V}
/-- a name of the module, its value -/
theorem pd_gl (hg : Gl X x) (h : ∃ u, X.mg x = some u ∧ RelV v u) (r : ∀ G, Rp (kmOf X) G d v) (hd : (x == ("__debug__" : Str)) = false) : PD X W (.Name x pos) (cC d) := by
  obtain ⟨u, hm, r'⟩ := h
  exact pd_c (pe_glob hg hm r' hd) r
theorem pd_int {i : Int} {k : Nat} : PD X W (.Constant (.int i) k pos) (cC (.int i)) := pd_c pe_int fun _ => rfl
theorem pd_str {i : Str} {k : Nat} : PD X W (.Constant (.str i) k pos) (cC (.str i)) := pd_c pe_str fun _ => rfl
theorem pd_bl {i : Bool} {k : Nat} : PD X W (.Constant (.bool i) k pos) (cC (.bl i)) := pd_c pe_bl fun _ => rfl
theorem pd_non {k : Nat} : PD X W (.Constant .none k pos) (cC .non) := pd_c pe_non fun _ => rfl
end
/-- what the cell of a body grants -/
theorem owns_body {CX : CXT} {P : Program} {w : World} {K : PySem.W.Frag} {mg : Str → Option Value} {base : Heap} {N : List Str} {qual : Str} {scope : Scope} {f : Addr} {cd : Value} {A : Around} {outer : List Env} {s : Shared} {H : Hp} {E : XK} :
    PassesOwn (model P w) (cxOf CX P w K mg base N qual scope f cd A outer s H E).A (cxOf CX P w K mg base N qual scope f cd A outer s H E).env (cxOf CX P w K mg base N qual scope f cd A outer s H E).xe := passes_of rfl
theorem takes_body {P : Program} {w : World} {K : PySem.W.Frag} {mg : Str → Option Value} {base : Heap} {N : List Str} {qual : Str} {scope : Scope} {f : Addr} {cd : Value} {A : Around} {outer : List Env} {s : Shared} {H : Hp} {E : XK} :
    Takes (cxOf (L2.CX P w) P w K mg base N qual scope f cd A outer s H E) (fun cls d _ H' => E cls d H') := takes_of rfl rfl rfl rfl
theorem room_units {k : Nat} {A : Around} (h : Room k A) : A.units + 65 < cLine := by
  have := h.un
  omega
end PV
namespace PV
open PySem PySem.Spec PyProof.Rows L2
/-! ### the rules as the printed texts use them: each static side by one look -/
def visB (sc : Scope) (x : Str) : Bool := match sc.names.lookup x with
  | some .local => true
  | some .cell => true
  | some .free => true
  | _ => false
theorem vis_of {sc : Scope} {x : Str} (h : visB sc x = true) : Vis sc x := by
  unfold visB at h
  split at h
  · rename_i e; exact .inl e
  · rename_i e; exact .inr (.inl e)
  · rename_i e; exact .inr (.inr e)
  · cases h
def varOk (N : List Str) (sc : Scope) (i : Nat) (x : Str) : Bool := decide (N[i]? = some x) && visB sc x && !(x == ("__debug__" : Str)) && !(x == ("__classdict__" : Str))
def tgtOk (N : List Str) (sc : Scope) (fn : Str → Bool) (vs : List Nat) (i : Nat) (x : Str) : Bool := decide (N[i]? = some x) && (match sc.names.lookup x with
  | some .local => true
  | some .cell => fn x
  | _ => false) && vs.contains i
theorem var_of {N : List Str} {sc : Scope} {i : Nat} {x : Str} (h : varOk N sc i x = true) : N[i]? = some x ∧ Vis sc x ∧ (x == ("__debug__" : Str)) = false ∧ (x == ("__classdict__" : Str)) = false := by
  unfold varOk at h
  simp only [Bool.and_eq_true, Bool.not_eq_true', decide_eq_true_eq] at h
  exact ⟨h.1.1.1, vis_of h.1.1.2, h.1.2, h.2⟩
theorem tgt_of {N : List Str} {sc : Scope} {fn : Str → Bool} {vs : List Nat} {i : Nat} {x : Str} (h : tgtOk N sc fn vs i x = true) : N[i]? = some x ∧ Loc sc x ∧ (fn x = true ∨ sc.names.lookup x = some .local) ∧ i ∈ vs := by
  unfold tgtOk at h
  simp only [Bool.and_eq_true, decide_eq_true_eq] at h
  obtain ⟨⟨h1, h2⟩, h3⟩ := h
  refine ⟨h1, ?_, ?_, by simpa using h3⟩
  · split at h2
    · rename_i e; exact .inl e
    · rename_i e; exact .inr e
    · cases h2
  · split at h2
    · rename_i e; exact .inr e
    · exact .inl h2
    · cases h2
section
variable {X : Cx} {W : WX} {x name : Str} {i : Nat} {pos pos' p apos : Pos} {e o c : Expr} {es : List Expr} {f fi : EV} {fs : List EV} {g : TV} {gs : List TV} {vs : List Nat} {T id : String} {ψ : Mu}
theorem pd_v (h : varOk X.N X.env.scope i x = true) : PD X W (.Name x pos) (cVar i) := let ⟨h1, h2, h3, h4⟩ := var_of h; pd_var h1 h2 h3 h4
theorem pgd_n (hN : X.N.Nodup) (h : tgtOk X.N X.env.scope X.fn vs i x = true) : PGd X W vs (.Name x pos) (gN i) := let ⟨h1, h2, h3, h4⟩ := tgt_of h; pgd_name h4 hN h1 h2 h3
theorem psd_s (hN : X.N.Nodup) (h : tgtOk X.N X.env.scope X.fn [i] i x = true) (he : PD X W e f) (hs : swapsWith e (some (.Name x pos')) pos.line X.env = pure false) : PSd X W (.Assign [.Name x pos'] e pos) (sAsg f (gN i)) := let ⟨h1, h2, h3, _⟩ := tgt_of h; psd_set hN h1 h2 h3 he hs
theorem pgl_cons (h : PGd X W vs e g) (he : assignEach (e :: es) X.env = (false, assign e X.env) :: assignEach es X.env) (hr : PGl X W vs es gs) : PGl X W vs (e :: es) (g :: gs) := by
  refine .cons h (by rw [he]; rfl) (by rw [he]; rfl) (fun hn => ?_) hr
  rw [he, List.findIdx?_cons]
  simp only [Bool.false_eq_true, if_false, hn]
  rfl
theorem pgd_sb (h : varOk X.N X.env.scope i x = true) (hi : PD X W e fi)
    (ha : ∀ v, assign (.Subscript (.Name x p) e pos) X.env v = (do
      let ov ← holding [v] (eval (.Name x p) X.env)
      let iv ← holding [v, ov] (eval e X.env)
      standAt pos
      holding [v, ov, iv] (setItem ov iv v)
      release [v, ov, iv] [])) : PGd X W vs (.Subscript (.Name x p) e pos) (gSubD i fi) := let ⟨h1, h2, h3, h4⟩ := var_of h; pgd_sub h1 h2 h3 h4 hi ha
theorem pd_m (pa : PlainAttrs T) (slot : Slot T name id) (hty : typeOf (.builtin id) = pure (.type "method_descriptor")) (hm : MuD X id ψ) (h : varOk X.N X.env.scope i x = true)
    (ha : PAs X W (e :: es) (f :: fs)) (hl : (e :: es).length < 30) (hbase : attributeBase (.Name x p) name X.env (eval (.Name x p) X.env) = eval (.Name x p) X.env) (hline : (apos.endLine == pos.line) = true) :
    PD X W (.Call (.Attribute (.Name x p) name apos) (e :: es) [] pos) (cMu T ψ i (f :: fs)) := let ⟨h1, h2, h3, h4⟩ := var_of h; pd_mu pa slot hty hm h1 h2 h3 h4 ha hl hbase hline
theorem pd_m0 (pa : PlainAttrs T) (slot : Slot T name id) (hty : typeOf (.builtin id) = pure (.type "method_descriptor")) (hm : MuD X id ψ) (h : varOk X.N X.env.scope i x = true)
    (hbase : attributeBase (.Name x p) name X.env (eval (.Name x p) X.env) = eval (.Name x p) X.env) (hline : (apos.endLine == pos.line) = true) :
    PD X W (.Call (.Attribute (.Name x p) name apos) [] [] pos) (cMu T ψ i []) := let ⟨h1, h2, h3, h4⟩ := var_of h; pd_mu0 pa slot hty hm h1 h2 h3 h4 hbase hline
/-- a tuple of classes -/
abbrev tTys (ts : List String) : TA := fun _ H Q => Q (ts.map V.ty) H
theorem pa_ty0 : PA X [] (tTys []) := pa_nil
theorem pa_ty {t : String} {ts : List String} (h : PE X e (tC (.ty t))) (hr : PA X es (tTys ts)) (hs : starEach (e :: es) X.env = (false, eval e X.env) :: starEach es X.env) : PA X (e :: es) (tTys (t :: ts)) :=
  (pa_cons h hr hs).weak fun _ _ _ q => q
theorem pe_ty {t : String} (hg : Gl X x) (hm : X.mg x = none) (hv : bootBuiltins x = some (.type t)) (hn : (x == ("__name__" : Str)) = false) (hd : (x == ("__debug__" : Str)) = false) : PE X (.Name x pos) (tC (.ty t)) :=
  pe_bltn hg hm hv rfl (fun z => by rw [z] at hn; exact absurd hn (by decide)) hd
theorem pd_f {φ : List D → Option R} (hc : CallR X (.builtin id) (rDs (kmOf X) φ)) (hg : Gl X x) (hm : X.mg x = none) (hv : bootBuiltins x = some (.builtin id)) (ha : PAs X W (e :: es) (f :: fs)) (hn : (x == ("__name__" : Str)) = false) (hdb : (x == ("__debug__" : Str)) = false) :
    PD X W (.Call (.Name x p) (e :: es) [] pos) (cFn φ (f :: fs)) := pd_fn hc hg hm hv ha (fun z => by rw [z] at hn; exact absurd hn (by decide)) hdb
theorem pd_ft {φ : List D → Option R} (hc : CallR X (.type T) (rDs (kmOf X) φ)) (hg : Gl X x) (hm : X.mg x = none) (hv : bootBuiltins x = some (.type T)) (ha : PAs X W (e :: es) (f :: fs)) (hn : (x == ("__name__" : Str)) = false) (hdb : (x == ("__debug__" : Str)) = false) :
    PD X W (.Call (.Name x p) (e :: es) [] pos) (cFn φ (f :: fs)) := pd_fnTy hc hg hm hv ha (fun z => by rw [z] at hn; exact absurd hn (by decide)) hdb
end
end PV
namespace PV
open PySem PySem.Spec PyProof.Rows L2
section
variable {X : Cx} {W : WX} {pos : Pos} {elt tg iter : Expr} {ifs : List Expr} {scope : Scope} {own : List (Str × Nat)} {vs : List Nat} {it : IV} {g : TV} {t : BV} {f : EV}
theorem pd_lcv (hc : X.calm = true) (hN : X.N.Nodup) (hv : own.map (·.2) = vs) (hi : PId X W tg iter it) (ok : BlkOk X.N X.env.scope scope own)
    (hg : ∀ (s : Shared) (H : Hp) (C : Addr) (cl : List (Str × Addr)) (fp : List Addr), PGd (X.blk s H scope (compEnvC scope cl C X.env) fp) W0 vs tg g)
    (ht : ∀ (s : Shared) (H : Hp) (C : Addr) (cl : List (Str × Addr)) (fp : List Addr), PTs (X.blk s H scope (compEnvC scope cl C X.env) fp) ifs (tB' (kmOf X) W0 t))
    (he : ∀ (s : Shared) (H : Hp) (C : Addr) (cl : List (Str × Addr)) (fp : List Addr), PD (X.blk s H scope (compEnvC scope cl C X.env) fp) W0 elt f) (hs : ∀ x, foldedSetIterable iter X.env x = pure x) :
    PD X W (.ListComp elt [⟨tg, iter, ifs, 0⟩] scope pos) (cLC it g t f vs) := by
  subst hv
  exact pd_lc hc hN hi ok hg ht he hs
theorem psd_setLcv {i : Nat} {y : Str} {py spos : Pos} (hc : X.calm = true) (hN : X.N.Nodup) (hv : own.map (·.2) = vs) (hy : X.N[i]? = some y) (hyl : X.env.scope.names.lookup y = some .local)
    (hsw : swapsWith (.ListComp elt [⟨tg, iter, ifs, 0⟩] scope pos) (some (.Name y py)) spos.line X.env = pure true) (hi : PId X W tg iter it) (ok : BlkOk X.N X.env.scope scope own)
    (hg : ∀ (s : Shared) (H : Hp) (C : Addr) (cl : List (Str × Addr)) (fp : List Addr), PGd (X.blk s H scope (compEnvC scope cl C X.env) fp) W0 vs tg g)
    (ht : ∀ (s : Shared) (H : Hp) (C : Addr) (cl : List (Str × Addr)) (fp : List Addr), PTs (X.blk s H scope (compEnvC scope cl C X.env) fp) ifs (tB' (kmOf X) W0 t))
    (he : ∀ (s : Shared) (H : Hp) (C : Addr) (cl : List (Str × Addr)) (fp : List Addr), PD (X.blk s H scope (compEnvC scope cl C X.env) fp) W0 elt f) (hs : ∀ x, foldedSetIterable iter X.env x = pure x) :
    PSd X W (.Assign [.Name y py] (.ListComp elt [⟨tg, iter, ifs, 0⟩] scope pos) spos) (sAsg (cLC it g t f vs) (gN i)) := by
  subst hv
  exact psd_setLc hc hN hy hyl hsw hi ok hg ht he hs
end
end PV
namespace PV
open PySem PySem.Spec PyProof.Rows L2
/-- the promise by the function object that stands there -/
theorem CalD.at {P : Program} {w : World} {K : PySem.W.Frag} {mg : Str → Option Value} {base : Heap} {k : Nat} {x : Str} {ps : List Str} {g : List Sl → Out R} (c : CalD P w K mg base k x ps g) {f : Addr} {fd : FuncData} {oc : Value} {od : Option Addr} {sl : Array (Option Value)}
    (hf : mg x = some (.ref f)) (lk : K.lookup f = some ⟨oc, od, .func fd, sl⟩) : FnOk P w K mg base (L2.CX P w) k f fd ps (spD ⟨P, w, K, mg⟩ ps.length g) := by
  obtain ⟨f', fd', F, h1, h2, h3, oc', od', sl', h4⟩ := c.ex
  rw [hf] at h1
  cases h1
  rw [lk] at h4
  cases h4
  exact F
theorem CalD.mono {P : Program} {w : World} {K : PySem.W.Frag} {mg : Str → Option Value} {base : Heap} {j k : Nat} {x : Str} {ps : List Str} {g : List Sl → Out R} (c : CalD P w K mg base j x ps g) (h : j ≤ k) : CalD P w K mg base k x ps g := by
  obtain ⟨f, fd, F, h1, h2, h3, h4⟩ := c.ex
  exact ⟨f, fd, F.mono h, h1, h2, h3, h4⟩
end PV
/-! PVM: containers held aside (nested ones), by hand: taken, lent to a def that reads, changed, let go. -/
namespace PV
open PySem PySem.Spec PyProof.Rows L2

section
variable {M : KM} {F : Fm} {δ : List Sl} {σ : Sg} {P : Nat → Addr} {G G' H H' : Hp} {W : WX} {Q : VK}
/-- an object that nobody else has is held aside -/
theorem SR.grab {p : Addr} {o : HO} (S : SR M F δ σ P G H) (hG : G p = none) (hT : F.T p = none) (hB : F.B p = none) (hne : ∀ (i : Nat) b d, δ[i]? = some (.ow b d) → P i ≠ p) (hp : H p = some o) : SR M (F.hold p o) δ σ P G H := by
  refine ⟨S.len, S.sh, fun i b d e => ?_, S.ap, fun a u h => ?_, S.g, S.g0, fun a u h => ?_, fun a u h z => ?_⟩
  · obtain ⟨h1, h2, h3, h4, h5, h6⟩ := S.ow i b d e
    refine ⟨h1, h2, h3, ?_, fun hb => ?_, h6⟩
    · show upd F.T p _ (P i) = none
      rw [upd_ne (hne _ _ _ e)]; exact h4
    · show upd F.B p _ (P i) = none
      rw [upd_ne (hne _ _ _ e)]; exact h5 hb
  · have h : upd F.T p o a = some u := h
    by_cases e : a = p
    · rw [e, upd_same] at h
      rw [e, hp]; exact h
    · rw [upd_ne e] at h; exact S.t a u h
  · rcases S.gn a u h with q | q
    · exact .inl q
    · refine .inr ?_
      show upd F.B p _ a = none
      rw [upd_ne (ne_of_none h hG)]; exact q
  · have h : upd F.B p (.lst []) a = some u := h
    by_cases e : a = p
    · rw [e, hp] at z; cases z
    · rw [upd_ne e] at h; exact S.b a u h z
theorem SR.grabR {p : Addr} {ds : List D} (S : SR M F δ σ P G H) (r : RR M F δ σ P G H (.ow (.lst ds)) (V.ref p)) : ∃ vs, H p = some (.lst vs) ∧ RpA M G ds vs ∧ SR M (F.hold p (.lst vs)) δ σ P G H := by
  obtain ⟨q, e, ⟨vs, h1, h2⟩, h3, h4, h5, h6⟩ := r
  cases e
  exact ⟨vs, h1, h2, S.grab h3 h4 h5 h6 h1⟩
/-- what is held aside, changed -/
theorem SR.reT {p : Addr} {o o' : HO} (S : SR M F δ σ P G H) (hT : F.T p = some o) (hG : G p = none) : SR M { F with T := upd F.T p o' } δ σ P G (upd H p o') := by
  have ne : ∀ {i : Nat} {b d}, δ[i]? = some (.ow b d) → P i ≠ p := fun e z => by
    have := (S.ow _ _ _ e).2.2.2.1
    rw [z, hT] at this; cases this
  refine ⟨S.len, S.sh, fun i b d e => ?_, S.ap, fun a u h => ?_, fun a u h => ?_, S.g0, S.gn, fun a u h z => ?_⟩
  · obtain ⟨h1, h2, h3, h4, h5, h6⟩ := S.ow i b d e
    refine ⟨h1, h2.mono (Same.refl _) (upd_ne (ne e)), h3, ?_, h5, h6⟩
    show upd F.T p o' (P i) = none
    rw [upd_ne (ne e)]; exact h4
  · have h : upd F.T p o' a = some u := h
    by_cases e : a = p
    · rw [e, upd_same] at h ⊢; exact h
    · rw [upd_ne e] at h ⊢; exact S.t a u h
  · rw [upd_ne (ne_of_none h hG)]; exact S.g a u h
  · by_cases e : a = p
    · rw [e, upd_same] at z; cases z
    · rw [upd_ne e] at z; exact S.b a u h z
/-- let go -/
theorem SR.letgo {F' : Fm} (S : SR M F' δ σ P G H) (h1 : Same F.T F'.T) (h2 : ∀ a, F'.B a = none → F.B a = none) (h3 : F'.G0 = F.G0) (h4 : F'.IO = F.IO) : SR M F δ σ P G H := by
  refine ⟨S.len, S.sh, fun i b d e => ?_, S.ap, h1.trans S.t, S.g, h3 ▸ S.g0, fun a u h => ?_, fun a u h z => ?_⟩
  · obtain ⟨k1, k2, k3, k4, k5, k6⟩ := S.ow i b d e
    refine ⟨k1, k2, k3, ?_, fun hb => h2 _ (k5 hb), fun hb => h4 ▸ k6 hb⟩
    cases q : F.T (P i) with
    | none => rfl
    | some u => rw [h1 _ _ q] at k4; cases k4
  · rcases S.gn a u h with q | q
    · exact .inl (h3 ▸ q)
    · exact .inr (h2 a q)
  · cases q : F'.B a with
    | none => rw [h2 a q] at h; cases h
    | some v => exact S.b a v q z
/-- for a def that reads: G with what is held at A -/
theorem SR.lendG {A : List Addr} (hA : ∀ a ∈ A, G a = none) (s : Same G H) : Same G (rdHp G H A) ∧ Same (rdHp G H A) H := by
  refine ⟨fun a o h => ?_, fun a o h => ?_⟩
  · unfold rdHp
    rw [if_neg (fun z => by rw [hA a z] at h; cases h)]
    exact h
  · unfold rdHp at h
    split at h
    · exact h
    · exact s a o h
/-- a call's frame on shared arguments alone -/
theorem SR.call0 {ds : List D} {vs : List V} (r : RpA M G ds vs) (s : Same G H) : SR M (frm H G [] P) (ds.map .sh) (vs.map some) P G H := by
  refine ⟨by rw [List.length_map, List.length_map, r.length], fun i d e => ?_, fun i b d e => ?_, fun i j b d b' d' e => ?_, fun a o h => ?_, s, Same.refl _, fun a o h => .inl h, fun a o h z => ?_⟩
  · rw [List.getElem?_map] at e
    cases hd : ds[i]? with
    | none => rw [hd] at e; cases e
    | some d0 =>
      rw [hd] at e
      cases e
      obtain ⟨v, h1, h2⟩ := r.get hd
      exact ⟨v, by rw [List.getElem?_map, h1]; rfl, h2⟩
  · rw [List.getElem?_map] at e
    cases hd : ds[i]? with
    | none => rw [hd] at e; cases e
    | some d0 => rw [hd] at e; cases e
  · rw [List.getElem?_map] at e
    cases hd : ds[i]? with
    | none => rw [hd] at e; cases e
    | some d0 => rw [hd] at e; cases e
  · have h : (if a ∈ ([] : List Addr) then none else H a) = some o := h
    simpa using h
  · rw [show H a = some o from h] at z; cases z
/-- behind such a call, what was held taken out again -/
theorem SR.back0 {A : List Addr} {as : List Sl} {σc : Sg} {Pc IO : Nat → Addr} (hA : ∀ a ∈ A, G a = none) (S' : SR M (frm H (rdHp G H A) [] IO) as σc Pc G' H') : XS G H (unHp G' A) H' := by
  have keep : Same H H' := fun a o h => S'.t a o (by show (if a ∈ ([] : List Addr) then none else H a) = some o; simpa using h)
  refine ⟨fun a o h => ?_, keep, fun a o h => ?_, fun a o h => ?_⟩
  · have ha : a ∉ A := fun z => by rw [hA a z] at h; cases h
    unfold unHp
    rw [if_neg ha]
    exact S'.g0 a o (by show rdHp G H A a = some o; unfold rdHp; rw [if_neg ha]; exact h)
  · unfold unHp at h
    split at h
    · cases h
    · exact S'.g a o h
  · unfold unHp at h
    split at h
    · cases h
    · rename_i ha
      rcases S'.gn a o h with q | q
      · have q : rdHp G H A a = some o := q
        unfold rdHp at q
        rw [if_neg ha] at q
        exact .inl q
      · exact .inr q
end

/-! ### a new pair of new lists -/
structure NewPair (M : KM) (H H' : Hp) (l1 l2 : List D) (T : Addr) : Prop where
  ex : ∃ (G' : Hp) (p1 p2 : Addr) (vs1 vs2 : List V), Same H H' ∧ Same G' H' ∧ (∀ a o, G' a = some o → H a = none) ∧ H T = none ∧ H p1 = none ∧ H p2 = none ∧ p1 ≠ p2 ∧ T ≠ p1 ∧ T ≠ p2 ∧
    G' p1 = none ∧ G' p2 = none ∧ G' T = none ∧ H' p1 = some (.lst vs1) ∧ H' p2 = some (.lst vs2) ∧ H' T = some (.tup [.ref p1, .ref p2]) ∧ RpA M G' l1 vs1 ∧ RpA M G' l2 vs2

section
variable {M : KM} {F : Fm} {δ δ5 δ6 : List Sl} {σ : Sg} {P IO : Nat → Addr} {G G' H H' H0 : Hp} {W : WX} {Q : VK} {c1 c2 : EV} {fg : List Sl → Out R} {l1 l2 : List D} {d : D} {v : V} {as' : List Sl} {i : Nat} {D0 : Ends} {tr : TS} {E : L2.St → XK}
theorem SR.noG {a : Addr} (S : SR M F δ σ P G H) (h1 : F.G0 a = none) (h2 : F.B a ≠ none) : G a = none := by
  cases e : G a with
  | none => rfl
  | some u =>
    rcases S.gn a u e with q | q
    · rw [h1] at q; cases q
    · exact absurd q h2
def tPairTail (M : KM) (W : WX) (c1 c2 : EV) (fg : List Sl → Out R) (v : V) (i : Nat) (tr : TS) : TS :=
  tSeq (tAsg (tTup (tCons (tD M W c1) (tCons (tD M W c2) tNil))) (gName i)) (tSeq (tIfS (L2.tNot (fun σ H Q => tCallS (spD M 2 fg) (fun σ cls d H' => W cls d σ H') (tCons (tVar i) (tCons (tC v) tNil)) σ H fun x H' => ∃ k, TruV M.K x H' k ∧ Q k H')) tr tNext) (tRet (tVar i)))
theorem pair_tail (S : SR M (frm H0 (fun _ => none) [] IO) δ σ P G H) (e1 : c1 δ = .ok (.ow (.lst l1)) δ5) (e2 : c2 δ5 = .ok (.ow (.lst l2)) δ6) (e3 : fg [.sh (.tup [.lst l1, .lst l2]), .sh d] = .ok (.sh (.bl true)) as')
    (hd : ∀ G, Rp M G d v) (hi : i < σ.length) (hrt : ∀ T H', NewPair M H0 H' l1 l2 T → D0.rt (.ref T) H') : tPairTail M W c1 c2 fg v i tr D0 σ H := by
  have b0 : ∀ a, (frm H0 (fun _ => none) [] IO).B a = H0 a := fun _ => rfl
  have t0 : ∀ a, (frm H0 (fun _ => none) [] IO).T a = H0 a := fun a => by show (if a ∈ ([] : List Addr) then none else H0 a) = _; simp
  have g0 : ∀ a, (frm H0 (fun _ => none) [] IO).G0 a = none := fun _ => rfl
  generalize frm H0 (fun _ => none) [] IO = F at *
  refine ⟨F, δ, P, G, S, ?_⟩
  rw [e1]
  intro P5 G5 H5 S5 g5 v1 rr1
  obtain ⟨p1, rfl, _, _, f1, f2, _⟩ := id rr1
  obtain ⟨vs1, hp1, ra1, S5'⟩ := S5.grabR rr1
  refine ⟨F.hold p1 (.lst vs1), δ5, P5, G5, S5', ?_⟩
  rw [e2]
  intro P6 G6 H6 S6 g6 v2 rr2
  obtain ⟨p2, rfl, _, _, f3, f4, _⟩ := id rr2
  obtain ⟨vs2, hp2, ra2, S6'⟩ := S6.grabR rr2
  have n12 : p2 ≠ p1 := fun z => by
    rw [z, show (F.hold p1 (.lst vs1)).T p1 = some _ from upd_same] at f3; cases f3
  refine ⟨by simp [sizeLine_eq], fun T hT => ?_⟩
  have S7 := S6'.hold (u := .tup [.ref p1, .ref p2]) hT
  have nT1 : T ≠ p1 := fun z => by
    have := S6'.t p1 (.lst vs1) (by show upd (upd F.T p1 _) p2 _ p1 = _; rw [upd_ne (Ne.symm n12), upd_same])
    rw [← z, hT] at this; cases this
  have nT2 : T ≠ p2 := fun z => by
    have := S6'.t p2 (.lst vs2) (by show upd (upd F.T p1 _) p2 _ p2 = _; rw [upd_same])
    rw [← z, hT] at this; cases this
  have S8 := S7.setNo (i := i) (some (V.ref T))
  have hTT : ((F.hold p1 (.lst vs1)).hold p2 (.lst vs2)).T T = none := S6'.off hT |>.1
  have h7T : upd H6 T (.tup [.ref p1, .ref p2]) T = some (.tup [.ref p1, .ref p2]) := upd_same
  have h71 : upd H6 T (.tup [.ref p1, .ref p2]) p1 = some (.lst vs1) := S7.t p1 _ (by show upd (upd (upd F.T p1 _) p2 _) T _ p1 = _; rw [upd_ne (Ne.symm nT1), upd_ne (Ne.symm n12), upd_same])
  have h72 : upd H6 T (.tup [.ref p1, .ref p2]) p2 = some (.lst vs2) := S7.t p2 _ (by show upd (upd (upd F.T p1 _) p2 _) T _ p2 = _; rw [upd_ne (Ne.symm nT2), upd_same])
  have hA : ∀ a ∈ [p1, p2, T], G6 a = none := fun a ha => by
    refine S7.noG (g0 a) ?_
    show upd (upd (upd F.B p1 _) p2 _) T _ a ≠ none
    intro z
    simp only [List.mem_cons, List.not_mem_nil, or_false] at ha
    by_cases e3 : a = T
    · rw [e3, upd_same] at z; cases z
    · rw [upd_ne e3] at z
      by_cases e4 : a = p2
      · rw [e4, upd_same] at z; cases z
      · rw [upd_ne e4] at z
        by_cases e5 : a = p1
        · rw [e5, upd_same] at z; cases z
        · exact absurd ha (by simp [e3, e4, e5])
  generalize upd H6 T (.tup [.ref p1, .ref p2]) = H7 at *
  obtain ⟨gg, gh⟩ := SR.lendG (H := H7) hA S7.g
  have r1 : rdHp G6 H7 [p1, p2, T] p1 = some (.lst vs1) := by unfold rdHp; rw [if_pos (by simp), h71]
  have r2 : rdHp G6 H7 [p1, p2, T] p2 = some (.lst vs2) := by unfold rdHp; rw [if_pos (by simp), h72]
  have r3 : rdHp G6 H7 [p1, p2, T] T = some (.tup [.ref p1, .ref p2]) := by unfold rdHp; rw [if_pos (by simp), h7T]
  have rT : Rp M (rdHp G6 H7 [p1, p2, T]) (.tup [.lst l1, .lst l2]) (.ref T) := ⟨T, _, rfl, .inl (.inl r3), RpA.cons ⟨p1, vs1, rfl, r1, RpA.mono (g6.trans gg) _ ra1⟩ (RpA.cons ⟨p2, vs2, rfl, r2, RpA.mono gg _ ra2⟩ RpA.nil)⟩
  have hσ : (σ.set i (some (V.ref T)))[i]? = some (some (.ref T)) := List.getElem?_set_self hi
  refine ⟨_, hσ, rfl, [.sh (.tup [.lst l1, .lst l2]), .sh d], P6, _, [], P6, SR.call0 (ds := [.tup [.lst l1, .lst l2], d]) (RpA.cons rT (RpA.cons (hd _) RpA.nil)) gh, ?_⟩
  rw [e3]
  intro P' G' H' S' g' u hu
  cases (show u = .bl true from hu)
  refine ⟨true, rfl, ?_⟩
  show tRet (tVar i) D0 (σ.set i (some (V.ref T))) H'
  refine ⟨_, hσ, hrt T H' ?_⟩
  have x := SR.back0 hA S'
  have S9 := S8.ext x
  have h0T : H0 T = none := by
    rw [← t0]
    have z : upd (upd F.T p1 _) p2 _ T = none := hTT
    rwa [upd_ne nT2, upd_ne nT1] at z
  have h01 : H0 p1 = none := by rw [← t0]; exact f1
  have h02 : H0 p2 = none := by
    rw [← t0]
    have z : upd F.T p1 _ p2 = none := f3
    rwa [upd_ne n12] at z
  refine ⟨unHp G' [p1, p2, T], p1, p2, vs1, vs2, fun a o h => S9.t a o ?_, x.s, fun a o h => ?_, h0T, h01, h02, Ne.symm n12, nT1, nT2, by unfold unHp; rw [if_pos (by simp)], by unfold unHp; rw [if_pos (by simp)], by unfold unHp; rw [if_pos (by simp)],
    x.h _ _ h71, x.h _ _ h72, x.h _ _ h7T, RpA.mono (g6.trans x.g) _ ra1, RpA.mono x.g _ ra2⟩
  · show upd (upd (upd F.T p1 _) p2 _) T _ a = _
    rw [upd_ne (ne_of_none h h0T), upd_ne (ne_of_none h h02), upd_ne (ne_of_none h h01), t0]
    exact h
  · rcases S9.gn a o h with q | q
    · have q : F.G0 a = some o := q
      rw [g0 a] at q; cases q
    · rw [← b0]
      have q : upd (upd (upd F.B p1 _) p2 _) T _ a = none := q
      by_cases e3 : a = T
      · rw [e3, upd_same] at q; cases q
      · rw [upd_ne e3] at q
        by_cases e4 : a = p2
        · rw [e4, upd_same] at q; cases q
        · rw [upd_ne e4] at q
          by_cases e5 : a = p1
          · rw [e5, upd_same] at q; cases q
          · rwa [upd_ne e5] at q
end

/-- a def that yields a new pair of new lists -/
def spRH (M : KM) (rh : Str → Option (List D × List D)) : Sp := fun vs H Q E => ∃ t l1 l2, vs = [.str t] ∧ rh t = some (l1, l2) ∧ ∀ T H', NewPair M H H' l1 l2 T → Q (.ref T) H'
def jn (G G' : Hp) : Hp := fun a => match G a with
  | some o => some o
  | none => G' a
section
variable {M : KM} {F : Fm} {δ : List Sl} {σ : Sg} {P IO : Nat → Addr} {G G' H H' H0 : Hp} {W : WX} {Q : VK} {same : List Sl → Out R} {rh : Str → Option (List D × List D)} {l1 l2 a b : List D} {i j h : Nat} {t : Str} {D0 : Ends} {tr1 tr2 : TS} {as' : List Sl} {c01 : EV}
def tUse (M : KM) (W : WX) (rh : Str → Option (List D × List D)) (same : List Sl → Out R) (i j h : Nat) (tr1 tr2 : TS) (c01 : EV) : TS :=
  tSeq (tAsg (tCallS (spRH M rh) (fun σ cls d H' => W cls d σ H') (tCons (tVar j) tNil)) (gName i))
  (tSeq (tIfS (L2.tNot (fun σ H Q => tCallS (spD M 2 same) (fun σ cls d H' => W cls d σ H') (tCons (tVar i) (tCons (tVar h) tNil)) σ H fun x H' => ∃ k, TruV M.K x H' k ∧ Q k H')) tr1 tNext)
  (tSeq (tDrop (tBM M.K "list" rAppend (tOp (rIxT M.K) (tVar i) (tC (.int 0))) (tA' M W (cArgs [c01]))))
  (tSeq (tIfS (fun σ H Q => tOp (rC2 M fun d e => (eqD d e).map not) (tOp (rIxT M.K) (tVar i) (tC (.int 1))) (tOp (rIxT M.K) (tVar h) (tC (.int 1))) σ H fun v H1 => ∃ b, v = .bl b ∧ Q b H1) tr2 tNext)
  (tDrop (tBM M.K "list" rAppend (tOp (rIxT M.K) (tVar i) (tC (.int 1))) (tA' M W (cArgs [c01])))))))
/-- the pair is told, looked at, changed twice; then let go -/
theorem pair_use (S : SR M F δ σ P G H) (hj : δ[j]? = some (.sh (.str t))) (hh : δ[h]? = some (.sh (.tup [.lst a, .lst b]))) (er : rh t = some (l1, l2)) (es : same [.sh (.tup [.lst l1, .lst l2]), .sh (.tup [.lst a, .lst b])] = .ok (.sh (.bl true)) as')
    (ee : eqD (.lst l2) (.lst b) = some true) (z1 : l1.length < sizeLine) (z2 : l2.length < sizeLine) (hi : i < σ.length) (hih : h ≠ i) (ec : ∀ δ, ∃ d, c01 δ = .ok (.sh d) δ)
    (hn : ∀ σ' P' G' H', SR M F (δ.set i .no) σ' P' G' H' → Same G G' → D0.nx σ' H') : tUse M W rh same i j h tr1 tr2 c01 D0 σ H := by
  obtain ⟨vj, hj1, hj2⟩ := S.sh j _ hj
  refine ⟨vj, hj1, t, l1, l2, by rw [show vj = .str t from hj2], er, fun T H1 np => ?_⟩
  obtain ⟨Gn, p1, p2, vs1, vs2, k1, k2, k3, kT, kp1, kp2, n12, nT1, nT2, gp1, gp2, gT, hp1, hp2, hT, ra1, ra2⟩ := np.ex
  have gz : ∀ {x}, H x = none → G x = none := fun {x} z => by
    cases q : G x with
    | none => rfl
    | some u => rw [S.g _ _ q] at z; cases z
  have gj : Same Gn (jn G Gn) := fun x o q => by
    unfold jn
    rw [gz (k3 x o q)]; exact q
  have x1 : XS G H (jn G Gn) H1 := by
    refine ⟨fun x o q => by unfold jn; rw [q], k1, fun x o q => ?_, fun x o q => ?_⟩
    · unfold jn at q
      split at q
      · rename_i u e; cases q; exact k1 x _ (S.g x _ e)
      · exact k2 x o q
    · unfold jn at q
      split at q
      · rename_i u e; cases q; exact .inl e
      · exact .inr (k3 x o q)
  have jz : ∀ {x}, H x = none → Gn x = none → jn G Gn x = none := fun {x} z1 z2 => by unfold jn; rw [gz z1]; exact z2
  have S1 := S.ext x1
  have ne : ∀ {x}, H x = none → ∀ (i : Nat) b d, δ[i]? = some (.ow b d) → P i ≠ x := fun {x} z i b d e w => by
    obtain ⟨o, ho⟩ := (S.ow _ _ _ e).2.1.ex
    rw [w, z] at ho; cases ho
  obtain ⟨o1, o2, o3, o4⟩ := S.off kp1
  obtain ⟨q1, q2, q3, q4⟩ := S.off kp2
  obtain ⟨r1, r2, r3, r4⟩ := S.off kT
  have S2 := S1.grab (jz kp1 gp1) o1 o2 (ne kp1) hp1
  have S3 := S2.grab (jz kp2 gp2) (by show upd F.T p1 _ p2 = none; rw [upd_ne (Ne.symm n12)]; exact q1) (by show upd F.B p1 _ p2 = none; rw [upd_ne (Ne.symm n12)]; exact q2) (ne kp2) hp2
  have S4 := S3.grab (jz kT gT) (by show upd (upd F.T p1 _) p2 _ T = none; rw [upd_ne nT2, upd_ne nT1]; exact r1) (by show upd (upd F.B p1 _) p2 _ T = none; rw [upd_ne nT2, upd_ne nT1]; exact r2) (ne kT) hT
  have S5 := S4.setNo (i := i) (some (V.ref T))
  have tT : (((F.hold p1 (.lst vs1)).hold p2 (.lst vs2)).hold T (.tup [.ref p1, .ref p2])).T T = some (.tup [.ref p1, .ref p2]) := upd_same
  have t1 : (((F.hold p1 (.lst vs1)).hold p2 (.lst vs2)).hold T (.tup [.ref p1, .ref p2])).T p1 = some (.lst vs1) := by show upd (upd (upd F.T p1 _) p2 _) T _ p1 = _; rw [upd_ne (Ne.symm nT1), upd_ne n12, upd_same]
  have t2 : (((F.hold p1 (.lst vs1)).hold p2 (.lst vs2)).hold T (.tup [.ref p1, .ref p2])).T p2 = some (.lst vs2) := by show upd (upd (upd F.T p1 _) p2 _) T _ p2 = _; rw [upd_ne (Ne.symm nT2), upd_same]
  have tF : Same F.T (((F.hold p1 (.lst vs1)).hold p2 (.lst vs2)).hold T (.tup [.ref p1, .ref p2])).T := fun x o q => by
    show upd (upd (upd F.T p1 _) p2 _) T _ x = _
    rw [upd_ne (ne_of_none q r1), upd_ne (ne_of_none q q1), upd_ne (ne_of_none q o1)]; exact q
  have bF : ∀ x, (((F.hold p1 (.lst vs1)).hold p2 (.lst vs2)).hold T (.tup [.ref p1, .ref p2])).B x = none → F.B x = none ∧ x ≠ p1 ∧ x ≠ p2 ∧ x ≠ T := fun x q => by
    have q : upd (upd (upd F.B p1 _) p2 _) T _ x = none := q
    by_cases e3 : x = T
    · rw [e3, upd_same] at q; cases q
    · rw [upd_ne e3] at q
      by_cases e4 : x = p2
      · rw [e4, upd_same] at q; cases q
      · rw [upd_ne e4] at q
        by_cases e5 : x = p1
        · rw [e5, upd_same] at q; cases q
        · rw [upd_ne e5] at q; exact ⟨q, e5, e4, e3⟩
  have g3 : (((F.hold p1 (.lst vs1)).hold p2 (.lst vs2)).hold T (.tup [.ref p1, .ref p2])).G0 = F.G0 := rfl
  have i3 : (((F.hold p1 (.lst vs1)).hold p2 (.lst vs2)).hold T (.tup [.ref p1, .ref p2])).IO = F.IO := rfl
  clear S2 S3 S4
  generalize ((F.hold p1 (.lst vs1)).hold p2 (.lst vs2)).hold T (.tup [.ref p1, .ref p2]) = F4 at *
  have hσ : (σ.set i (some (V.ref T)))[i]? = some (some (.ref T)) := List.getElem?_set_self hi
  have hh1 : (δ.set i .no)[h]? = some (.sh (.tup [.lst a, .lst b])) := by rw [List.getElem?_set_ne (Ne.symm hih)]; exact hh
  -- the look
  have hA : ∀ x ∈ [p1, p2, T], jn G Gn x = none := fun x hx => by
    simp only [List.mem_cons, List.not_mem_nil, or_false] at hx
    rcases hx with rfl | rfl | rfl
    · exact jz kp1 gp1
    · exact jz kp2 gp2
    · exact jz kT gT
  obtain ⟨vh, vh1, vh2⟩ := S5.sh h _ hh1
  obtain ⟨gg, gh⟩ := SR.lendG (H := H1) hA S5.g
  have w1 : rdHp (jn G Gn) H1 [p1, p2, T] p1 = some (.lst vs1) := by unfold rdHp; rw [if_pos (by simp), hp1]
  have w2 : rdHp (jn G Gn) H1 [p1, p2, T] p2 = some (.lst vs2) := by unfold rdHp; rw [if_pos (by simp), hp2]
  have w3 : rdHp (jn G Gn) H1 [p1, p2, T] T = some (.tup [.ref p1, .ref p2]) := by unfold rdHp; rw [if_pos (by simp), hT]
  have rT : Rp M (rdHp (jn G Gn) H1 [p1, p2, T]) (.tup [.lst l1, .lst l2]) (.ref T) := ⟨T, _, rfl, .inl (.inl w3), RpA.cons ⟨p1, vs1, rfl, w1, RpA.mono (gj.trans gg) _ ra1⟩ (RpA.cons ⟨p2, vs2, rfl, w2, RpA.mono (gj.trans gg) _ ra2⟩ RpA.nil)⟩
  refine ⟨_, hσ, vh, vh1, rfl, [.sh (.tup [.lst l1, .lst l2]), .sh (.tup [.lst a, .lst b])], P, _, [], P, SR.call0 (ds := [.tup [.lst l1, .lst l2], .tup [.lst a, .lst b]]) (RpA.cons rT (RpA.cons (Rp.mono gg _ vh2) RpA.nil)) gh, ?_⟩
  rw [es]
  intro P2 G2' H2 S' g' u hu
  cases (show u = .bl true from hu)
  refine ⟨true, rfl, ?_⟩
  have x2 := SR.back0 hA S'
  have S6 := S5.ext x2
  have gG2 : Same (jn G Gn) (unHp G2' [p1, p2, T]) := x2.g
  generalize unHp G2' [p1, p2, T] = G2 at *
  -- the first list
  refine ⟨_, hσ, T, [.ref p1, .ref p2], 0, .ref p1, rfl, rfl, .inl (.inl (S6.t T _ tT)), rfl, .inl ⟨rfl, vs1, SqL.of (S6.t p1 _ t1)⟩, F4, δ.set i .no, P, G2, S6, ?_⟩
  obtain ⟨d01, e01⟩ := ec (δ.set i .no)
  unfold cArgs
  rw [e01]
  intro P7 G7 H7 S7 g7 vs hvs
  obtain ⟨v, r, rfl, rv, hr⟩ := hvs
  have hr : r = [] := hr
  subst hr
  have len1 := ra1.length
  refine ⟨p1, vs1, v, rfl, rfl, S7.t p1 _ t1, by omega, ?_⟩
  have bs : ∀ x, x = p1 ∨ x = p2 ∨ x = T → F4.B x ≠ none := fun x hx z => by
    obtain ⟨_, m1, m2, m3⟩ := bF x z
    rcases hx with hx | hx | hx
    · exact m1 hx
    · exact m2 hx
    · exact m3 hx
  have G0z : ∀ x, F.G0 x = none → F4.G0 x = none := fun x hx => by rw [g3]; exact hx
  have S8 := S7.reT (o' := .lst (vs1 ++ [v])) t1 (S7.noG (G0z _ o3) (bs p1 (.inl rfl)))
  have t2' : ({ F4 with T := upd F4.T p1 (.lst (vs1 ++ [v])) } : Fm).T p2 = some (.lst vs2) := by show upd F4.T p1 _ p2 = _; rw [upd_ne (Ne.symm n12)]; exact t2
  have tT' : ({ F4 with T := upd F4.T p1 (.lst (vs1 ++ [v])) } : Fm).T T = some (.tup [.ref p1, .ref p2]) := by show upd F4.T p1 _ T = _; rw [upd_ne nT1]; exact tT
  have tF' : Same F.T ({ F4 with T := upd F4.T p1 (.lst (vs1 ++ [v])) } : Fm).T := fun x o q => by
    show upd F4.T p1 _ x = _
    rw [upd_ne (ne_of_none q o1)]; exact tF x o q
  generalize upd H7 p1 (.lst (vs1 ++ [v])) = H8 at *
  have bF' : ∀ x, ({ F4 with T := upd F4.T p1 (.lst (vs1 ++ [v])) } : Fm).B x = none → F.B x = none := fun x q => (bF x q).1
  have bs' : ({ F4 with T := upd F4.T p1 (.lst (vs1 ++ [v])) } : Fm).B p2 ≠ none := bs p2 (.inr (.inl rfl))
  have g3' : ({ F4 with T := upd F4.T p1 (.lst (vs1 ++ [v])) } : Fm).G0 = F.G0 := g3
  have i3' : ({ F4 with T := upd F4.T p1 (.lst (vs1 ++ [v])) } : Fm).IO = F.IO := i3
  generalize ({ F4 with T := upd F4.T p1 (.lst (vs1 ++ [v])) } : Fm) = F5 at *
  -- the second compared
  obtain ⟨uh, uh1, ah, xs, rfl, uh3, uh4⟩ := S8.sh h _ hh1
  obtain ⟨v1, rr1, rfl, _, v2, rr2, rfl, hv2, he⟩ := uh4
  have he : rr2 = [] := he
  subst he
  refine ⟨_, hσ, T, [.ref p1, .ref p2], 1, .ref p2, rfl, rfl, .inl (.inl (S8.t T _ tT')), rfl, ?_⟩
  refine ⟨_, uh1, ah, [v1, v2], 1, v2, rfl, rfl, Same.seqT S8.g uh3, rfl, ?_⟩
  have ra2' : RpA M G7 l2 vs2 := RpA.mono (gj.trans (gG2.trans g7)) _ ra2
  refine ⟨G7, .lst l2, .lst b, false, S8.g, .inr ⟨p2, rfl, vs2, S8.t p2 _ t2', ra2'⟩, .inl hv2, by show Option.map not (eqD (.lst l2) (.lst b)) = some false; rw [ee]; rfl, false, rfl, ?_⟩
  -- the second list
  refine ⟨_, hσ, T, [.ref p1, .ref p2], 1, .ref p2, rfl, rfl, .inl (.inl (S8.t T _ tT')), rfl, .inl ⟨rfl, vs2, SqL.of (S8.t p2 _ t2')⟩, F5, δ.set i .no, P7, G7, S8, ?_⟩
  unfold cArgs
  rw [e01]
  intro P9 G9 H9 S9 g9 vs hvs
  obtain ⟨v', r, rfl, rv', hr⟩ := hvs
  have hr : r = [] := hr
  subst hr
  have len2 := ra2.length
  refine ⟨p2, vs2, v', rfl, rfl, S9.t p2 _ t2', by omega, ?_⟩
  have S10 := S9.reT (o' := .lst (vs2 ++ [v'])) t2' (S9.noG (by rw [g3']; exact q3) bs')
  refine hn _ P9 G9 _ (S10.letgo (fun x o q => ?_) bF' g3' i3') (x1.g.trans (gG2.trans (g7.trans g9)))
  show upd F5.T p2 _ x = _
  rw [upd_ne (ne_of_none q q1)]; exact tF' x o q
end
end PV
namespace PV
open PySem PySem.Spec PyProof.Rows L2
/-! ### the law -/
def spLaw (K : PySem.W.Frag) : Sp := fun vs H Q E => ∃ (a : Addr) (ns : List Int), vs = [.ref a] ∧ SqL K H a (ns.map V.int) ∧ ns.length ≤ 63 ∧ ∀ H', Q (.bl true) H'
theorem rpa_ints {M : KM} {G : Hp} : ∀ ns : List Int, RpA M G (ns.map D.int) (ns.map V.int)
  | [] => rfl
  | n :: ns => ⟨_, _, rfl, rfl, rpa_ints ns⟩
theorem spLaw_of {M : KM} {g : List Sl → Out R} (h : ∀ ns : List Int, ns.length ≤ 63 → ∃ δ, g [.sh (.rol (ns.map D.int))] = .ok (.sh (.bl true)) δ) : ∀ vs H Q E, spLaw M.K vs H Q E → spD M 1 g vs H Q E := by
  intro vs H Q E hs
  obtain ⟨a, ns, rfl, hS, hl, q⟩ := hs
  obtain ⟨δ, e⟩ := h ns hl
  refine ⟨rfl, [.sh (.rol (ns.map D.int))], fun _ => 0, H, [], fun _ => 0, SR.call0 (M := M) (ds := [.rol (ns.map D.int)]) (RpA.cons ⟨a, _, rfl, hS, rpa_ints ns⟩ RpA.nil) (Same.refl _), ?_⟩
  rw [e]
  intro P' G' H' _ _ v hv
  rw [show v = .bl true from hv]
  exact q H'
/-- the law's promise, from what it computes -/
theorem law_of {P : Program} {w : World} {K : PySem.W.Frag} {mg : Str → Option Value} {base : Heap} {k : Nat} {g : List Sl → Out R} (c : CalD P w K mg base k "law" ["script"] g) (h : ∀ ns : List Int, ns.length ≤ 63 → ∃ δ, g [.sh (.rol (ns.map D.int))] = .ok (.sh (.bl true)) δ)
    {f : Addr} {fd : FuncData} {oc : Value} {od : Option Addr} {sl : Array (Option Value)} (hf : mg "law" = some (.ref f)) (lk : K.lookup f = some ⟨oc, od, .func fd, sl⟩) : FnOk P w K mg base (L2.CX P w) k f fd ["script"] (spLaw K) := by
  exact (c.at hf lk).imp (spLaw_of (M := ⟨P, w, K, mg⟩) h)
theorem walk_law {l : PySem.W.OpenLaw} {q : Program} {k : Nat} {loose : List Str} {XP : (Str → Option Value) → Heap → Prop} {YP : World → Heap → Prop} {d : DefRec} {K : Params → PySem.W.Frag} (hn : l.most = some 63) (hdf : d.params.defaults = []) (hk : k ≤ 60)
    (hY : ∀ (w : World) (h : Heap), YP w h → (K w.params).In h)
    (F : ∀ (w : World) (mg : Str → Option Value) (fa : Addr) (h : Heap), (K w.params).In h → h.Ns mainGlobals mg → mg d.name = some (.ref fa) →
      ∃ fd : FuncData, (∀ (s : Shared) (u : Value), BindsTo s fd ⟨[u], []⟩ [("script", u)]) ∧ ∀ base : Heap, (K w.params).In base → base.Ns mainGlobals mg → FnOk l.prog w (K w.params) mg base (L2.CX l.prog w) k fa fd ["script"] (spLaw (K w.params))) :
    PySem.W.WalkO q loose XP YP l.row.toRowW d [] (fun f vs => PySem.call f vs) :=
  L2.walk_of (n := 63) (k := 60) (x := "script") (CX := fun w => L2.CX l.prog w) (sp := fun w => spLaw (K w.params)) hn (by decide) hdf ⟨rfl, by decide, by decide⟩ hY (fun w mg fa h X G hm => let ⟨fd, h1, h2⟩ := F w mg fa h X G hm; ⟨fd, h1, fun base b1 b2 => (h2 base b1 b2).mono hk⟩)
    (fun _ _ a ns hl _ hS => ⟨a, ns, rfl, hS, hl, fun _ => rfl⟩) fun _ _ _ _ _ z => by
      obtain ⟨_, _, _, _, _, _, _, _, _, _, _, _, z⟩ := z
      exact z.elim
end PV
/-! PVN: closures, reckoned by simp. -/
namespace PV
open PySem PySem.Spec PyProof.Rows L2
section
variable {α β : Type} {a : α} {δ δ' : List Sl} {c : Str} {k : α → List Sl → Out β} {ks : α → List Sl → SOut} {d d' : D} {i n : Nat} {f fa fb g : EV} {bf : BV} {s t : SV} {r : R} {fs : List EV} {b : Bool}
@[simp] theorem ev_bind_ok : (Out.ok a δ).bind k = k a δ := (rfl)
@[simp] theorem ev_bind_ex : (Out.ex c δ : Out α).bind k = .ex c δ := (rfl)
@[simp] theorem ev_bind_st : (Out.st : Out α).bind k = .st := (rfl)
@[simp] theorem ev_toS_ok : (Out.ok a δ).toS ks = ks a δ := (rfl)
@[simp] theorem ev_toS_ex : (Out.ex c δ : Out α).toS ks = .ex c δ := (rfl)
@[simp] theorem ev_toS_st : (Out.st : Out α).toS ks = .st := (rfl)
@[simp] theorem ev_nxt {u : Unit} : nxt (.ok u δ) = .nx δ := (rfl)
@[simp] theorem ev_seq_nx : (SOut.nx δ).seq s = s δ := (rfl)
@[simp] theorem ev_seq_rt : (SOut.rt r δ).seq s = .rt r δ := (rfl)
@[simp] theorem ev_seq_ex : (SOut.ex c δ).seq s = .ex c δ := (rfl)
@[simp] theorem ev_seq_bk : (SOut.bk δ).seq s = .bk δ := (rfl)
@[simp] theorem ev_seq_ct : (SOut.ct δ).seq s = .ct δ := (rfl)
@[simp] theorem ev_seq_st : SOut.st.seq s = .st := (rfl)
@[simp] theorem ev_noex_ok : (Out.ok a δ).noex = .ok a δ := (rfl)
@[simp] theorem ev_cC : cC d δ = .ok (.sh d) δ := (rfl)
@[simp] theorem ev_cVar : cVar i δ = (match δ[i]? with
  | some (.sh d) => .ok (.sh d) δ
  | some (.ow _ _) => .ok (.nm i) δ
  | _ => .st) := (rfl)
@[simp] theorem ev_stl_sh : stl (.sh d) = .sh d := (rfl)
@[simp] theorem ev_stl_ow : stl (.ow d) = .sh d := (rfl)
@[simp] theorem ev_stl_nm : stl (.nm i) = .nm i := (rfl)
@[simp] theorem ev_look_sh : look (.sh d) δ = some d := (rfl)
@[simp] theorem ev_look_ow : look (.ow d) δ = some d := (rfl)
@[simp] theorem ev_look_nm : look (.nm i) δ = (match δ[i]? with
  | some (.sh d) => some d
  | some (.ow _ d) => some d
  | _ => none) := (rfl)
@[simp] theorem ev_leak_sh : leak (.sh d) δ = .ok d δ := (rfl)
@[simp] theorem ev_leak_nm : leak (.nm i) δ = (match δ[i]? with
  | some (.sh d) => .ok d δ
  | some (.ow false d) => .ok d (δ.set i (.sh d))
  | _ => .st) := (rfl)
@[simp] theorem ev_ofO_some : ofO (some a) δ = .ok a δ := (rfl)
@[simp] theorem ev_ofO_none : ofO (none : Option α) δ = .st := (rfl)
@[simp] theorem ev_c2 {φ : D → D → Option R} : c2 φ fa fb δ = (fa δ).bind fun ra δ1 => (fb δ1).bind fun rb δ2 => match look (stl ra) δ2, look (stl rb) δ2 with
  | some d, some e => ofO (φ d e) δ2
  | _, _ => .st := (rfl)
@[simp] theorem ev_cBin {op : Operator} : cBin op fa fb δ = c2 (binD op) fa fb δ := (rfl)
@[simp] theorem ev_cIx : cIx fa fb δ = c2 ixD fa fb δ := (rfl)
@[simp] theorem ev_chain {l : List (CmpOp × EV)} : cChainB fa l δ = (fa δ).bind fun ra δ1 => cLinks ra l δ1 := (rfl)
@[simp] theorem ev_link1 {op : CmpOp} : cLinks r [(op, fb)] δ = (fb δ).bind fun rb δ2 => cmpR op r rb δ2 := (rfl)
@[simp] theorem ev_link2 {op op' : CmpOp} {l : List (CmpOp × EV)} : cLinks r ((op, fb) :: (op', g) :: l) δ = (fb δ).bind fun rb δ2 => (cmpR op r rb δ2).bind fun k δ3 => if k = true then cLinks rb ((op', g) :: l) δ3 else .ok false δ3 := (rfl)
@[simp] theorem ev_cmpR {op : CmpOp} {ra rb : R} : cmpR op ra rb δ = (match look (stl ra) δ, look (stl rb) δ with
  | some d, some e => ofO (cmpD op d e) δ
  | _, _ => .st) := (rfl)
@[simp] theorem ev_asV : asV bf δ = (bf δ).bind fun b δ' => .ok (.sh (.bl b)) δ' := (rfl)
@[simp] theorem ev_truR : truR r δ = (match look (stl r) δ with
  | some d => ofO (truD d) δ
  | none => .st) := (rfl)
@[simp] theorem ev_cTru : cTru f δ = (f δ).bind truR := (rfl)
@[simp] theorem ev_cNot : cNot bf δ = (bf δ).bind fun k δ1 => .ok (!k) δ1 := (rfl)
@[simp] theorem ev_cNotV : cNotV f δ = (f δ).bind fun r δ1 => (truR r δ1).bind fun k δ2 => .ok (.sh (.bl (!k))) δ2 := (rfl)
@[simp] theorem ev_cNeg : cNeg f δ = (f δ).bind fun r δ1 => match look (stl r) δ1 with
  | some (.int i) => .ok (.sh (.int (-i))) δ1
  | _ => .st := (rfl)
@[simp] theorem ev_args0 : cArgs [] δ = .ok [] δ := (rfl)
@[simp] theorem ev_args1 : cArgs (f :: fs) δ = (f δ).bind fun r δ1 => (cArgs fs δ1).bind fun rs δ2 => .ok (stl r :: rs) δ2 := (rfl)
@[simp] theorem ev_leaks0 : leaks [] δ = .ok [] δ := (rfl)
@[simp] theorem ev_leaks1 {rs : List R} : leaks (r :: rs) δ = (leak (stl r) δ).bind fun d δ1 => (leaks rs δ1).bind fun ds δ2 => .ok (d :: ds) δ2 := (rfl)
@[simp] theorem ev_looks0 : looks [] δ = some [] := (rfl)
@[simp] theorem ev_looks1 {rs : List R} : looks (r :: rs) δ = (match look (stl r) δ, looks rs δ with
  | some d, some ds => some (d :: ds)
  | _, _ => none) := (rfl)
@[simp] theorem ev_cTup : cTup fs δ = (cArgs fs δ).bind fun rs δ1 => (leaks rs δ1).bind fun ds δ2 => fitO ds.length (.ok (.sh (.tup ds)) δ2) := (rfl)
@[simp] theorem ev_cLst : cLst fs δ = (cArgs fs δ).bind fun rs δ1 => (leaks rs δ1).bind fun ds δ2 => fitO ds.length (.ok (.ow (.lst ds)) δ2) := (rfl)
@[simp] theorem ev_cFn {φ : List D → Option R} : cFn φ fs δ = (cArgs fs δ).bind fun rs δ1 => match looks rs δ1 with
  | some ds => ofO (φ ds) δ1
  | none => .st := (rfl)
@[simp] theorem ev_cIf : cIf bf fa fb δ = (bf δ).bind fun k δ1 => if k = true then fa δ1 else fb δ1 := (rfl)
@[simp] theorem ev_sAsg {gv : TV} : sAsg f gv δ = (f δ).toS fun r δ1 => nxt (gv r δ1) := (rfl)
@[simp] theorem ev_sExpr : sExpr f δ = (f δ).toS fun _ δ1 => .nx δ1 := (rfl)
@[simp] theorem ev_sRet : sRet f δ = (f δ).toS fun r δ1 => .rt r δ1 := (rfl)
@[simp] theorem ev_sRetN : sRetN δ = .rt (.sh .non) δ := (rfl)
@[simp] theorem ev_sSkip : sSkip δ = .nx δ := (rfl)
@[simp] theorem ev_sIf : sIf bf s t δ = (bf δ).toS fun k δ1 => if k = true then s δ1 else t δ1 := (rfl)
@[simp] theorem ev_sSeq : sSeq s t δ = (s δ).seq t := (rfl)
@[simp] theorem ev_sRaise : sRaise c δ = .ex c δ := (rfl)
@[simp] theorem ev_gN : gN i r δ = (if free1 i δ then (match r with
  | .sh d => .ok () (δ.set i (.sh d))
  | .ow d => .ok () (δ.set i (.ow false d))
  | .nm j => (leak (.nm j) δ).bind fun d δ1 => .ok () (δ1.set i (.sh d))) else .st) := (rfl)
@[simp] theorem ev_free1 : free1 i δ = (match δ[i]? with
  | some (.ow true _) => false
  | _ => true) := (rfl)
@[simp] theorem ev_gSubD : gSubD i f r δ = (leak (stl r) δ).bind fun d δ1 => match δ1[i]? with
  | some (.ow _ _) => (f δ1).bind fun ri δ2 => match look (stl ri) δ2, δ2[i]? with
    | some k, some (.ow b c) => (match setD c k d with
      | some c' => .ok () (δ2.set i (.ow b c'))
      | none => .st)
    | _, _ => .st
  | _ => .st := (rfl)
@[simp] theorem ev_cCal {h : List Sl → Out R} {io : List Bool} : cCal h io fs δ = (cArgs fs δ).bind fun rs δ1 => callK h io rs δ1 := (rfl)
@[simp] theorem ev_callK {h : List Sl → Out R} {io : List Bool} {rs : List R} : callK h io rs δ = (if apart io rs then (match argsOf δ io rs with
  | none => .st
  | some as => match h as with
    | .ok (.nm _) _ => .st
    | .ok r as' => (match backs (immR r && cleanA io as') io rs as' δ with | some δ2 => .ok r δ2 | none => .st)
    | .ex c as' => (match backs (cleanA io as') io rs as' δ with | some δ2 => .ex c δ2 | none => .st)
    | .st => .st) else .st) := (rfl)
@[simp] theorem ev_defD : defD n s δ = (s (δ ++ List.replicate n .no)).out δ := (rfl)
@[simp] theorem ev_out_nx : (SOut.nx δ).out δ' = .ok (.sh .non) (lentOf δ' δ) := (rfl)
@[simp] theorem ev_out_rt : (SOut.rt r δ).out δ' = (match retR r δ with | some r' => .ok r' (lentOf δ' δ) | none => .st) := (rfl)
@[simp] theorem ev_out_ex : (SOut.ex c δ).out δ' = .ex c (lentOf δ' δ) := (rfl)
@[simp] theorem ev_cMu {T : String} {ψ : Mu} : cMu T ψ i fs δ = (match δ[i]? with
  | some (.ow _ d0) => if muOk T d0 then (cArgs fs δ).bind fun rs δ1 => (leaks rs δ1).bind fun ds δ2 => match δ2[i]? with
    | some (.ow b d) => (match ψ d ds with
      | some (d', r) => .ok (.sh r) (δ2.set i (.ow b d'))
      | none => .st)
    | _ => .st else .st
  | _ => .st) := (rfl)
@[simp] theorem ev_cMt {T : String} {φ : List D → Option R} : cMt T φ f fs δ = (f δ).bind fun r δ1 => match look (stl r) δ1 with
  | none => .st
  | some d0 => if tyOk T d0 then (cArgs fs δ1).bind fun rs δ2 => match look (stl r) δ2, looks rs δ2 with
    | some d, some ds => ofO (φ (d :: ds)) δ2
    | _, _ => .st else .st := (rfl)
@[simp] theorem ev_cIsi {cs : List String} : cIsi cs f δ = (f δ).bind fun r δ1 => match look (stl r) δ1 with
  | some d => (match tyD d with | some t => ofO ((isAny t cs).map fun b => .sh (.bl b)) δ1 | none => .st)
  | none => .st := (rfl)
@[simp] theorem ev_ands1 : cAnds [bf] δ = bf δ := (rfl)
@[simp] theorem ev_ors1 : cOrs [bf] δ = bf δ := (rfl)
@[simp] theorem ev_sFor {it : IV} {gv : TV} : sFor it gv s δ = (it δ).toS fun ds δ1 => sLoop gv s ds δ1 := (rfl)
@[simp] theorem ev_iFn {φ : List D → Option (List D)} : iFn φ fs δ = (cArgs fs δ).bind fun rs δ1 => match looks rs δ1 with
  | some ds => ofO (φ ds) δ1
  | none => .st := (rfl)
@[simp] theorem ev_iAny : iAny f δ = (f δ).bind fun r δ1 => (leak (stl r) δ1).bind fun d δ2 => ofO (itD d) δ2 := (rfl)
@[simp] theorem ev_cLC {it : IV} {gv : TV} {vs : List Nat} : cLC it gv bf f vs δ = (it δ).bind fun ds δ1 => (cLoop gv bf f vs ds [] δ1).noex.bind fun out δ2 => .ok (.ow (.lst out)) (backD δ1 δ2 vs) := (rfl)
@[simp] theorem ev_fit_small : fitO n (Out.ok a δ) = (if fit n then .ok a δ else .st) := (rfl)
@[simp] theorem ev_apart {bs : List Bool} {rs : List R} : apart bs rs = (decide (ioIx bs rs).Nodup && (ioIx bs rs).all fun i => !(rdIx bs rs).contains i) := (rfl)
@[simp] theorem ev_io0 {rs : List R} : ioIx [] rs = [] := by cases rs <;> rfl
@[simp] theorem ev_io1 {bs : List Bool} {rs : List R} : ioIx (false :: bs) (r :: rs) = ioIx bs rs := by cases r <;> rfl
@[simp] theorem ev_io2 {bs : List Bool} {rs : List R} : ioIx (true :: bs) (.nm i :: rs) = i :: ioIx bs rs := (rfl)
@[simp] theorem ev_rd0 {rs : List R} : rdIx [] rs = [] := by cases rs <;> rfl
@[simp] theorem ev_rd1 {bs : List Bool} {rs : List R} : rdIx (true :: bs) (r :: rs) = rdIx bs rs := by cases r <;> rfl
@[simp] theorem ev_rd2 {bs : List Bool} {rs : List R} : rdIx (false :: bs) (.nm i :: rs) = i :: rdIx bs rs := (rfl)
@[simp] theorem ev_rd3 {bs : List Bool} {rs : List R} : rdIx (false :: bs) (.sh d :: rs) = rdIx bs rs := (rfl)
@[simp] theorem ev_ao0 : argsOf δ [] [] = some [] := (rfl)
@[simp] theorem ev_ao1 {bs : List Bool} {rs : List R} : argsOf δ (false :: bs) (.sh d :: rs) = (argsOf δ bs rs).map (.sh d :: ·) := (rfl)
@[simp] theorem ev_ao2 {bs : List Bool} {rs : List R} : argsOf δ (false :: bs) (.nm i :: rs) = (match look (.nm i) δ, argsOf δ bs rs with
    | some d, some as => some (.sh d :: as)
    | _, _ => none) := (rfl)
@[simp] theorem ev_ao3 {bs : List Bool} {rs : List R} : argsOf δ (true :: bs) (.nm i :: rs) = (match δ[i]?, argsOf δ bs rs with
    | some (.ow _ d), some as => some (.ow true d :: as)
    | _, _ => none) := (rfl)
@[simp] theorem ev_bk0 : backs b [] [] [] δ = some δ := (rfl)
@[simp] theorem ev_bk1 {bs : List Bool} {rs : List R} {as : List Sl} {s : Sl} : backs b (false :: bs) (.sh d :: rs) (s :: as) δ = backs b bs rs as δ := (rfl)
@[simp] theorem ev_bk2 {bs : List Bool} {rs : List R} {as : List Sl} {s : Sl} : backs true (false :: bs) (.nm i :: rs) (s :: as) δ = backs true bs rs as δ := (rfl)
@[simp] theorem ev_bk2' {bs : List Bool} {rs : List R} {as : List Sl} {s : Sl} : backs false (false :: bs) (.nm i :: rs) (s :: as) δ = (match δ[i]? with
    | some (.ow false d) => backs false bs rs as (δ.set i (.sh d))
    | some (.ow true _) => none
    | _ => backs false bs rs as δ) := (rfl)
@[simp] theorem ev_bk3 {bs : List Bool} {rs : List R} {as : List Sl} {f : Bool} {d' : D} : backs b (true :: bs) (.nm i :: rs) (.ow f d' :: as) δ = (match δ[i]? with
    | some (.ow f _) => backs b bs rs as (δ.set i (.ow f d'))
    | _ => none) := (rfl)
@[simp] theorem ev_cl0 {as : List Sl} : cleanA [] as = true := by cases as <;> rfl
@[simp] theorem ev_cl1 {bs : List Bool} {as : List Sl} {s : Sl} : cleanA (false :: bs) (s :: as) = cleanA bs as := by cases s <;> rfl
@[simp] theorem ev_cl2 {bs : List Bool} {as : List Sl} {f : Bool} : cleanA (true :: bs) (.ow f d :: as) = (immC d && cleanA bs as) := (rfl)
@[simp] theorem ev_im1 : immR (.sh d) = immD d := (rfl)
@[simp] theorem ev_im2 : immR (.ow d) = immC d := (rfl)
@[simp] theorem ev_id1 {x : Int} : immD (.int x) = true := (rfl)
@[simp] theorem ev_id2 {x : Bool} : immD (.bl x) = true := (rfl)
@[simp] theorem ev_id3 {x : Str} : immD (.str x) = true := (rfl)
@[simp] theorem ev_id4 : immD .non = true := (rfl)
@[simp] theorem ev_id5 {ds : List D} : immD (.tup ds) = immA ds := (rfl)
@[simp] theorem ev_id6 {ds : List D} : immD (.lst ds) = false := (rfl)
@[simp] theorem ev_ia0 : immA [] = true := (rfl)
@[simp] theorem ev_ia1 {ds : List D} : immA (d :: ds) = (immD d && immA ds) := (rfl)
@[simp] theorem ev_ic1 {ds : List D} : immC (.lst ds) = immA ds := (rfl)
@[simp] theorem ev_retsh : retR (.sh d) δ = some (.sh d) := (rfl)
@[simp] theorem ev_retow : retR (.ow d) δ = some (.ow d) := (rfl)
@[simp] theorem ev_retnm : retR (.nm i) δ = (match δ[i]? with
    | some (.sh d) => some (.sh d)
    | some (.ow false d) => some (.ow d)
    | _ => none) := (rfl)
@[simp] theorem ev_lo0 : lentOf [] δ = [] := by cases δ <;> rfl
@[simp] theorem ev_lo1 {s t : Sl} {as : List Sl} : lentOf (s :: as) (t :: δ) = lent1 s t :: lentOf as δ := (rfl)
@[simp] theorem ev_l1 {s : Sl} : lent1 (.sh d) s = .no := by cases s <;> rfl
@[simp] theorem ev_l2 : lent1 (.ow true d) (.ow true d') = .ow true d' := (rfl)
@[simp] theorem ev_wd0 : wipeD δ [] = δ := (rfl)
@[simp] theorem ev_wd1 {vs : List Nat} : wipeD δ (i :: vs) = (wipeD δ vs).set i .no := (rfl)
@[simp] theorem ev_bd0 : backD δ δ' [] = δ' := (rfl)
@[simp] theorem ev_bd1 {vs : List Nat} : backD δ δ' (i :: vs) = back1 δ (backD δ δ' vs) i := (rfl)
@[simp] theorem ev_b1 : back1 δ δ' i = (match δ[i]? with
  | some (.sh d) => δ'.set i (.sh d)
  | _ => δ'.set i .no) := (rfl)
@[simp] theorem ev_sl0 {gv : TV} : sLoop gv s [] δ = .nx δ := (rfl)
@[simp] theorem ev_ors2 {bg : BV} {bs : List BV} : cOrs (bf :: bg :: bs) δ = (bf δ).bind fun k δ1 => if k = true then .ok true δ1 else cOrs (bg :: bs) δ1 := (rfl)
@[simp] theorem ev_ands2 {bg : BV} {bs : List BV} : cAnds (bf :: bg :: bs) δ = (bf δ).bind fun k δ1 => if k = true then cAnds (bg :: bs) δ1 else .ok false δ1 := (rfl)
@[simp] theorem ev_andsV1 : cAndsV [f] δ = f δ := (rfl)
@[simp] theorem ev_andsV2 {fs : List EV} : cAndsV (f :: g :: fs) δ = (f δ).bind fun r δ1 => (truR r δ1).bind fun k δ2 => if k = true then cAndsV (g :: fs) δ2 else .ok (stl r) δ2 := (rfl)
@[simp] theorem ev_yes : tYesB δ = .ok true δ := (rfl)
@[simp] theorem ev_gT {gs : List TV} : gT gs r δ = (match leak (stl r) δ with
  | .ok (.tup ds) δ1 => if ds.length = gs.length then gNs gs ds δ1 else .st
  | .ok (.lst ds) δ1 => if ds.length = gs.length then gNs gs ds δ1 else .st
  | _ => .st) := (rfl)
@[simp] theorem ev_gNs0 : gNs [] [] δ = .ok () δ := (rfl)
@[simp] theorem ev_gNs1 {gv : TV} {gs : List TV} {ds : List D} : gNs (gv :: gs) (d :: ds) δ = (gv (.sh d) δ).bind fun _ δ1 => gNs gs ds δ1 := (rfl)
@[simp] theorem ev_cSl {lo hi : Option EV} : cSl f lo hi δ = (f δ).bind fun r δ1 => (cPart lo δ1).bind fun l δ2 => (cPart hi δ2).bind fun h δ3 => match look (stl r) δ3 with
  | some d => ofO (slD d l h) δ3
  | none => .st := (rfl)
@[simp] theorem ev_part0 : cPart none δ = .ok none δ := (rfl)

/-- one turn of a comprehension -/
def turn (gv : TV) (t : BV) (f : EV) (d : D) (δ : List Sl) : Out (Option D) := (gv (.sh d) δ).bind fun _ δ2 => (t δ2).bind fun k δ3 => if k = true then (f δ3).bind fun r δ4 => (leak (stl r) δ4).bind fun y δ5 => .ok (some y) δ5 else .ok none δ3
theorem loop_turn {gv : TV} {t : BV} {f : EV} {vs : List Nat} {d : D} {ds acc : List D} {δ : List Sl} : cLoop gv t f vs (d :: ds) acc δ = (turn gv t f d (wipeD δ vs)).bind fun o δ' => match o with
  | some y => if fit (acc.length + 1) then cLoop gv t f vs ds (acc ++ [y]) δ' else .st
  | none => cLoop gv t f vs ds acc δ' := by
  unfold turn
  show ((gv (.sh d) (wipeD δ vs)).bind fun _ δ1 => (t δ1).bind fun k δ2 => if k = true then (f δ2).bind fun r δ3 => (leak (stl r) δ3).bind fun y δ4 => if fit (acc.length + 1) then cLoop gv t f vs ds (acc ++ [y]) δ4 else .st else cLoop gv t f vs ds acc δ2) = _
  cases gv (.sh d) (wipeD δ vs) with
  | ex c δ1 => rfl
  | st => rfl
  | ok u δ1 =>
    dsimp only [Out.bind]
    cases t δ1 with
    | ex c δ2 => rfl
    | st => rfl
    | ok k δ2 =>
      dsimp only
      cases k with
      | false => rfl
      | true =>
        simp only [if_true]
        cases f δ2 with
        | ex c δ3 => rfl
        | st => rfl
        | ok r δ3 =>
          dsimp only
          cases leak (stl r) δ3 <;> rfl
/-- a comprehension whose turns change nothing -/
theorem loop_pure {gv : TV} {t : BV} {f : EV} {vs : List Nat} {W : List Sl} {res : D → Option D} : ∀ {ds acc : List D} {δ : List Sl}, (∀ d ∈ ds, ∃ δ4, turn gv t f d W = .ok (res d) δ4 ∧ wipeD δ4 vs = W) → wipeD δ vs = W → acc.length + ds.length ≤ sizeLine →
    cLoop gv t f vs ds acc δ = .ok (acc ++ ds.filterMap res) W
  | [], acc, δ, _, hw, _ => by
    show Out.ok acc (wipeD δ vs) = _
    rw [hw, List.filterMap_nil, List.append_nil]
  | d :: ds, acc, δ, h, hw, hz => by
    obtain ⟨δ4, h1, h2⟩ := h d List.mem_cons_self
    rw [loop_turn, hw, h1]
    have hz' : acc.length + (ds.length + 1) ≤ sizeLine := by simpa using hz
    dsimp only [Out.bind]
    cases e : res d with
    | none =>
      dsimp only
      rw [loop_pure (fun d hd => h d (List.mem_cons_of_mem _ hd)) h2 (by omega), List.filterMap_cons_none e]
    | some y =>
      dsimp only
      have hf : fit (acc.length + 1) = true := decide_eq_true (by omega)
      rw [if_pos hf, loop_pure (fun d hd => h d (List.mem_cons_of_mem _ hd)) h2 (by simp; omega), List.filterMap_cons_some e]
      simp
theorem lc_all {it : IV} {gv : TV} {t : BV} {f : EV} {vs : List Nat} {ds : List D} {δ δ1 W : List Sl} {res : D → Option D} (hit : it δ = .ok ds δ1) (ht : ∀ d ∈ ds, ∃ δ4, turn gv t f d W = .ok (res d) δ4 ∧ wipeD δ4 vs = W) (hw : wipeD δ1 vs = W) (hb : backD δ1 W vs = δ') (hz : ds.length ≤ sizeLine) :
    cLC it gv t f vs δ = .ok (.ow (.lst (ds.filterMap res))) δ' := by
  rw [ev_cLC, hit, ev_bind_ok, loop_pure ht hw (by simpa using hz), ev_noex_ok, ev_bind_ok, hb, List.nil_append]
theorem loop_mapA {β : Type} {gv : TV} {t : BV} {f : EV} {vs : List Nat} {W : List Sl} (e F : β → D) : ∀ {xs : List β} {acc : List D} {δ1 : List Sl}, (∀ x ∈ xs, ∃ δ4, turn gv t f (e x) W = .ok (some (F x)) δ4 ∧ wipeD δ4 vs = W) → wipeD δ1 vs = W → acc.length + xs.length ≤ sizeLine →
    cLoop gv t f vs (xs.map e) acc δ1 = .ok (acc ++ xs.map F) W
  | [], acc, δ1, _, hw, _ => by
    show Out.ok acc (wipeD δ1 vs) = _
    rw [hw]; simp
  | x :: xs, acc, δ1, h, hw, hz => by
    obtain ⟨δ4, h1, h2⟩ := h x List.mem_cons_self
    have hz' : acc.length + (xs.length + 1) ≤ sizeLine := by simpa using hz
    have hf : fit (acc.length + 1) = true := decide_eq_true (by omega)
    rw [List.map_cons, loop_turn, hw, h1]
    dsimp only [Out.bind]
    rw [if_pos hf, loop_mapA e F (fun y hy => h y (List.mem_cons_of_mem _ hy)) h2 (by simp; omega)]
    simp
theorem loop_map {β : Type} {gv : TV} {t : BV} {f : EV} {vs : List Nat} {W δ1 : List Sl} (e F : β → D) {xs : List β} (h : ∀ x ∈ xs, ∃ δ4, turn gv t f (e x) W = .ok (some (F x)) δ4 ∧ wipeD δ4 vs = W) (hw : wipeD δ1 vs = W) (hz : xs.length ≤ sizeLine) :
    cLoop gv t f vs (xs.map e) [] δ1 = .ok (xs.map F) W := by
  rw [loop_mapA e F h hw (by simpa using hz)]; simp
theorem loop_none {gv : TV} {t : BV} {f : EV} {vs : List Nat} {ds : List D} {δ1 W : List Sl} (ht : ∀ d ∈ ds, ∃ δ4, turn gv t f d W = .ok none δ4 ∧ wipeD δ4 vs = W) (hw : wipeD δ1 vs = W) (hz : ds.length ≤ sizeLine) :
    cLoop gv t f vs ds [] δ1 = .ok [] W := by
  rw [loop_pure (res := fun _ => none) ht hw (by simpa using hz)]
  simp [List.filterMap_eq_nil_iff]
theorem lc_map {it : IV} {gv : TV} {t : BV} {f : EV} {vs : List Nat} {ds : List D} {δ δ1 W : List Sl} {F : D → D} (hit : it δ = .ok ds δ1) (ht : ∀ d ∈ ds, ∃ δ4, turn gv t f d W = .ok (some (F d)) δ4 ∧ wipeD δ4 vs = W) (hw : wipeD δ1 vs = W) (hb : backD δ1 W vs = δ') (hz : ds.length ≤ sizeLine) :
    cLC it gv t f vs δ = .ok (.ow (.lst (ds.map F))) δ' := by
  rw [lc_all (res := fun d => some (F d)) hit ht hw hb hz]
  simp [List.filterMap_eq_map]
theorem lc_none {it : IV} {gv : TV} {t : BV} {f : EV} {vs : List Nat} {ds : List D} {δ δ1 W : List Sl} (hit : it δ = .ok ds δ1) (ht : ∀ d ∈ ds, ∃ δ4, turn gv t f d W = .ok none δ4 ∧ wipeD δ4 vs = W) (hw : wipeD δ1 vs = W) (hb : backD δ1 W vs = δ') (hz : ds.length ≤ sizeLine) :
    cLC it gv t f vs δ = .ok (.ow (.lst [])) δ' := by
  rw [lc_all (res := fun _ => none) hit ht hw hb hz]
  simp [List.filterMap_eq_nil_iff]
@[simp] theorem ev_part1 : cPart (some f) δ = (f δ).bind fun r δ1 => match look (stl r) δ1 with
    | some (.int i) => .ok (some i) δ1
    | _ => .st := (rfl)
@[simp] theorem ev_eqs {x y : Str} : eqD (.str x) (.str y) = some (decide (x = y)) := (rfl)
@[simp] theorem ev_eqi {x y : Int} : eqD (.int x) (.int y) = some (decide (x = y)) := (rfl)
@[simp] theorem ev_eqn : eqD (.lst []) (.lst []) = some true := by decide +kernel
@[simp] theorem ev_eqb : eqD (.bl true) (.bl true) = some true := by decide +kernel
@[simp] theorem ev_eqb2 : eqD (.bl false) (.bl false) = some true := by decide +kernel
end
end PV
namespace K49
open PySem PySem.Spec PyProof.Rows L2 PV
def top (i : Nat) : Stmt := PySem.Challenge.pw_putsigns_k49_rows_and_holds_written.main.body.getD i (.Pass ⟨0, 0, 0, 0⟩)
structure Gx (K : PySem.W.Frag) (mg : Str → Option Value) : Prop where
  z_abs : mg "abs" = none
  z_bool : mg "bool" = none
  z_enumerate : mg "enumerate" = none
  z_int : mg "int" = none
  z_isinstance : mg "isinstance" = none
  z_len : mg "len" = none
  z_list : mg "list" = none
  z_range : mg "range" = none
  z_str : mg "str" = none
  z_tuple : mg "tuple" = none
  g_MOST_NUMBERS_ways : ∃ u, mg "MOST_NUMBERS_ways" = some u ∧ RelV (.int 9) u
  g_MOST_STRETCHES : ∃ u, mg "MOST_STRETCHES" = some u ∧ RelV (.int 40) u
  g_MOST_NUMBERS_held : ∃ u, mg "MOST_NUMBERS_held" = some u ∧ RelV (.int 9) u
  g_FIGURES : ∃ u, mg "FIGURES" = some u ∧ RelV (.str (Str.ofString "0123456789")) u
  g_MOST_NUMBERS_texts : ∃ u, mg "MOST_NUMBERS_texts" = some u ∧ RelV (.int 9) u
  e_NoRow : ExcT K mg "NoRow" "ValueError" "ValueError.__new__" "ValueError.__init__" [.type "ValueError", .type "Exception", .type "BaseException", .type "object"]
  e_NoHolds : ExcT K mg "NoHolds" "ValueError" "ValueError.__new__" "ValueError.__init__" [.type "ValueError", .type "Exception", .type "BaseException", .type "object"]
  e_NoText : ExcT K mg "NoText" "ValueError" "ValueError.__new__" "ValueError.__init__" [.type "ValueError", .type "Exception", .type "BaseException", .type "object"]
  d__law_well : DefT K mg "_law_well" (top 27) ["cell"]
  d__law_draw : DefT K mg "_law_draw" (top 28) ["well", "many"]
  d__law_stretch : DefT K mg "_law_stretch" (top 31) ["well", "many"]
  d__law_holds : DefT K mg "_law_holds" (top 32) ["well", "many"]
  d_is_whole : DefT K mg "is_whole" (top 7) ["thing"]
  d_is_stretch : DefT K mg "is_stretch" (top 13) ["thing", "many"]
  d_is_holds : DefT K mg "is_holds" (top 14) ["thing", "many"]
  d_holds_text : DefT K mg "holds_text" (top 20) ["holds"]
  d_need_text : DefT K mg "need_text" (top 22) ["thing"]
  d_stretch_in : DefT K mg "stretch_in" (top 24) ["word"]
  d_read_holds : DefT K mg "read_holds" (top 25) ["text"]
  d_is_row : DefT K mg "is_row" (top 8) ["thing"]
  d_need_row : DefT K mg "need_row" (top 9) ["thing"]
  d_number_text : DefT K mg "number_text" (top 18) ["number"]
  d_row_text : DefT K mg "row_text" (top 19) ["row"]
  d_number_in : DefT K mg "number_in" (top 21) ["word"]
  d_read_row : DefT K mg "read_row" (top 23) ["text"]
  d__law_figures : DefT K mg "_law_figures" (top 33) ["number"]
  d__law_same : DefT K mg "_law_same" (top 35) ["found", "due"]
  d__law_row_right : DefT K mg "_law_row_right" (top 36) ["row"]
  d__law_holds_written : DefT K mg "_law_holds_written" (top 34) ["holds"]
  d__law_holds_right : DefT K mg "_law_holds_right" (top 37) ["holds"]
  d__law_row : DefT K mg "_law_row" (top 29) ["well", "many"]
  d_law : DefT K mg "law" (top 38) ["script"]
def b__law_well : SV := (sSeq (sIf (cChainB (cVar 0) [(.GtE, (cBin .Pow (cC (.int 10)) (cC (.int 18))))]) (sRet (cLst [(cVar 0), (cBin .Mod (cVar 0) (cC (.int 2147483629)))])) sSkip) (sRet (cLst [(cC (.int 0)), (cBin .Mod (cVar 0) (cC (.int 2147483629)))])))
def f__law_well : List Sl → Out R := defD 0 b__law_well
theorem sc__law_well : FnScope ["cell"] ["cell"] (defScope (top 27)) := (C8.fnScope_by rfl)
theorem c__law_well {P : Program} {w : World} {K : PySem.W.Frag} {mg : Str → Option Value} {base : Heap} (G : Gx K mg)  : CalD P w K mg base 1 "_law_well" ["cell"] f__law_well := by
  refine cal_ok (st := top 27) (N := ["cell"]) (ps := ["cell"]) (k := 0) G.d__law_well sc__law_well rfl ?_
  intro f cdv A outer s H E hr
  have hu := room_units hr
  have hp := @owns_body (L2.CX P w) P w K mg base ["cell"] "_law_well" (defScope (top 27)) f cdv A outer s H E
  exact (pssd_cons (psd_if (pb_chain hu (pd_v rfl) (Lnk.one (pd_bin pd_int pd_int)) rfl) (pssd_one (psd_ret (pd_lst (PAs.cons (pd_v rfl) (fun _ => rfl) (PAs.cons (pd_bin (pd_v rfl) pd_int) (fun _ => rfl) PAs.nil))))) pssd_nil)
    (pssd_one (psd_ret (pd_lst (PAs.cons pd_int (fun _ => rfl) (PAs.cons (pd_bin (pd_v rfl) pd_int) (fun _ => rfl) PAs.nil))))))
def b__law_draw : SV := (sSeq (sIf (cChainB (cIx (cVar 0) (cC (.int 0))) [(.Gt, (cC (.int 0)))]) (sSeq (sAsg (cBin .Mod (cIx (cVar 0) (cC (.int 0))) (cVar 1)) (gN 3)) (sSeq (sAsg (cBin .FloorDiv (cIx (cVar 0) (cC (.int 0))) (cVar 1)) (gSubD 0 (cC (.int 0)))) (sRet (cVar 3)))) sSkip) (sSeq (sAsg (cBin .Mod (cBin .Add (cBin .Mult (cIx (cVar 0) (cC (.int 1))) (cC (.int 48271))) (cC (.int 11))) (cC (.int 2147483647))) (gN 2)) (sSeq (sAsg (cBin .Mod (cBin .Mult (cVar 2) (cVar 2)) (cC (.int 2147483587))) (gN 2)) (sSeq (sAsg (cBin .Mod (cBin .Add (cBin .Mult (cVar 2) (cC (.int 69621))) (cC (.int 40692))) (cC (.int 2147483629))) (gSubD 0 (cC (.int 1)))) (sRet (cBin .Mod (cBin .FloorDiv (cIx (cVar 0) (cC (.int 1))) (cC (.int 8))) (cVar 1)))))))
def f__law_draw : List Sl → Out R := defD 2 b__law_draw
theorem sc__law_draw : FnScope ["well", "many", "stirred", "got"] ["well", "many"] (defScope (top 28)) := (C8.fnScope_by rfl)
theorem c__law_draw {P : Program} {w : World} {K : PySem.W.Frag} {mg : Str → Option Value} {base : Heap} (G : Gx K mg)  : CalD P w K mg base 1 "_law_draw" ["well", "many"] f__law_draw := by
  refine cal_ok (st := top 28) (N := ["well", "many", "stirred", "got"]) (ps := ["well", "many"]) (k := 0) G.d__law_draw sc__law_draw rfl ?_
  intro f cdv A outer s H E hr
  have hu := room_units hr
  have hp := @owns_body (L2.CX P w) P w K mg base ["well", "many", "stirred", "got"] "_law_draw" (defScope (top 28)) f cdv A outer s H E
  exact (pssd_cons (psd_if (pb_chain hu (pd_ix (pd_v rfl) pd_int (fun _ _ => rfl)) (Lnk.one pd_int) rfl) (pssd_cons (psd_s sc__law_draw.nd rfl (pd_bin (pd_ix (pd_v rfl) pd_int (fun _ _ => rfl)) (pd_v rfl)) rfl)
    (pssd_cons (psd_asg (vs := []) (pd_bin (pd_ix (pd_v rfl) pd_int (fun _ _ => rfl)) (pd_v rfl)) (pgd_sb rfl pd_int (fun _ => rfl)) rfl rfl rfl)
    (pssd_one (psd_ret (pd_v rfl))))) pssd_nil)
    (pssd_cons (psd_s sc__law_draw.nd rfl (pd_bin (pd_bin (pd_bin (pd_ix (pd_v rfl) pd_int (fun _ _ => rfl)) pd_int) pd_int) pd_int) rfl)
    (pssd_cons (psd_s sc__law_draw.nd rfl (pd_bin (pd_bin (pd_v rfl) (pd_v rfl)) pd_int) rfl)
    (pssd_cons (psd_asg (vs := []) (pd_bin (pd_bin (pd_bin (pd_v rfl) pd_int) pd_int) pd_int) (pgd_sb rfl pd_int (fun _ => rfl)) rfl rfl rfl)
    (pssd_one (psd_ret (pd_bin (pd_bin (pd_ix (pd_v rfl) pd_int (fun _ _ => rfl)) pd_int) (pd_v rfl))))))))
def b__law_stretch : SV := (sSeq (sAsg (cCal f__law_draw [true, false] [(cVar 0), (cBin .Sub (cVar 1) (cC (.int 1)))]) (gN 2)) (sRet (cTup [(cVar 2), (cBin .Add (cBin .Add (cVar 2) (cC (.int 1))) (cCal f__law_draw [true, false] [(cVar 0), (cBin .Sub (cBin .Sub (cVar 1) (cC (.int 1))) (cVar 2))]))])))
def f__law_stretch : List Sl → Out R := defD 1 b__law_stretch
theorem sc__law_stretch : FnScope ["well", "many", "i"] ["well", "many"] (defScope (top 31)) := (C8.fnScope_by rfl)
theorem c__law_stretch {P : Program} {w : World} {K : PySem.W.Frag} {mg : Str → Option Value} {base : Heap} (G : Gx K mg) (c__law_draw : CalD P w K mg base 1 "_law_draw" ["well", "many"] f__law_draw) : CalD P w K mg base 2 "_law_stretch" ["well", "many"] f__law_stretch := by
  refine cal_ok (st := top 31) (N := ["well", "many", "i"]) (ps := ["well", "many"]) (k := 1) G.d__law_stretch sc__law_stretch rfl ?_
  intro f cdv A outer s H E hr
  have hu := room_units hr
  have hp := @owns_body (L2.CX P w) P w K mg base ["well", "many", "i"] "_law_stretch" (defScope (top 31)) f cdv A outer s H E
  exact (pssd_cons (psd_s sc__law_stretch.nd rfl (pd_cal takes_body c__law_draw rfl hr (by decide) rfl (PAs.cons (pd_v rfl) (fun _ => rfl) (PAs.cons (pd_bin (pd_v rfl) pd_int) (fun _ => rfl) PAs.nil)) rfl) rfl)
    (pssd_one (psd_ret (pd_tup (PAs.cons (pd_v rfl) (fun _ => rfl) (PAs.cons (pd_bin (pd_bin (pd_v rfl) pd_int) (pd_cal takes_body c__law_draw rfl hr (by decide) rfl (PAs.cons (pd_v rfl) (fun _ => rfl) (PAs.cons (pd_bin (pd_bin (pd_v rfl) pd_int) (pd_v rfl)) (fun _ => rfl) PAs.nil)) rfl)) (fun _ => rfl) PAs.nil))))))
def b__law_holds : SV := (sSeq (sAsg (cLst []) (gN 2)) (sSeq (sFor (iFn rngIt1 [(cC (.int 2))]) (gN 3) (sSeq (sAsg (cLst []) (gN 4)) (sSeq (sIf (cChainB (cVar 1) [(.Gt, (cC (.int 1)))]) (sAsg (cLC (iFn rngIt1 [(cIx (cLst [(cC (.int 0)), (cC (.int 1)), (cC (.int 2)), (cCal f__law_draw [true, false] [(cVar 0), (cC (.int 7))])]) (cCal f__law_draw [true, false] [(cVar 0), (cC (.int 4))]))]) (gN 5) tYesB (cCal f__law_stretch [true, false] [(cVar 0), (cVar 1)]) [5]) (gN 4)) sSkip) (sExpr (cMu "list" appendD 2 [(cBin .Add (cVar 4) (cSl (cVar 4) none (some (cFn intD [(asV (cChainB (cCal f__law_draw [true, false] [(cVar 0), (cC (.int 4))]) [(.Eq, (cC (.int 0)))]))]))))]))))) (sRet (cTup [(cIx (cVar 2) (cC (.int 0))), (cIx (cVar 2) (cC (.int 1)))]))))
def f__law_holds : List Sl → Out R := defD 4 b__law_holds
theorem sc__law_holds : FnScope ["well", "many", "found", "k", "some", "turn"] ["well", "many"] (defScope (top 32)) := (C8.fnScope_by rfl)
theorem c__law_holds {P : Program} {w : World} {K : PySem.W.Frag} {mg : Str → Option Value} {base : Heap} (G : Gx K mg) (c__law_draw : CalD P w K mg base 1 "_law_draw" ["well", "many"] f__law_draw) (c__law_stretch : CalD P w K mg base 2 "_law_stretch" ["well", "many"] f__law_stretch) : CalD P w K mg base 3 "_law_holds" ["well", "many"] f__law_holds := by
  refine cal_ok (st := top 32) (N := ["well", "many", "found", "k", "some", "turn"]) (ps := ["well", "many"]) (k := 2) G.d__law_holds sc__law_holds rfl ?_
  intro f cdv A outer s H E hr
  have hu := room_units hr
  have hp := @owns_body (L2.CX P w) P w K mg base ["well", "many", "found", "k", "some", "turn"] "_law_holds" (defScope (top 32)) f cdv A outer s H E
  exact (pssd_cons (psd_s sc__law_holds.nd rfl (pd_lst PAs.nil) rfl)
    (pssd_cons (psd_for (vs := [3]) hp rfl (pid_rng1 rfl G.z_range (PAs.cons pd_int (fun _ => rfl) PAs.nil) (fun _ => rfl)) (pgd_n sc__law_holds.nd rfl) (pssd_cons (psd_s sc__law_holds.nd rfl (pd_lst PAs.nil) rfl)
    (pssd_cons (psd_if (pb_chain hu (pd_v rfl) (Lnk.one pd_int) rfl) (pssd_one (psd_setLcv (own := [((Str.ofString "turn"), 5)]) rfl sc__law_holds.nd rfl rfl rfl rfl (pid_rng1 rfl G.z_range (PAs.cons (pd_ix (pd_lst (PAs.cons pd_int (fun _ => rfl) (PAs.cons pd_int (fun _ => rfl) (PAs.cons pd_int (fun _ => rfl) (PAs.cons (pd_cal takes_body c__law_draw rfl hr (by decide) rfl (PAs.cons (pd_v rfl) (fun _ => rfl) (PAs.cons pd_int (fun _ => rfl) PAs.nil)) rfl) (fun _ => rfl) PAs.nil))))) (pd_cal takes_body c__law_draw rfl hr (by decide) rfl (PAs.cons (pd_v rfl) (fun _ => rfl) (PAs.cons pd_int (fun _ => rfl) PAs.nil)) rfl) (fun _ _ => rfl)) (fun _ => rfl) PAs.nil) (fun _ => rfl)) (blkOk_by rfl) (fun _ _ _ _ _ => (pgd_n sc__law_holds.nd rfl)) (fun _ _ _ _ _ => pts0) (fun _ _ _ _ _ => (pd_cal takes0 c__law_stretch rfl hr (by decide) rfl (PAs.cons (pd_v rfl) (fun _ => rfl) (PAs.cons (pd_v rfl) (fun _ => rfl) PAs.nil)) rfl)) (fun _ => rfl))) pssd_nil)
    (pssd_one (psd_expr (pd_m F.plainAttrs_list F.slot_list_append F.type_list_append mu_append rfl (PAs.cons (pd_bin (pd_v rfl) (pd_slice (pd_v rfl) PPart.none (PPart.some (pd_ft call_intD rfl G.z_int rfl (PAs.cons (pd_chain hu (pd_cal takes_body c__law_draw rfl hr (by decide) rfl (PAs.cons (pd_v rfl) (fun _ => rfl) (PAs.cons pd_int (fun _ => rfl) PAs.nil)) rfl) (Lnk.one pd_int) rfl) (fun _ => rfl) PAs.nil) rfl rfl)))) (fun _ => rfl) PAs.nil) (by decide) rfl rfl) rfl)))) (fun _ => rfl))
    (pssd_one (psd_ret (pd_tup (PAs.cons (pd_ix (pd_v rfl) pd_int (fun _ _ => rfl)) (fun _ => rfl) (PAs.cons (pd_ix (pd_v rfl) pd_int (fun _ _ => rfl)) (fun _ => rfl) PAs.nil)))))))
def b_is_whole : SV := (sRet (cAndsV [(cIsi ["int"] (cVar 0)), (cNotV (cIsi ["bool"] (cVar 0)))]))
def f_is_whole : List Sl → Out R := defD 0 b_is_whole
theorem sc_is_whole : FnScope ["thing"] ["thing"] (defScope (top 7)) := (C8.fnScope_by rfl)
theorem c_is_whole {P : Program} {w : World} {K : PySem.W.Frag} {mg : Str → Option Value} {base : Heap} (G : Gx K mg)  : CalD P w K mg base 1 "is_whole" ["thing"] f_is_whole := by
  refine cal_ok (st := top 7) (N := ["thing"]) (ps := ["thing"]) (k := 0) G.d_is_whole sc_is_whole rfl ?_
  intro f cdv A outer s H E hr
  have hu := room_units hr
  have hp := @owns_body (L2.CX P w) P w K mg base ["thing"] "is_whole" (defScope (top 7)) f cdv A outer s H E
  exact (pssd_one (psd_ret (pd_ands (PDs.cons (pd_isi (pd_v rfl) (ClsE.one (pe_ty rfl G.z_int rfl rfl rfl)) rfl G.z_isinstance (fun _ => rfl) (fun _ => rfl)) (PDs.one (pd_not (pd_isi (pd_v rfl) (ClsE.one (pe_ty rfl G.z_bool rfl rfl rfl)) rfl G.z_isinstance (fun _ => rfl) (fun _ => rfl))))))))
def b_is_stretch : SV := (sSeq (sIf (cOrs [(cNot (cTru (cIsi ["tuple"] (cVar 0)))), (cChainB (cFn lenD [(cVar 0)]) [(.NotEq, (cC (.int 2)))]), (cNot (cTru (cCal f_is_whole [false] [(cIx (cVar 0) (cC (.int 0)))]))), (cNot (cTru (cCal f_is_whole [false] [(cIx (cVar 0) (cC (.int 1)))])))]) (sRet (cC (.bl false))) sSkip) (sRet (asV (cChainB (cC (.int 0)) [(.LtE, (cIx (cVar 0) (cC (.int 0)))), (.Lt, (cIx (cVar 0) (cC (.int 1)))), (.Lt, (cVar 1))]))))
def f_is_stretch : List Sl → Out R := defD 0 b_is_stretch
theorem sc_is_stretch : FnScope ["thing", "many"] ["thing", "many"] (defScope (top 13)) := (C8.fnScope_by rfl)
theorem c_is_stretch {P : Program} {w : World} {K : PySem.W.Frag} {mg : Str → Option Value} {base : Heap} (G : Gx K mg) (c_is_whole : CalD P w K mg base 1 "is_whole" ["thing"] f_is_whole) : CalD P w K mg base 2 "is_stretch" ["thing", "many"] f_is_stretch := by
  refine cal_ok (st := top 13) (N := ["thing", "many"]) (ps := ["thing", "many"]) (k := 1) G.d_is_stretch sc_is_stretch rfl ?_
  intro f cdv A outer s H E hr
  have hu := room_units hr
  have hp := @owns_body (L2.CX P w) P w K mg base ["thing", "many"] "is_stretch" (defScope (top 13)) f cdv A outer s H E
  exact (pssd_cons (psd_if (pb_ors (PBs.cons (pb_not (pb_tru (pd_isi (pd_v rfl) (ClsE.one (pe_ty rfl G.z_tuple rfl rfl rfl)) rfl G.z_isinstance (fun _ => rfl) (fun _ => rfl)) (fun _ => rfl))) (PBs.cons (pb_chain hu (pd_f call_lenD rfl G.z_len rfl (PAs.cons (pd_v rfl) (fun _ => rfl) PAs.nil) rfl rfl) (Lnk.one pd_int) rfl) (PBs.cons (pb_not (pb_tru (pd_cal takes_body c_is_whole rfl hr (by decide) rfl (PAs.cons (pd_ix (pd_v rfl) pd_int (fun _ _ => rfl)) (fun _ => rfl) PAs.nil) rfl) (fun _ => rfl))) (PBs.one (pb_not (pb_tru (pd_cal takes_body c_is_whole rfl hr (by decide) rfl (PAs.cons (pd_ix (pd_v rfl) pd_int (fun _ _ => rfl)) (fun _ => rfl) PAs.nil) rfl) (fun _ => rfl)))))))) (pssd_one (psd_ret pd_bl)) pssd_nil)
    (pssd_one (psd_ret (pd_chain hu pd_int (Lnk.cons (pd_ix (pd_v rfl) pd_int (fun _ _ => rfl)) (Lnk.cons (pd_ix (pd_v rfl) pd_int (fun _ _ => rfl)) (Lnk.one (pd_v rfl)))) rfl))))
def b_is_holds : SV := (sSeq (sIf (cOrs [(cNot (cTru (cCal f_is_whole [false] [(cVar 1)]))), (cNot (cChainB (cC (.int 1)) [(.LtE, (cVar 1)), (.LtE, (cC (.int 9)))]))]) (sRet (cC (.bl false))) sSkip) (sSeq (sIf (cOrs [(cNot (cTru (cIsi ["tuple"] (cVar 0)))), (cChainB (cFn lenD [(cVar 0)]) [(.NotEq, (cC (.int 2)))])]) (sRet (cC (.bl false))) sSkip) (sSeq (sFor (iAny (cVar 0)) (gN 2) (sSeq (sIf (cOrs [(cNot (cTru (cIsi ["list"] (cVar 2)))), (cChainB (cFn lenD [(cVar 2)]) [(.Gt, (cC (.int 40)))])]) (sRet (cC (.bl false))) sSkip) (sIf (cChainB (cLC (iAny (cVar 2)) (gN 3) (cNot (cTru (cCal f_is_stretch [false, false] [(cVar 3), (cVar 1)]))) (cVar 3) [3]) [(.NotEq, (cLst []))]) (sRet (cC (.bl false))) sSkip))) (sRet (cC (.bl true))))))
def f_is_holds : List Sl → Out R := defD 2 b_is_holds
theorem sc_is_holds : FnScope ["thing", "many", "some", "one"] ["thing", "many"] (defScope (top 14)) := (C8.fnScope_by rfl)
theorem c_is_holds {P : Program} {w : World} {K : PySem.W.Frag} {mg : Str → Option Value} {base : Heap} (G : Gx K mg) (c_is_whole : CalD P w K mg base 1 "is_whole" ["thing"] f_is_whole) (c_is_stretch : CalD P w K mg base 2 "is_stretch" ["thing", "many"] f_is_stretch) : CalD P w K mg base 3 "is_holds" ["thing", "many"] f_is_holds := by
  refine cal_ok (st := top 14) (N := ["thing", "many", "some", "one"]) (ps := ["thing", "many"]) (k := 2) G.d_is_holds sc_is_holds rfl ?_
  intro f cdv A outer s H E hr
  have hu := room_units hr
  have hp := @owns_body (L2.CX P w) P w K mg base ["thing", "many", "some", "one"] "is_holds" (defScope (top 14)) f cdv A outer s H E
  exact (pssd_cons (psd_if (pb_ors (PBs.cons (pb_not (pb_tru (pd_cal takes_body c_is_whole rfl hr (by decide) rfl (PAs.cons (pd_v rfl) (fun _ => rfl) PAs.nil) rfl) (fun _ => rfl))) (PBs.one (pb_not (pb_chain hu pd_int (Lnk.cons (pd_v rfl) (Lnk.one (pd_gl rfl G.g_MOST_NUMBERS_held (fun _ => rfl) rfl))) rfl))))) (pssd_one (psd_ret pd_bl)) pssd_nil)
    (pssd_cons (psd_if (pb_ors (PBs.cons (pb_not (pb_tru (pd_isi (pd_v rfl) (ClsE.one (pe_ty rfl G.z_tuple rfl rfl rfl)) rfl G.z_isinstance (fun _ => rfl) (fun _ => rfl)) (fun _ => rfl))) (PBs.one (pb_chain hu (pd_f call_lenD rfl G.z_len rfl (PAs.cons (pd_v rfl) (fun _ => rfl) PAs.nil) rfl rfl) (Lnk.one pd_int) rfl)))) (pssd_one (psd_ret pd_bl)) pssd_nil)
    (pssd_cons (psd_for (vs := [2]) hp rfl (pi_any (pd_v rfl)) (pgd_n sc_is_holds.nd rfl) (pssd_cons (psd_if (pb_ors (PBs.cons (pb_not (pb_tru (pd_isi (pd_v rfl) (ClsE.one (pe_ty rfl G.z_list rfl rfl rfl)) rfl G.z_isinstance (fun _ => rfl) (fun _ => rfl)) (fun _ => rfl))) (PBs.one (pb_chain hu (pd_f call_lenD rfl G.z_len rfl (PAs.cons (pd_v rfl) (fun _ => rfl) PAs.nil) rfl rfl) (Lnk.one (pd_gl rfl G.g_MOST_STRETCHES (fun _ => rfl) rfl)) rfl)))) (pssd_one (psd_ret pd_bl)) pssd_nil)
    (pssd_one (psd_if (pb_chain hu (pd_lcv (own := [((Str.ofString "one"), 3)]) rfl sc_is_holds.nd rfl (pi_any (pd_v rfl)) (blkOk_by rfl) (fun _ _ _ _ _ => (pgd_n sc_is_holds.nd rfl)) (fun _ _ _ _ _ => (pts1 (pb_not (pb_tru (pd_cal takes0 c_is_stretch rfl hr (by decide) rfl (PAs.cons (pd_v rfl) (fun _ => rfl) (PAs.cons (pd_v rfl) (fun _ => rfl) PAs.nil)) rfl) (fun _ => rfl))))) (fun _ _ _ _ _ => (pd_v rfl)) (fun _ => rfl)) (Lnk.one (pd_lst PAs.nil)) rfl) (pssd_one (psd_ret pd_bl)) pssd_nil))) (fun _ => rfl))
    (pssd_one (psd_ret pd_bl)))))
def b_holds_text : SV := (sSeq (sIf (cNot (cTru (cCal f_is_holds [false, false] [(cVar 0), (cC (.int 9))]))) (sRaise (Str.ofString "NoHolds")) sSkip) (sSeq (sAsg (cLC (iAny (cVar 0)) (gN 3) tYesB (cLC (iAny (cVar 3)) (gT [(gN 4), (gN 5)]) tYesB (cBin .Add (cBin .Add (cFn strD [(cVar 4)]) (cC (.str (Str.ofString "-")))) (cFn strD [(cVar 5)])) [4, 5]) [3]) (gT [(gN 1), (gN 2)])) (sRet (cMt "str" joinD (cC (.str (Str.ofString " "))) [(cBin .Add (cBin .Add (cVar 1) (cLst [(cC (.str (Str.ofString "/")))])) (cVar 2))]))))
def f_holds_text : List Sl → Out R := defD 5 b_holds_text
theorem sc_holds_text : FnScope ["holds", "held", "barred", "some", "i", "j"] ["holds"] (defScope (top 20)) := (C8.fnScope_by rfl)
theorem c_holds_text {P : Program} {w : World} {K : PySem.W.Frag} {mg : Str → Option Value} {base : Heap} (G : Gx K mg) (c_is_holds : CalD P w K mg base 3 "is_holds" ["thing", "many"] f_is_holds) : CalD P w K mg base 4 "holds_text" ["holds"] f_holds_text := by
  refine cal_ok (st := top 20) (N := ["holds", "held", "barred", "some", "i", "j"]) (ps := ["holds"]) (k := 3) G.d_holds_text sc_holds_text rfl ?_
  intro f cdv A outer s H E hr
  have hu := room_units hr
  have hp := @owns_body (L2.CX P w) P w K mg base ["holds", "held", "barred", "some", "i", "j"] "holds_text" (defScope (top 20)) f cdv A outer s H E
  exact (pssd_cons (psd_if (pb_not (pb_tru (pd_cal takes_body c_is_holds rfl hr (by decide) rfl (PAs.cons (pd_v rfl) (fun _ => rfl) (PAs.cons (pd_gl rfl G.g_MOST_NUMBERS_texts (fun _ => rfl) rfl) (fun _ => rfl) PAs.nil)) rfl) (fun _ => rfl))) (pssd_one (psd_raiseT rfl takes_body F.excBase_ValueError G.e_NoHolds rfl rfl)) pssd_nil)
    (pssd_cons (psd_asg (vs := [1, 2]) (pd_lcv (own := [((Str.ofString "some"), 3)]) rfl sc_holds_text.nd rfl (pi_any (pd_v rfl)) (blkOk_by rfl) (fun _ _ _ _ _ => (pgd_n sc_holds_text.nd rfl)) (fun _ _ _ _ _ => pts0) (fun _ _ _ _ _ => (pd_lcv (own := [((Str.ofString "i"), 4), ((Str.ofString "j"), 5)]) rfl sc_holds_text.nd rfl (pi_any (pd_v rfl)) (blkOk_by rfl) (fun _ _ _ _ _ => (pgd_tup rfl (pgl_cons (pgd_n sc_holds_text.nd rfl) rfl (pgl_cons (pgd_n sc_holds_text.nd rfl) rfl PGl.nil)))) (fun _ _ _ _ _ => pts0) (fun _ _ _ _ _ => (pd_bin (pd_bin (pd_ft call_strD rfl G.z_str rfl (PAs.cons (pd_v rfl) (fun _ => rfl) PAs.nil) rfl rfl) pd_str) (pd_ft call_strD rfl G.z_str rfl (PAs.cons (pd_v rfl) (fun _ => rfl) PAs.nil) rfl rfl))) (fun _ => rfl))) (fun _ => rfl)) (pgd_tup rfl (pgl_cons (pgd_n sc_holds_text.nd rfl) rfl (pgl_cons (pgd_n sc_holds_text.nd rfl) rfl PGl.nil))) rfl rfl rfl)
    (pssd_one (psd_ret (pd_mt F.plainAttrs_str F.slot_str_join F.type_str_join mt_joinD pd_str (PAs.cons (pd_bin (pd_bin (pd_v rfl) (pd_lst (PAs.cons pd_str (fun _ => rfl) PAs.nil))) (pd_v rfl)) (fun _ => rfl) PAs.nil) (by decide) rfl rfl)))))
def b_need_text : SV := (sIf (cNot (cTru (cIsi ["str"] (cVar 0)))) (sRaise (Str.ofString "NoText")) sSkip)
def f_need_text : List Sl → Out R := defD 0 b_need_text
theorem sc_need_text : FnScope ["thing"] ["thing"] (defScope (top 22)) := (C8.fnScope_by rfl)
theorem c_need_text {P : Program} {w : World} {K : PySem.W.Frag} {mg : Str → Option Value} {base : Heap} (G : Gx K mg)  : CalD P w K mg base 1 "need_text" ["thing"] f_need_text := by
  refine cal_ok (st := top 22) (N := ["thing"]) (ps := ["thing"]) (k := 0) G.d_need_text sc_need_text rfl ?_
  intro f cdv A outer s H E hr
  have hu := room_units hr
  have hp := @owns_body (L2.CX P w) P w K mg base ["thing"] "need_text" (defScope (top 22)) f cdv A outer s H E
  exact (pssd_one (psd_if (pb_not (pb_tru (pd_isi (pd_v rfl) (ClsE.one (pe_ty rfl G.z_str rfl rfl rfl)) rfl G.z_isinstance (fun _ => rfl) (fun _ => rfl)) (fun _ => rfl))) (pssd_one (psd_raiseT rfl takes_body F.excBase_ValueError G.e_NoText rfl rfl)) pssd_nil))
def b_stretch_in : SV := (sSeq (sAsg (cMt "str" splitD (cVar 0) [(cC (.str (Str.ofString "-")))]) (gN 1)) (sSeq (sIf (cOrs [(cChainB (cFn lenD [(cVar 1)]) [(.NotEq, (cC (.int 2)))]), (cChainB (cLC (iAny (cVar 1)) (gN 2) (cOrs [(cChainB (cFn lenD [(cVar 2)]) [(.NotEq, (cC (.int 1)))]), (cChainB (cVar 2) [(.NotIn, (cC (.str (Str.ofString "0123456789"))))])]) (cVar 2) [2]) [(.NotEq, (cLst []))])]) (sRaise (Str.ofString "NoText")) sSkip) (sRet (cTup [(cFn intD [(cIx (cVar 1) (cC (.int 0)))]), (cFn intD [(cIx (cVar 1) (cC (.int 1)))])]))))
def f_stretch_in : List Sl → Out R := defD 2 b_stretch_in
theorem sc_stretch_in : FnScope ["word", "parts", "part"] ["word"] (defScope (top 24)) := (C8.fnScope_by rfl)
theorem c_stretch_in {P : Program} {w : World} {K : PySem.W.Frag} {mg : Str → Option Value} {base : Heap} (G : Gx K mg)  : CalD P w K mg base 1 "stretch_in" ["word"] f_stretch_in := by
  refine cal_ok (st := top 24) (N := ["word", "parts", "part"]) (ps := ["word"]) (k := 0) G.d_stretch_in sc_stretch_in rfl ?_
  intro f cdv A outer s H E hr
  have hu := room_units hr
  have hp := @owns_body (L2.CX P w) P w K mg base ["word", "parts", "part"] "stretch_in" (defScope (top 24)) f cdv A outer s H E
  exact (pssd_cons (psd_s sc_stretch_in.nd rfl (pd_mt F.plainAttrs_str F.slot_str_split F.type_str_split mt_splitD (pd_v rfl) (PAs.cons pd_str (fun _ => rfl) PAs.nil) (by decide) rfl rfl) rfl)
    (pssd_cons (psd_if (pb_ors (PBs.cons (pb_chain hu (pd_f call_lenD rfl G.z_len rfl (PAs.cons (pd_v rfl) (fun _ => rfl) PAs.nil) rfl rfl) (Lnk.one pd_int) rfl) (PBs.one (pb_chain hu (pd_lcv (own := [((Str.ofString "part"), 2)]) rfl sc_stretch_in.nd rfl (pi_any (pd_v rfl)) (blkOk_by rfl) (fun _ _ _ _ _ => (pgd_n sc_stretch_in.nd rfl)) (fun _ _ _ _ _ => (pts1 (pb_ors (PBs.cons (pb_chain hu (pd_f call_lenD rfl G.z_len rfl (PAs.cons (pd_v rfl) (fun _ => rfl) PAs.nil) rfl rfl) (Lnk.one pd_int) rfl) (PBs.one (pb_chain hu (pd_v rfl) (Lnk.one (pd_gl rfl G.g_FIGURES (fun _ => rfl) rfl)) rfl)))))) (fun _ _ _ _ _ => (pd_v rfl)) (fun _ => rfl)) (Lnk.one (pd_lst PAs.nil)) rfl)))) (pssd_one (psd_raiseT rfl takes_body F.excBase_ValueError G.e_NoText rfl rfl)) pssd_nil)
    (pssd_one (psd_ret (pd_tup (PAs.cons (pd_ft call_intD rfl G.z_int rfl (PAs.cons (pd_ix (pd_v rfl) pd_int (fun _ _ => rfl)) (fun _ => rfl) PAs.nil) rfl rfl) (fun _ => rfl) (PAs.cons (pd_ft call_intD rfl G.z_int rfl (PAs.cons (pd_ix (pd_v rfl) pd_int (fun _ _ => rfl)) (fun _ => rfl) PAs.nil) rfl rfl) (fun _ => rfl) PAs.nil)))))))
def b_read_holds : SV := (sSeq (sExpr (cCal f_need_text [false] [(cVar 0)])) (sSeq (sAsg (cMt "str" splitD (cVar 0) [(cC (.str (Str.ofString " ")))]) (gN 1)) (sSeq (sIf (cChainB (cMt "list" countD (cVar 1) [(cC (.str (Str.ofString "/")))]) [(.NotEq, (cC (.int 1)))]) (sRaise (Str.ofString "NoText")) sSkip) (sSeq (sAsg (cMt "list" indexD (cVar 1) [(cC (.str (Str.ofString "/")))]) (gN 2)) (sSeq (sAsg (cTup [(cLC (iAny (cSl (cVar 1) none (some (cVar 2)))) (gN 4) tYesB (cCal f_stretch_in [false] [(cVar 4)]) [4]), (cLC (iAny (cSl (cVar 1) (some (cBin .Add (cVar 2) (cC (.int 1)))) none)) (gN 4) tYesB (cCal f_stretch_in [false] [(cVar 4)]) [4])]) (gN 3)) (sSeq (sIf (cNot (cTru (cCal f_is_holds [false, false] [(cVar 3), (cC (.int 9))]))) (sRaise (Str.ofString "NoText")) sSkip) (sRet (cVar 3))))))))
def f_read_holds : List Sl → Out R := defD 4 b_read_holds
theorem sc_read_holds : FnScope ["text", "words", "at", "holds", "word"] ["text"] (defScope (top 25)) := (C8.fnScope_by rfl)
theorem c_read_holds {P : Program} {w : World} {K : PySem.W.Frag} {mg : Str → Option Value} {base : Heap} (G : Gx K mg) (c_need_text : CalD P w K mg base 1 "need_text" ["thing"] f_need_text) (c_stretch_in : CalD P w K mg base 1 "stretch_in" ["word"] f_stretch_in) (c_is_holds : CalD P w K mg base 3 "is_holds" ["thing", "many"] f_is_holds) : CalD P w K mg base 4 "read_holds" ["text"] f_read_holds := by
  refine cal_ok (st := top 25) (N := ["text", "words", "at", "holds", "word"]) (ps := ["text"]) (k := 3) G.d_read_holds sc_read_holds rfl ?_
  intro f cdv A outer s H E hr
  have hu := room_units hr
  have hp := @owns_body (L2.CX P w) P w K mg base ["text", "words", "at", "holds", "word"] "read_holds" (defScope (top 25)) f cdv A outer s H E
  exact (pssd_cons (psd_expr (pd_cal takes_body c_need_text rfl hr (by decide) rfl (PAs.cons (pd_v rfl) (fun _ => rfl) PAs.nil) rfl) rfl)
    (pssd_cons (psd_s sc_read_holds.nd rfl (pd_mt F.plainAttrs_str F.slot_str_split F.type_str_split mt_splitD (pd_v rfl) (PAs.cons pd_str (fun _ => rfl) PAs.nil) (by decide) rfl rfl) rfl)
    (pssd_cons (psd_if (pb_chain hu (pd_mt F.plainAttrs_list F.slot_list_count F.type_list_count (mt_countD' hu) (pd_v rfl) (PAs.cons pd_str (fun _ => rfl) PAs.nil) (by decide) rfl rfl) (Lnk.one pd_int) rfl) (pssd_one (psd_raiseT rfl takes_body F.excBase_ValueError G.e_NoText rfl rfl)) pssd_nil)
    (pssd_cons (psd_s sc_read_holds.nd rfl (pd_mt F.plainAttrs_list F.slot_list_index F.type_list_index (mt_indexD' hu) (pd_v rfl) (PAs.cons pd_str (fun _ => rfl) PAs.nil) (by decide) rfl rfl) rfl)
    (pssd_cons (psd_s sc_read_holds.nd rfl (pd_tup (PAs.cons (pd_lcv (own := [((Str.ofString "word"), 4)]) rfl sc_read_holds.nd rfl (pi_any (pd_slice (pd_v rfl) PPart.none (PPart.some (pd_v rfl)))) (blkOk_by rfl) (fun _ _ _ _ _ => (pgd_n sc_read_holds.nd rfl)) (fun _ _ _ _ _ => pts0) (fun _ _ _ _ _ => (pd_cal takes0 c_stretch_in rfl hr (by decide) rfl (PAs.cons (pd_v rfl) (fun _ => rfl) PAs.nil) rfl)) (fun _ => rfl)) (fun _ => rfl) (PAs.cons (pd_lcv (own := [((Str.ofString "word"), 4)]) rfl sc_read_holds.nd rfl (pi_any (pd_slice (pd_v rfl) (PPart.some (pd_bin (pd_v rfl) pd_int)) PPart.none)) (blkOk_by rfl) (fun _ _ _ _ _ => (pgd_n sc_read_holds.nd rfl)) (fun _ _ _ _ _ => pts0) (fun _ _ _ _ _ => (pd_cal takes0 c_stretch_in rfl hr (by decide) rfl (PAs.cons (pd_v rfl) (fun _ => rfl) PAs.nil) rfl)) (fun _ => rfl)) (fun _ => rfl) PAs.nil))) rfl)
    (pssd_cons (psd_if (pb_not (pb_tru (pd_cal takes_body c_is_holds rfl hr (by decide) rfl (PAs.cons (pd_v rfl) (fun _ => rfl) (PAs.cons (pd_gl rfl G.g_MOST_NUMBERS_texts (fun _ => rfl) rfl) (fun _ => rfl) PAs.nil)) rfl) (fun _ => rfl))) (pssd_one (psd_raiseT rfl takes_body F.excBase_ValueError G.e_NoText rfl rfl)) pssd_nil)
    (pssd_one (psd_ret (pd_v rfl)))))))))
def b_is_row : SV := (sSeq (sIf (cOrs [(cNot (cTru (cIsi ["list"] (cVar 0)))), (cNot (cChainB (cC (.int 1)) [(.LtE, (cFn lenD [(cVar 0)])), (.LtE, (cC (.int 9)))]))]) (sRet (cC (.bl false))) sSkip) (sRet (asV (cChainB (cLC (iAny (cVar 0)) (gN 1) (cNot (cTru (cCal f_is_whole [false] [(cVar 1)]))) (cVar 1) [1]) [(.Eq, (cLst []))]))))
def f_is_row : List Sl → Out R := defD 1 b_is_row
theorem sc_is_row : FnScope ["thing", "one"] ["thing"] (defScope (top 8)) := (C8.fnScope_by rfl)
theorem c_is_row {P : Program} {w : World} {K : PySem.W.Frag} {mg : Str → Option Value} {base : Heap} (G : Gx K mg) (c_is_whole : CalD P w K mg base 1 "is_whole" ["thing"] f_is_whole) : CalD P w K mg base 2 "is_row" ["thing"] f_is_row := by
  refine cal_ok (st := top 8) (N := ["thing", "one"]) (ps := ["thing"]) (k := 1) G.d_is_row sc_is_row rfl ?_
  intro f cdv A outer s H E hr
  have hu := room_units hr
  have hp := @owns_body (L2.CX P w) P w K mg base ["thing", "one"] "is_row" (defScope (top 8)) f cdv A outer s H E
  exact (pssd_cons (psd_if (pb_ors (PBs.cons (pb_not (pb_tru (pd_isi (pd_v rfl) (ClsE.one (pe_ty rfl G.z_list rfl rfl rfl)) rfl G.z_isinstance (fun _ => rfl) (fun _ => rfl)) (fun _ => rfl))) (PBs.one (pb_not (pb_chain hu pd_int (Lnk.cons (pd_f call_lenD rfl G.z_len rfl (PAs.cons (pd_v rfl) (fun _ => rfl) PAs.nil) rfl rfl) (Lnk.one (pd_gl rfl G.g_MOST_NUMBERS_ways (fun _ => rfl) rfl))) rfl))))) (pssd_one (psd_ret pd_bl)) pssd_nil)
    (pssd_one (psd_ret (pd_chain hu (pd_lcv (own := [((Str.ofString "one"), 1)]) rfl sc_is_row.nd rfl (pi_any (pd_v rfl)) (blkOk_by rfl) (fun _ _ _ _ _ => (pgd_n sc_is_row.nd rfl)) (fun _ _ _ _ _ => (pts1 (pb_not (pb_tru (pd_cal takes0 c_is_whole rfl hr (by decide) rfl (PAs.cons (pd_v rfl) (fun _ => rfl) PAs.nil) rfl) (fun _ => rfl))))) (fun _ _ _ _ _ => (pd_v rfl)) (fun _ => rfl)) (Lnk.one (pd_lst PAs.nil)) rfl))))
def b_need_row : SV := (sIf (cNot (cTru (cCal f_is_row [false] [(cVar 0)]))) (sRaise (Str.ofString "NoRow")) sSkip)
def f_need_row : List Sl → Out R := defD 0 b_need_row
theorem sc_need_row : FnScope ["thing"] ["thing"] (defScope (top 9)) := (C8.fnScope_by rfl)
theorem c_need_row {P : Program} {w : World} {K : PySem.W.Frag} {mg : Str → Option Value} {base : Heap} (G : Gx K mg) (c_is_row : CalD P w K mg base 2 "is_row" ["thing"] f_is_row) : CalD P w K mg base 3 "need_row" ["thing"] f_need_row := by
  refine cal_ok (st := top 9) (N := ["thing"]) (ps := ["thing"]) (k := 2) G.d_need_row sc_need_row rfl ?_
  intro f cdv A outer s H E hr
  have hu := room_units hr
  have hp := @owns_body (L2.CX P w) P w K mg base ["thing"] "need_row" (defScope (top 9)) f cdv A outer s H E
  exact (pssd_one (psd_if (pb_not (pb_tru (pd_cal takes_body c_is_row rfl hr (by decide) rfl (PAs.cons (pd_v rfl) (fun _ => rfl) PAs.nil) rfl) (fun _ => rfl))) (pssd_one (psd_raiseT rfl takes_body F.excBase_ValueError G.e_NoRow rfl rfl)) pssd_nil))
def b_number_text : SV := (sRet (cBin .Add (cBin .Mult (cC (.str (Str.ofString "~"))) (cFn intD [(asV (cChainB (cVar 0) [(.Lt, (cC (.int 0)))]))])) (cFn strD [(cFn absD [(cVar 0)])])))
def f_number_text : List Sl → Out R := defD 0 b_number_text
theorem sc_number_text : FnScope ["number"] ["number"] (defScope (top 18)) := (C8.fnScope_by rfl)
theorem c_number_text {P : Program} {w : World} {K : PySem.W.Frag} {mg : Str → Option Value} {base : Heap} (G : Gx K mg)  : CalD P w K mg base 1 "number_text" ["number"] f_number_text := by
  refine cal_ok (st := top 18) (N := ["number"]) (ps := ["number"]) (k := 0) G.d_number_text sc_number_text rfl ?_
  intro f cdv A outer s H E hr
  have hu := room_units hr
  have hp := @owns_body (L2.CX P w) P w K mg base ["number"] "number_text" (defScope (top 18)) f cdv A outer s H E
  exact (pssd_one (psd_ret (pd_bin (pd_bin pd_str (pd_ft call_intD rfl G.z_int rfl (PAs.cons (pd_chain hu (pd_v rfl) (Lnk.one pd_int) rfl) (fun _ => rfl) PAs.nil) rfl rfl)) (pd_ft call_strD rfl G.z_str rfl (PAs.cons (pd_f call_absD rfl G.z_abs rfl (PAs.cons (pd_v rfl) (fun _ => rfl) PAs.nil) rfl rfl) (fun _ => rfl) PAs.nil) rfl rfl))))
def b_row_text : SV := (sSeq (sExpr (cCal f_need_row [false] [(cVar 0)])) (sRet (cMt "str" joinD (cC (.str (Str.ofString " "))) [(cLC (iAny (cVar 0)) (gN 1) tYesB (cCal f_number_text [false] [(cVar 1)]) [1])])))
def f_row_text : List Sl → Out R := defD 1 b_row_text
theorem sc_row_text : FnScope ["row", "number"] ["row"] (defScope (top 19)) := (C8.fnScope_by rfl)
theorem c_row_text {P : Program} {w : World} {K : PySem.W.Frag} {mg : Str → Option Value} {base : Heap} (G : Gx K mg) (c_need_row : CalD P w K mg base 3 "need_row" ["thing"] f_need_row) (c_number_text : CalD P w K mg base 1 "number_text" ["number"] f_number_text) : CalD P w K mg base 4 "row_text" ["row"] f_row_text := by
  refine cal_ok (st := top 19) (N := ["row", "number"]) (ps := ["row"]) (k := 3) G.d_row_text sc_row_text rfl ?_
  intro f cdv A outer s H E hr
  have hu := room_units hr
  have hp := @owns_body (L2.CX P w) P w K mg base ["row", "number"] "row_text" (defScope (top 19)) f cdv A outer s H E
  exact (pssd_cons (psd_expr (pd_cal takes_body c_need_row rfl hr (by decide) rfl (PAs.cons (pd_v rfl) (fun _ => rfl) PAs.nil) rfl) rfl)
    (pssd_one (psd_ret (pd_mt F.plainAttrs_str F.slot_str_join F.type_str_join mt_joinD pd_str (PAs.cons (pd_lcv (own := [((Str.ofString "number"), 1)]) rfl sc_row_text.nd rfl (pi_any (pd_v rfl)) (blkOk_by rfl) (fun _ _ _ _ _ => (pgd_n sc_row_text.nd rfl)) (fun _ _ _ _ _ => pts0) (fun _ _ _ _ _ => (pd_cal takes0 c_number_text rfl hr (by decide) rfl (PAs.cons (pd_v rfl) (fun _ => rfl) PAs.nil) rfl)) (fun _ => rfl)) (fun _ => rfl) PAs.nil) (by decide) rfl rfl))))
def b_number_in : SV := (sSeq (sAsg (cVar 0) (gN 1)) (sSeq (sIf (cChainB (cSl (cVar 0) none (some (cC (.int 1)))) [(.Eq, (cC (.str (Str.ofString "~"))))]) (sAsg (cSl (cVar 0) (some (cC (.int 1))) none) (gN 1)) sSkip) (sSeq (sIf (cOrs [(cChainB (cVar 1) [(.Eq, (cC (.str (Str.ofString ""))))]), (cChainB (cLC (iAny (cVar 1)) (gN 2) (cChainB (cVar 2) [(.NotIn, (cC (.str (Str.ofString "0123456789"))))]) (cVar 2) [2]) [(.NotEq, (cLst []))])]) (sRaise (Str.ofString "NoText")) sSkip) (sSeq (sIf (cAnds [(cChainB (cIx (cVar 1) (cC (.int 0))) [(.Eq, (cC (.str (Str.ofString "0"))))]), (cChainB (cVar 0) [(.NotEq, (cC (.str (Str.ofString "0"))))])]) (sRaise (Str.ofString "NoText")) sSkip) (sRet (cBin .Mult (cFn intD [(cVar 1)]) (cIx (cLst [(cC (.int 1)), (cNeg (cC (.int 1)))]) (cFn intD [(asV (cChainB (cIx (cVar 0) (cC (.int 0))) [(.Eq, (cC (.str (Str.ofString "~"))))]))]))))))))
def f_number_in : List Sl → Out R := defD 2 b_number_in
theorem sc_number_in : FnScope ["word", "figures", "sign"] ["word"] (defScope (top 21)) := (C8.fnScope_by rfl)
theorem c_number_in {P : Program} {w : World} {K : PySem.W.Frag} {mg : Str → Option Value} {base : Heap} (G : Gx K mg)  : CalD P w K mg base 1 "number_in" ["word"] f_number_in := by
  refine cal_ok (st := top 21) (N := ["word", "figures", "sign"]) (ps := ["word"]) (k := 0) G.d_number_in sc_number_in rfl ?_
  intro f cdv A outer s H E hr
  have hu := room_units hr
  have hp := @owns_body (L2.CX P w) P w K mg base ["word", "figures", "sign"] "number_in" (defScope (top 21)) f cdv A outer s H E
  exact (pssd_cons (psd_s sc_number_in.nd rfl (pd_v rfl) rfl)
    (pssd_cons (psd_if (pb_chain hu (pd_slice (pd_v rfl) PPart.none (PPart.some pd_int)) (Lnk.one pd_str) rfl) (pssd_one (psd_s sc_number_in.nd rfl (pd_slice (pd_v rfl) (PPart.some pd_int) PPart.none) rfl)) pssd_nil)
    (pssd_cons (psd_if (pb_ors (PBs.cons (pb_chain hu (pd_v rfl) (Lnk.one pd_str) rfl) (PBs.one (pb_chain hu (pd_lcv (own := [((Str.ofString "sign"), 2)]) rfl sc_number_in.nd rfl (pi_any (pd_v rfl)) (blkOk_by rfl) (fun _ _ _ _ _ => (pgd_n sc_number_in.nd rfl)) (fun _ _ _ _ _ => (pts1 (pb_chain hu (pd_v rfl) (Lnk.one (pd_gl rfl G.g_FIGURES (fun _ => rfl) rfl)) rfl))) (fun _ _ _ _ _ => (pd_v rfl)) (fun _ => rfl)) (Lnk.one (pd_lst PAs.nil)) rfl)))) (pssd_one (psd_raiseT rfl takes_body F.excBase_ValueError G.e_NoText rfl rfl)) pssd_nil)
    (pssd_cons (psd_if (pb_ands (PBs.cons (pb_chain hu (pd_ix (pd_v rfl) pd_int (fun _ _ => rfl)) (Lnk.one pd_str) rfl) (PBs.one (pb_chain hu (pd_v rfl) (Lnk.one pd_str) rfl)))) (pssd_one (psd_raiseT rfl takes_body F.excBase_ValueError G.e_NoText rfl rfl)) pssd_nil)
    (pssd_one (psd_ret (pd_bin (pd_ft call_intD rfl G.z_int rfl (PAs.cons (pd_v rfl) (fun _ => rfl) PAs.nil) rfl rfl) (pd_ix (pd_lst (PAs.cons pd_int (fun _ => rfl) (PAs.cons (pd_neg pd_int) (fun _ => rfl) PAs.nil))) (pd_ft call_intD rfl G.z_int rfl (PAs.cons (pd_chain hu (pd_ix (pd_v rfl) pd_int (fun _ _ => rfl)) (Lnk.one pd_str) rfl) (fun _ => rfl) PAs.nil) rfl rfl) (fun _ _ => rfl)))))))))
def b_read_row : SV := (sSeq (sExpr (cCal f_need_text [false] [(cVar 0)])) (sSeq (sAsg (cLC (iAny (cMt "str" splitD (cVar 0) [(cC (.str (Str.ofString " ")))])) (gN 2) tYesB (cCal f_number_in [false] [(cVar 2)]) [2]) (gN 1)) (sSeq (sIf (cNot (cTru (cCal f_is_row [false] [(cVar 1)]))) (sRaise (Str.ofString "NoText")) sSkip) (sRet (cVar 1)))))
def f_read_row : List Sl → Out R := defD 2 b_read_row
theorem sc_read_row : FnScope ["text", "row", "word"] ["text"] (defScope (top 23)) := (C8.fnScope_by rfl)
theorem c_read_row {P : Program} {w : World} {K : PySem.W.Frag} {mg : Str → Option Value} {base : Heap} (G : Gx K mg) (c_need_text : CalD P w K mg base 1 "need_text" ["thing"] f_need_text) (c_number_in : CalD P w K mg base 1 "number_in" ["word"] f_number_in) (c_is_row : CalD P w K mg base 2 "is_row" ["thing"] f_is_row) : CalD P w K mg base 3 "read_row" ["text"] f_read_row := by
  refine cal_ok (st := top 23) (N := ["text", "row", "word"]) (ps := ["text"]) (k := 2) G.d_read_row sc_read_row rfl ?_
  intro f cdv A outer s H E hr
  have hu := room_units hr
  have hp := @owns_body (L2.CX P w) P w K mg base ["text", "row", "word"] "read_row" (defScope (top 23)) f cdv A outer s H E
  exact (pssd_cons (psd_expr (pd_cal takes_body c_need_text rfl hr (by decide) rfl (PAs.cons (pd_v rfl) (fun _ => rfl) PAs.nil) rfl) rfl)
    (pssd_cons (psd_setLcv (own := [((Str.ofString "word"), 2)]) rfl sc_read_row.nd rfl rfl rfl rfl (pi_any (pd_mt F.plainAttrs_str F.slot_str_split F.type_str_split mt_splitD (pd_v rfl) (PAs.cons pd_str (fun _ => rfl) PAs.nil) (by decide) rfl rfl)) (blkOk_by rfl) (fun _ _ _ _ _ => (pgd_n sc_read_row.nd rfl)) (fun _ _ _ _ _ => pts0) (fun _ _ _ _ _ => (pd_cal takes0 c_number_in rfl hr (by decide) rfl (PAs.cons (pd_v rfl) (fun _ => rfl) PAs.nil) rfl)) (fun _ => rfl))
    (pssd_cons (psd_if (pb_not (pb_tru (pd_cal takes_body c_is_row rfl hr (by decide) rfl (PAs.cons (pd_v rfl) (fun _ => rfl) PAs.nil) rfl) (fun _ => rfl))) (pssd_one (psd_raiseT rfl takes_body F.excBase_ValueError G.e_NoText rfl rfl)) pssd_nil)
    (pssd_one (psd_ret (pd_v rfl))))))
def wf__law_figures : Nat := 400
def b__law_figures : SV := (sSeq (sAsg (cC (.str (Str.ofString ""))) (gN 1)) (sSeq (sAsg (cFn absD [(cVar 0)]) (gN 2)) (sSeq (sWh (cChainB (cVar 2) [(.Gt, (cC (.int 9)))]) (sSeq (sAsg (cBin .Add (cIx (cC (.str (Str.ofString "0123456789"))) (cBin .Mod (cVar 2) (cC (.int 10)))) (cVar 1)) (gN 1)) (sAsg (cBin .FloorDiv (cVar 2) (cC (.int 10))) (gN 2))) (wf__law_figures)) (sRet (cBin .Add (cBin .Add (cBin .Mult (cC (.str (Str.ofString "~"))) (cFn intD [(asV (cChainB (cVar 0) [(.Lt, (cC (.int 0)))]))])) (cIx (cC (.str (Str.ofString "0123456789"))) (cVar 2))) (cVar 1))))))
def f__law_figures : List Sl → Out R := defD 2 b__law_figures
theorem sc__law_figures : FnScope ["number", "text", "left"] ["number"] (defScope (top 33)) := (C8.fnScope_by rfl)
theorem c__law_figures {P : Program} {w : World} {K : PySem.W.Frag} {mg : Str → Option Value} {base : Heap} (G : Gx K mg)  : CalD P w K mg base 1 "_law_figures" ["number"] f__law_figures := by
  refine cal_ok (st := top 33) (N := ["number", "text", "left"]) (ps := ["number"]) (k := 0) G.d__law_figures sc__law_figures rfl ?_
  intro f cdv A outer s H E hr
  have hu := room_units hr
  have hp := @owns_body (L2.CX P w) P w K mg base ["number", "text", "left"] "_law_figures" (defScope (top 33)) f cdv A outer s H E
  exact (pssd_cons (psd_s sc__law_figures.nd rfl pd_str rfl)
    (pssd_cons (psd_s sc__law_figures.nd rfl (pd_f call_absD rfl G.z_abs rfl (PAs.cons (pd_v rfl) (fun _ => rfl) PAs.nil) rfl rfl) rfl)
    (pssd_cons (psd_while (wf__law_figures) hp (pb_chain hu (pd_v rfl) (Lnk.one pd_int) rfl) (pssd_cons (psd_s sc__law_figures.nd rfl (pd_bin (pd_ix pd_str (pd_bin (pd_v rfl) pd_int) (fun _ _ => rfl)) (pd_v rfl)) rfl)
    (pssd_one (psd_s sc__law_figures.nd rfl (pd_bin (pd_v rfl) pd_int) rfl))))
    (pssd_one (psd_ret (pd_bin (pd_bin (pd_bin pd_str (pd_ft call_intD rfl G.z_int rfl (PAs.cons (pd_chain hu (pd_v rfl) (Lnk.one pd_int) rfl) (fun _ => rfl) PAs.nil) rfl rfl)) (pd_ix pd_str (pd_v rfl) (fun _ _ => rfl))) (pd_v rfl)))))))
def b__law_same (fr : List Sl → Out R) : SV := (sSeq (sIf (cTru (cIsi ["tuple", "list"] (cVar 1))) (sSeq (sIf (cOrs [(cChainB (cIsi ["tuple"] (cVar 0)) [(.NotEq, (cIsi ["tuple"] (cVar 1)))]), (cChainB (cIsi ["list"] (cVar 0)) [(.NotEq, (cIsi ["list"] (cVar 1)))])]) (sRet (cC (.bl false))) sSkip) (sSeq (sIf (cChainB (cFn lenD [(cVar 0)]) [(.NotEq, (cFn lenD [(cVar 1)]))]) (sRet (cC (.bl false))) sSkip) (sRet (asV (cChainB (cLC (iFn rngIt1 [(cFn lenD [(cVar 1)])]) (gN 2) (cNot (cTru (cCal fr [false, false] [(cIx (cVar 0) (cVar 2)), (cIx (cVar 1) (cVar 2))]))) (cVar 2) [2]) [(.Eq, (cLst []))]))))) sSkip) (sSeq (sIf (cOrs [(cChainB (cVar 1) [(.Is, (cC .non))]), (cTru (cIsi ["str"] (cVar 1)))]) (sRet (asV (cChainB (cVar 0) [(.Eq, (cVar 1))]))) sSkip) (sRet (cAndsV [(cIsi ["int"] (cVar 0)), (cNotV (cIsi ["bool"] (cVar 0))), (asV (cChainB (cVar 0) [(.Eq, (cVar 1))]))]))))
def f__law_same : Nat → List Sl → Out R
  | 0 => fun _ => .st
  | k + 1 => defD 1 (b__law_same (f__law_same k))
theorem sc__law_same : FnScope ["found", "due", "k"] ["found", "due"] (defScope (top 35)) := (C8.fnScope_by rfl)
theorem c1__law_same {P : Program} {w : World} {K : PySem.W.Frag} {mg : Str → Option Value} {base : Heap} (G : Gx K mg)  {k : Nat} {g : List Sl → Out R} (hk : 0 ≤ k) (c__law_same : CalD P w K mg base k "_law_same" ["found", "due"] g) : CalD P w K mg base (k + 1) "_law_same" ["found", "due"] (defD 1 (b__law_same g)) := by
  refine cal_ok (st := top 35) (N := ["found", "due", "k"]) (ps := ["found", "due"]) G.d__law_same sc__law_same rfl ?_
  intro f cdv A outer s H E hr
  have hu := room_units hr
  have hp := @owns_body (L2.CX P w) P w K mg base ["found", "due", "k"] "_law_same" (defScope (top 35)) f cdv A outer s H E
  exact (pssd_cons (psd_if (pb_tru (pd_isi (pd_v rfl) (ClsE.tup (ts := ["tuple", "list"]) (pa_ty (pe_ty rfl G.z_tuple rfl rfl rfl) (pa_ty (pe_ty rfl G.z_list rfl rfl rfl) pa_ty0 rfl) rfl) (by decide)) rfl G.z_isinstance (fun _ => rfl) (fun _ => rfl)) (fun _ => rfl)) (pssd_cons (psd_if (pb_ors (PBs.cons (pb_chain hu (pd_isi (pd_v rfl) (ClsE.one (pe_ty rfl G.z_tuple rfl rfl rfl)) rfl G.z_isinstance (fun _ => rfl) (fun _ => rfl)) (Lnk.one (pd_isi (pd_v rfl) (ClsE.one (pe_ty rfl G.z_tuple rfl rfl rfl)) rfl G.z_isinstance (fun _ => rfl) (fun _ => rfl))) rfl) (PBs.one (pb_chain hu (pd_isi (pd_v rfl) (ClsE.one (pe_ty rfl G.z_list rfl rfl rfl)) rfl G.z_isinstance (fun _ => rfl) (fun _ => rfl)) (Lnk.one (pd_isi (pd_v rfl) (ClsE.one (pe_ty rfl G.z_list rfl rfl rfl)) rfl G.z_isinstance (fun _ => rfl) (fun _ => rfl))) rfl)))) (pssd_one (psd_ret pd_bl)) pssd_nil)
    (pssd_cons (psd_if (pb_chain hu (pd_f call_lenD rfl G.z_len rfl (PAs.cons (pd_v rfl) (fun _ => rfl) PAs.nil) rfl rfl) (Lnk.one (pd_f call_lenD rfl G.z_len rfl (PAs.cons (pd_v rfl) (fun _ => rfl) PAs.nil) rfl rfl)) rfl) (pssd_one (psd_ret pd_bl)) pssd_nil)
    (pssd_one (psd_ret (pd_chain hu (pd_lcv (own := [((Str.ofString "k"), 2)]) rfl sc__law_same.nd rfl (pid_rng1 rfl G.z_range (PAs.cons (pd_f call_lenD rfl G.z_len rfl (PAs.cons (pd_v rfl) (fun _ => rfl) PAs.nil) rfl rfl) (fun _ => rfl) PAs.nil) (fun _ => rfl)) (blkOk_by rfl) (fun _ _ _ _ _ => (pgd_n sc__law_same.nd rfl)) (fun _ _ _ _ _ => (pts1 (pb_not (pb_tru (pd_cal takes0 c__law_same rfl hr (by first | exact Nat.le_refl _ | omega) rfl (PAs.cons (pd_ix (pd_v rfl) (pd_v rfl) (fun _ _ => rfl)) (fun _ => rfl) (PAs.cons (pd_ix (pd_v rfl) (pd_v rfl) (fun _ _ => rfl)) (fun _ => rfl) PAs.nil)) rfl) (fun _ => rfl))))) (fun _ _ _ _ _ => (pd_v rfl)) (fun _ => rfl)) (Lnk.one (pd_lst PAs.nil)) rfl))))) pssd_nil)
    (pssd_cons (psd_if (pb_ors (PBs.cons (pb_chain hu (pd_v rfl) (Lnk.one pd_non) rfl) (PBs.one (pb_tru (pd_isi (pd_v rfl) (ClsE.one (pe_ty rfl G.z_str rfl rfl rfl)) rfl G.z_isinstance (fun _ => rfl) (fun _ => rfl)) (fun _ => rfl))))) (pssd_one (psd_ret (pd_chain hu (pd_v rfl) (Lnk.one (pd_v rfl)) rfl))) pssd_nil)
    (pssd_one (psd_ret (pd_ands (PDs.cons (pd_isi (pd_v rfl) (ClsE.one (pe_ty rfl G.z_int rfl rfl rfl)) rfl G.z_isinstance (fun _ => rfl) (fun _ => rfl)) (PDs.cons (pd_not (pd_isi (pd_v rfl) (ClsE.one (pe_ty rfl G.z_bool rfl rfl rfl)) rfl G.z_isinstance (fun _ => rfl) (fun _ => rfl))) (PDs.one (pd_chain hu (pd_v rfl) (Lnk.one (pd_v rfl)) rfl)))))))))
def b__law_row_right : SV := (sSeq (sAsg (cMt "str" joinD (cC (.str (Str.ofString " "))) [(cLC (iAny (cVar 0)) (gN 6) tYesB (cCal f__law_figures [false] [(cVar 6)]) [6])]) (gN 1)) (sSeq (sAsg (cFn listD [(cVar 0)]) (gN 2)) (sSeq (sFor (iFn rngIt1 [(cC (.int 2))]) (gN 3) (sSeq (sAsg (cCal f_row_text [false] [(cVar 2)]) (gN 4)) (sSeq (sIf (cOrs [(cNot (cTru (cIsi ["str"] (cVar 4)))), (cChainB (cVar 4) [(.NotEq, (cVar 1))]), (cChainB (cVar 2) [(.NotEq, (cVar 0))])]) (sRet (cC (.bl false))) sSkip) (sSeq (sAsg (cCal f_read_row [false] [(cVar 1)]) (gN 5)) (sSeq (sIf (cNot (cTru (cCal (f__law_same 12) [false, false] [(cVar 5), (cVar 0)]))) (sRet (cC (.bl false))) sSkip) (sExpr (cMu "list" appendD 5 [(cC (.int 0))]))))))) (sSeq (sAsg (cBin .Mod (cBin .Add (cIx (cVar 2) (cNeg (cC (.int 1)))) (cC (.int 7))) (cBin .Pow (cC (.int 10)) (cC (.int 12)))) (gSubD 2 (cNeg (cC (.int 1))))) (sRet (asV (cChainB (cCal f_row_text [false] [(cVar 2)]) [(.Eq, (cMt "str" joinD (cC (.str (Str.ofString " "))) [(cLC (iAny (cVar 2)) (gN 6) tYesB (cCal f__law_figures [false] [(cVar 6)]) [6])]))])))))))
def f__law_row_right : List Sl → Out R := defD 6 b__law_row_right
theorem sc__law_row_right : FnScope ["row", "due", "handed", "turn", "text", "found", "number"] ["row"] (defScope (top 36)) := (C8.fnScope_by rfl)
theorem c__law_row_right {P : Program} {w : World} {K : PySem.W.Frag} {mg : Str → Option Value} {base : Heap} (G : Gx K mg) (c__law_figures : CalD P w K mg base 1 "_law_figures" ["number"] f__law_figures) (c_row_text : CalD P w K mg base 4 "row_text" ["row"] f_row_text) (c_read_row : CalD P w K mg base 3 "read_row" ["text"] f_read_row) (c__law_same : CalD P w K mg base 12 "_law_same" ["found", "due"] (f__law_same 12)) : CalD P w K mg base 13 "_law_row_right" ["row"] f__law_row_right := by
  refine cal_ok (st := top 36) (N := ["row", "due", "handed", "turn", "text", "found", "number"]) (ps := ["row"]) (k := 12) G.d__law_row_right sc__law_row_right rfl ?_
  intro f cdv A outer s H E hr
  have hu := room_units hr
  have hp := @owns_body (L2.CX P w) P w K mg base ["row", "due", "handed", "turn", "text", "found", "number"] "_law_row_right" (defScope (top 36)) f cdv A outer s H E
  exact (pssd_cons (psd_s sc__law_row_right.nd rfl (pd_mt F.plainAttrs_str F.slot_str_join F.type_str_join mt_joinD pd_str (PAs.cons (pd_lcv (own := [((Str.ofString "number"), 6)]) rfl sc__law_row_right.nd rfl (pi_any (pd_v rfl)) (blkOk_by rfl) (fun _ _ _ _ _ => (pgd_n sc__law_row_right.nd rfl)) (fun _ _ _ _ _ => pts0) (fun _ _ _ _ _ => (pd_cal takes0 c__law_figures rfl hr (by decide) rfl (PAs.cons (pd_v rfl) (fun _ => rfl) PAs.nil) rfl)) (fun _ => rfl)) (fun _ => rfl) PAs.nil) (by decide) rfl rfl) rfl)
    (pssd_cons (psd_s sc__law_row_right.nd rfl (pd_ft call_listD rfl G.z_list rfl (PAs.cons (pd_v rfl) (fun _ => rfl) PAs.nil) rfl rfl) rfl)
    (pssd_cons (psd_for (vs := [3]) hp rfl (pid_rng1 rfl G.z_range (PAs.cons pd_int (fun _ => rfl) PAs.nil) (fun _ => rfl)) (pgd_n sc__law_row_right.nd rfl) (pssd_cons (psd_s sc__law_row_right.nd rfl (pd_cal takes_body c_row_text rfl hr (by decide) rfl (PAs.cons (pd_v rfl) (fun _ => rfl) PAs.nil) rfl) rfl)
    (pssd_cons (psd_if (pb_ors (PBs.cons (pb_not (pb_tru (pd_isi (pd_v rfl) (ClsE.one (pe_ty rfl G.z_str rfl rfl rfl)) rfl G.z_isinstance (fun _ => rfl) (fun _ => rfl)) (fun _ => rfl))) (PBs.cons (pb_chain hu (pd_v rfl) (Lnk.one (pd_v rfl)) rfl) (PBs.one (pb_chain hu (pd_v rfl) (Lnk.one (pd_v rfl)) rfl))))) (pssd_one (psd_ret pd_bl)) pssd_nil)
    (pssd_cons (psd_s sc__law_row_right.nd rfl (pd_cal takes_body c_read_row rfl hr (by decide) rfl (PAs.cons (pd_v rfl) (fun _ => rfl) PAs.nil) rfl) rfl)
    (pssd_cons (psd_if (pb_not (pb_tru (pd_cal takes_body c__law_same rfl hr (by decide) rfl (PAs.cons (pd_v rfl) (fun _ => rfl) (PAs.cons (pd_v rfl) (fun _ => rfl) PAs.nil)) rfl) (fun _ => rfl))) (pssd_one (psd_ret pd_bl)) pssd_nil)
    (pssd_one (psd_expr (pd_m F.plainAttrs_list F.slot_list_append F.type_list_append mu_append rfl (PAs.cons pd_int (fun _ => rfl) PAs.nil) (by decide) rfl rfl) rfl)))))) (fun _ => rfl))
    (pssd_cons (psd_asg (vs := []) (pd_bin (pd_bin (pd_ix (pd_v rfl) (pd_neg pd_int) (fun _ _ => rfl)) pd_int) (pd_bin pd_int pd_int)) (pgd_sb rfl (pd_neg pd_int) (fun _ => rfl)) rfl rfl rfl)
    (pssd_one (psd_ret (pd_chain hu (pd_cal takes_body c_row_text rfl hr (by decide) rfl (PAs.cons (pd_v rfl) (fun _ => rfl) PAs.nil) rfl) (Lnk.one (pd_mt F.plainAttrs_str F.slot_str_join F.type_str_join mt_joinD pd_str (PAs.cons (pd_lcv (own := [((Str.ofString "number"), 6)]) rfl sc__law_row_right.nd rfl (pi_any (pd_v rfl)) (blkOk_by rfl) (fun _ _ _ _ _ => (pgd_n sc__law_row_right.nd rfl)) (fun _ _ _ _ _ => pts0) (fun _ _ _ _ _ => (pd_cal takes0 c__law_figures rfl hr (by decide) rfl (PAs.cons (pd_v rfl) (fun _ => rfl) PAs.nil) rfl)) (fun _ => rfl)) (fun _ => rfl) PAs.nil) (by decide) rfl rfl)) rfl)))))))
def b__law_holds_written : SV := (sSeq (sAsg (cLC (iAny (cVar 0)) (gN 2) tYesB (cLC (iAny (cVar 2)) (gT [(gN 3), (gN 4)]) tYesB (cBin .Add (cBin .Add (cIx (cC (.str (Str.ofString "012345678"))) (cVar 3)) (cC (.str (Str.ofString "-")))) (cIx (cC (.str (Str.ofString "012345678"))) (cVar 4))) [3, 4]) [2]) (gN 1)) (sRet (cMt "str" joinD (cC (.str (Str.ofString " "))) [(cBin .Add (cBin .Add (cIx (cVar 1) (cC (.int 0))) (cLst [(cC (.str (Str.ofString "/")))])) (cIx (cVar 1) (cC (.int 1))))])))
def f__law_holds_written : List Sl → Out R := defD 4 b__law_holds_written
theorem sc__law_holds_written : FnScope ["holds", "words", "some", "i", "j"] ["holds"] (defScope (top 34)) := (C8.fnScope_by rfl)
theorem c__law_holds_written {P : Program} {w : World} {K : PySem.W.Frag} {mg : Str → Option Value} {base : Heap} (G : Gx K mg)  : CalD P w K mg base 1 "_law_holds_written" ["holds"] f__law_holds_written := by
  refine cal_ok (st := top 34) (N := ["holds", "words", "some", "i", "j"]) (ps := ["holds"]) (k := 0) G.d__law_holds_written sc__law_holds_written rfl ?_
  intro f cdv A outer s H E hr
  have hu := room_units hr
  have hp := @owns_body (L2.CX P w) P w K mg base ["holds", "words", "some", "i", "j"] "_law_holds_written" (defScope (top 34)) f cdv A outer s H E
  exact (pssd_cons (psd_setLcv (own := [((Str.ofString "some"), 2)]) rfl sc__law_holds_written.nd rfl rfl rfl rfl (pi_any (pd_v rfl)) (blkOk_by rfl) (fun _ _ _ _ _ => (pgd_n sc__law_holds_written.nd rfl)) (fun _ _ _ _ _ => pts0) (fun _ _ _ _ _ => (pd_lcv (own := [((Str.ofString "i"), 3), ((Str.ofString "j"), 4)]) rfl sc__law_holds_written.nd rfl (pi_any (pd_v rfl)) (blkOk_by rfl) (fun _ _ _ _ _ => (pgd_tup rfl (pgl_cons (pgd_n sc__law_holds_written.nd rfl) rfl (pgl_cons (pgd_n sc__law_holds_written.nd rfl) rfl PGl.nil)))) (fun _ _ _ _ _ => pts0) (fun _ _ _ _ _ => (pd_bin (pd_bin (pd_ix pd_str (pd_v rfl) (fun _ _ => rfl)) pd_str) (pd_ix pd_str (pd_v rfl) (fun _ _ => rfl)))) (fun _ => rfl))) (fun _ => rfl))
    (pssd_one (psd_ret (pd_mt F.plainAttrs_str F.slot_str_join F.type_str_join mt_joinD pd_str (PAs.cons (pd_bin (pd_bin (pd_ix (pd_v rfl) pd_int (fun _ _ => rfl)) (pd_lst (PAs.cons pd_str (fun _ => rfl) PAs.nil))) (pd_ix (pd_v rfl) pd_int (fun _ _ => rfl))) (fun _ => rfl) PAs.nil) (by decide) rfl rfl))))
def b__law_row : SV := (sSeq (sAsg (cCal f__law_draw [true, false] [(cVar 0), (cC (.int 9))]) (gN 2)) (sSeq (sAsg (cLst []) (gN 3)) (sSeq (sFor (iFn rngIt1 [(cVar 1)]) (gN 4) (sSeq (sAsg (cLst [(cCal f__law_draw [true, false] [(cVar 0), (cC (.int 10))]), (cBin .Sub (cCal f__law_draw [true, false] [(cVar 0), (cC (.int 3))]) (cC (.int 1))), (cBin .Sub (cCal f__law_draw [true, false] [(cVar 0), (cC (.int 13))]) (cC (.int 6))), (cBin .Sub (cCal f__law_draw [true, false] [(cVar 0), (cC (.int 1999))]) (cC (.int 999)))]) (gN 5)) (sSeq (sAsg (cBin .Add (cVar 5) (cLst [(cBin .Mult (cBin .Sub (cBin .Sub (cBin .Pow (cC (.int 10)) (cC (.int 12))) (cC (.int 1))) (cCal f__law_draw [true, false] [(cVar 0), (cC (.int 99))])) (cIx (cLst [(cC (.int 1)), (cNeg (cC (.int 1)))]) (cCal f__law_draw [true, false] [(cVar 0), (cC (.int 2))]))), (cBin .Add (cC (.int 1)) (cCal f__law_draw [true, false] [(cVar 0), (cC (.int 9))]))])) (gN 5)) (sSeq (sAsg (cBin .Add (cBin .Mult (cCal f__law_draw [true, false] [(cVar 0), (cBin .Pow (cC (.int 10)) (cC (.int 6)))]) (cBin .Pow (cC (.int 10)) (cC (.int 6)))) (cCal f__law_draw [true, false] [(cVar 0), (cBin .Pow (cC (.int 10)) (cC (.int 6)))])) (gN 6)) (sSeq (sAsg (cBin .Mult (cBin .Mod (cVar 6) (cIx (cLst [(cBin .Pow (cC (.int 10)) (cC (.int 4))), (cBin .Pow (cC (.int 10)) (cC (.int 6))), (cBin .Pow (cC (.int 10)) (cC (.int 9))), (cBin .Pow (cC (.int 10)) (cC (.int 12)))]) (cCal f__law_draw [true, false] [(cVar 0), (cC (.int 4))]))) (cIx (cLst [(cC (.int 1)), (cNeg (cC (.int 1)))]) (cCal f__law_draw [true, false] [(cVar 0), (cC (.int 2))]))) (gN 6)) (sSeq (sAsg (cCal f__law_draw [true, false] [(cVar 0), (cC (.int 8))]) (gN 7)) (sExpr (cMu "list" appendD 3 [(cIx (cBin .Add (cVar 5) (cLst [(cIx (cBin .Add (cVar 3) (cVar 5)) (cC (.int 0))), (cVar 6)])) (cIx (cLst [(cVar 2), (cVar 7)]) (cFn intD [(asV (cChainB (cVar 2) [(.Eq, (cC (.int 8)))]))])))])))))))) (sRet (cVar 3)))))
def f__law_row : List Sl → Out R := defD 6 b__law_row
theorem sc__law_row : FnScope ["well", "many", "kind", "found", "k", "some", "wide", "own"] ["well", "many"] (defScope (top 29)) := (C8.fnScope_by rfl)
theorem c__law_row {P : Program} {w : World} {K : PySem.W.Frag} {mg : Str → Option Value} {base : Heap} (G : Gx K mg) (c__law_draw : CalD P w K mg base 1 "_law_draw" ["well", "many"] f__law_draw) : CalD P w K mg base 2 "_law_row" ["well", "many"] f__law_row := by
  refine cal_ok (st := top 29) (N := ["well", "many", "kind", "found", "k", "some", "wide", "own"]) (ps := ["well", "many"]) (k := 1) G.d__law_row sc__law_row rfl ?_
  intro f cdv A outer s H E hr
  have hu := room_units hr
  have hp := @owns_body (L2.CX P w) P w K mg base ["well", "many", "kind", "found", "k", "some", "wide", "own"] "_law_row" (defScope (top 29)) f cdv A outer s H E
  exact (pssd_cons (psd_s sc__law_row.nd rfl (pd_cal takes_body c__law_draw rfl hr (by decide) rfl (PAs.cons (pd_v rfl) (fun _ => rfl) (PAs.cons pd_int (fun _ => rfl) PAs.nil)) rfl) rfl)
    (pssd_cons (psd_s sc__law_row.nd rfl (pd_lst PAs.nil) rfl)
    (pssd_cons (psd_for (vs := [4]) hp rfl (pid_rng1 rfl G.z_range (PAs.cons (pd_v rfl) (fun _ => rfl) PAs.nil) (fun _ => rfl)) (pgd_n sc__law_row.nd rfl) (pssd_cons (psd_s sc__law_row.nd rfl (pd_lst (PAs.cons (pd_cal takes_body c__law_draw rfl hr (by decide) rfl (PAs.cons (pd_v rfl) (fun _ => rfl) (PAs.cons pd_int (fun _ => rfl) PAs.nil)) rfl) (fun _ => rfl) (PAs.cons (pd_bin (pd_cal takes_body c__law_draw rfl hr (by decide) rfl (PAs.cons (pd_v rfl) (fun _ => rfl) (PAs.cons pd_int (fun _ => rfl) PAs.nil)) rfl) pd_int) (fun _ => rfl) (PAs.cons (pd_bin (pd_cal takes_body c__law_draw rfl hr (by decide) rfl (PAs.cons (pd_v rfl) (fun _ => rfl) (PAs.cons pd_int (fun _ => rfl) PAs.nil)) rfl) pd_int) (fun _ => rfl) (PAs.cons (pd_bin (pd_cal takes_body c__law_draw rfl hr (by decide) rfl (PAs.cons (pd_v rfl) (fun _ => rfl) (PAs.cons pd_int (fun _ => rfl) PAs.nil)) rfl) pd_int) (fun _ => rfl) PAs.nil))))) rfl)
    (pssd_cons (psd_s sc__law_row.nd rfl (pd_bin (pd_v rfl) (pd_lst (PAs.cons (pd_bin (pd_bin (pd_bin (pd_bin pd_int pd_int) pd_int) (pd_cal takes_body c__law_draw rfl hr (by decide) rfl (PAs.cons (pd_v rfl) (fun _ => rfl) (PAs.cons pd_int (fun _ => rfl) PAs.nil)) rfl)) (pd_ix (pd_lst (PAs.cons pd_int (fun _ => rfl) (PAs.cons (pd_neg pd_int) (fun _ => rfl) PAs.nil))) (pd_cal takes_body c__law_draw rfl hr (by decide) rfl (PAs.cons (pd_v rfl) (fun _ => rfl) (PAs.cons pd_int (fun _ => rfl) PAs.nil)) rfl) (fun _ _ => rfl))) (fun _ => rfl) (PAs.cons (pd_bin pd_int (pd_cal takes_body c__law_draw rfl hr (by decide) rfl (PAs.cons (pd_v rfl) (fun _ => rfl) (PAs.cons pd_int (fun _ => rfl) PAs.nil)) rfl)) (fun _ => rfl) PAs.nil)))) rfl)
    (pssd_cons (psd_s sc__law_row.nd rfl (pd_bin (pd_bin (pd_cal takes_body c__law_draw rfl hr (by decide) rfl (PAs.cons (pd_v rfl) (fun _ => rfl) (PAs.cons (pd_bin pd_int pd_int) (fun _ => rfl) PAs.nil)) rfl) (pd_bin pd_int pd_int)) (pd_cal takes_body c__law_draw rfl hr (by decide) rfl (PAs.cons (pd_v rfl) (fun _ => rfl) (PAs.cons (pd_bin pd_int pd_int) (fun _ => rfl) PAs.nil)) rfl)) rfl)
    (pssd_cons (psd_s sc__law_row.nd rfl (pd_bin (pd_bin (pd_v rfl) (pd_ix (pd_lst (PAs.cons (pd_bin pd_int pd_int) (fun _ => rfl) (PAs.cons (pd_bin pd_int pd_int) (fun _ => rfl) (PAs.cons (pd_bin pd_int pd_int) (fun _ => rfl) (PAs.cons (pd_bin pd_int pd_int) (fun _ => rfl) PAs.nil))))) (pd_cal takes_body c__law_draw rfl hr (by decide) rfl (PAs.cons (pd_v rfl) (fun _ => rfl) (PAs.cons pd_int (fun _ => rfl) PAs.nil)) rfl) (fun _ _ => rfl))) (pd_ix (pd_lst (PAs.cons pd_int (fun _ => rfl) (PAs.cons (pd_neg pd_int) (fun _ => rfl) PAs.nil))) (pd_cal takes_body c__law_draw rfl hr (by decide) rfl (PAs.cons (pd_v rfl) (fun _ => rfl) (PAs.cons pd_int (fun _ => rfl) PAs.nil)) rfl) (fun _ _ => rfl))) rfl)
    (pssd_cons (psd_s sc__law_row.nd rfl (pd_cal takes_body c__law_draw rfl hr (by decide) rfl (PAs.cons (pd_v rfl) (fun _ => rfl) (PAs.cons pd_int (fun _ => rfl) PAs.nil)) rfl) rfl)
    (pssd_one (psd_expr (pd_m F.plainAttrs_list F.slot_list_append F.type_list_append mu_append rfl (PAs.cons (pd_ix (pd_bin (pd_v rfl) (pd_lst (PAs.cons (pd_ix (pd_bin (pd_v rfl) (pd_v rfl)) pd_int (fun _ _ => rfl)) (fun _ => rfl) (PAs.cons (pd_v rfl) (fun _ => rfl) PAs.nil)))) (pd_ix (pd_lst (PAs.cons (pd_v rfl) (fun _ => rfl) (PAs.cons (pd_v rfl) (fun _ => rfl) PAs.nil))) (pd_ft call_intD rfl G.z_int rfl (PAs.cons (pd_chain hu (pd_v rfl) (Lnk.one pd_int) rfl) (fun _ => rfl) PAs.nil) rfl rfl) (fun _ _ => rfl)) (fun _ _ => rfl)) (fun _ => rfl) PAs.nil) (by decide) rfl rfl) rfl))))))) (fun _ => rfl))
    (pssd_one (psd_ret (pd_v rfl))))))
end K49
namespace K49
open PySem PySem.Spec PyProof.Rows L2 PV
/-! read_holds, once more: what it yields is new; _law_holds_right, that changes it -/
def rh1 : SV := (sExpr (cCal f_need_text [false] [(cVar 0)]))
def rh2 : SV := (sAsg (cMt "str" splitD (cVar 0) [(cC (.str (Str.ofString " ")))]) (gN 1))
def rh3 : SV := (sIf (cChainB (cMt "list" countD (cVar 1) [(cC (.str (Str.ofString "/")))]) [(.NotEq, (cC (.int 1)))]) (sRaise (Str.ofString "NoText")) sSkip)
def rh4 : SV := (sAsg (cMt "list" indexD (cVar 1) [(cC (.str (Str.ofString "/")))]) (gN 2))
def rhA : EV := (cLC (iAny (cSl (cVar 1) none (some (cVar 2)))) (gN 4) tYesB (cCal f_stretch_in [false] [(cVar 4)]) [4])
def rhB : EV := (cLC (iAny (cSl (cVar 1) (some (cBin .Add (cVar 2) (cC (.int 1)))) none)) (gN 4) tYesB (cCal f_stretch_in [false] [(cVar 4)]) [4])
/-- what read_holds tells of a text, where it tells -/
def rh (t : Str) : Option (List D × List D) := match rh1 [.sh (.str t), .no, .no, .no, .no] with
  | .nx δ1 => (match rh2 δ1 with
    | .nx δ2 => (match rh3 δ2 with
      | .nx δ3 => (match rh4 δ3 with
        | .nx δ4 => if δ4.length = 5 then (match rhA δ4 with
          | .ok (.ow (.lst l1)) δ5 => (match rhB δ5 with
            | .ok (.ow (.lst l2)) _ => (match f_is_holds [.sh (.tup [.lst l1, .lst l2]), .sh (.int 9)] with
              | .ok (.sh (.bl true)) _ => some (l1, l2)
              | _ => none)
            | _ => none)
          | _ => none) else none
        | _ => none)
      | _ => none)
    | _ => none)
  | _ => none
theorem rh_some {t : Str} {l : List D × List D} (h : rh t = some l) : ∃ δ1 δ2 δ3 δ4 δ5 δ6 as', rh1 [.sh (.str t), .no, .no, .no, .no] = .nx δ1 ∧ rh2 δ1 = .nx δ2 ∧ rh3 δ2 = .nx δ3 ∧ rh4 δ3 = .nx δ4 ∧ δ4.length = 5 ∧ rhA δ4 = .ok (.ow (.lst l.1)) δ5 ∧ rhB δ5 = .ok (.ow (.lst l.2)) δ6 ∧
    f_is_holds [.sh (.tup [.lst l.1, .lst l.2]), .sh (.int 9)] = .ok (.sh (.bl true)) as' := by
  unfold rh at h
  repeat (first | (split at h) | (cases h))
  all_goals (first | (cases h; done) | skip)
  rename_i e1 _ _ e2 _ _ e3 _ _ e4 hl _ _ _ e5 _ _ _ e6 _ _ e7
  exact ⟨_, _, _, _, _, _, _, e1, e2, e3, e4, hl, e5, e6, e7⟩
structure CalRH (P : Program) (w : World) (K : PySem.W.Frag) (mg : Str → Option Value) (base : Heap) (k : Nat) : Prop where
  ex : ∃ (f : Addr) (fd : FuncData) (ps : List Str), FnOk P w K mg base (L2.CX P w) k f fd ps (spRH ⟨P, w, K, mg⟩ rh) ∧ mg "read_holds" = some (.ref f) ∧ PySem.W.keepIn K (.ref f) = true ∧ Binds K fd ps []
theorem c_rh {P : Program} {w : World} {K : PySem.W.Frag} {mg : Str → Option Value} {base : Heap} (G : Gx K mg) (c_need_text : CalD P w K mg base 1 "need_text" ["thing"] f_need_text) (c_stretch_in : CalD P w K mg base 1 "stretch_in" ["word"] f_stretch_in) (c_is_holds : CalD P w K mg base 3 "is_holds" ["thing", "many"] f_is_holds) : CalRH P w K mg base 4 := by
  obtain ⟨f, fd, Fu, hf, hb⟩ := G.d_read_holds.ex
  refine ⟨f, fd, ["text"], Fun.okX (N := ["text", "words", "at", "holds", "word"]) (k := 3) Fu sc_read_holds (fun vs H Q E h => ?_) (fun cdv A outer s H vs Q E hr h => ?_), hf, Fu.kp, hb⟩
  · obtain ⟨t, l1, l2, rfl, _⟩ := h
    rfl
  have hu := room_units hr
  have hp := @owns_body (L2.CX P w) P w K mg base ["text", "words", "at", "holds", "word"] "read_holds" (defScope (top 25)) f cdv A outer s H E
  obtain ⟨g, gd, gF, gm, gk, gb, _⟩ := c_is_holds.ex
  obtain ⟨t, l1, l2, rfl, hrh, hq⟩ := h
  refine ⟨tSeq (tS ⟨P, w, K, mg⟩ (fun cls d _ H' => E cls d H') rh1) (tSeq (tS ⟨P, w, K, mg⟩ (fun cls d _ H' => E cls d H') rh2) (tSeq (tS ⟨P, w, K, mg⟩ (fun cls d _ H' => E cls d H') rh3) (tSeq (tS ⟨P, w, K, mg⟩ (fun cls d _ H' => E cls d H') rh4)
    (tPairTail ⟨P, w, K, mg⟩ (fun cls d _ H' => E cls d H') rhA rhB f_is_holds (.int 9) 3 (tS ⟨P, w, K, mg⟩ (fun cls d _ H' => E cls d H') (sRaise (Str.ofString "NoText"))))))), ?_, ?_⟩
  · have h9 : ∃ u, mg "MOST_NUMBERS_texts" = some u ∧ RelV (.int 9) u := G.g_MOST_NUMBERS_texts
    obtain ⟨u9, m9, r9⟩ := h9
    exact (pss_cons (psd_expr (pd_cal takes_body c_need_text rfl hr (by decide) rfl (PAs.cons (pd_v rfl) (fun _ => rfl) PAs.nil) rfl) rfl)
      (pss_cons (psd_s sc_read_holds.nd rfl (pd_mt F.plainAttrs_str F.slot_str_split F.type_str_split mt_splitD (pd_v rfl) (PAs.cons pd_str (fun _ => rfl) PAs.nil) (by decide) rfl rfl) rfl)
      (pss_cons (psd_if (pb_chain hu (pd_mt F.plainAttrs_list F.slot_list_count F.type_list_count (mt_countD' hu) (pd_v rfl) (PAs.cons pd_str (fun _ => rfl) PAs.nil) (by decide) rfl rfl) (Lnk.one pd_int) rfl) (pssd_one (psd_raiseT rfl takes_body F.excBase_ValueError G.e_NoText rfl rfl)) pssd_nil)
      (pss_cons (psd_s sc_read_holds.nd rfl (pd_mt F.plainAttrs_list F.slot_list_index F.type_list_index (mt_indexD' hu) (pd_v rfl) (PAs.cons pd_str (fun _ => rfl) PAs.nil) (by decide) rfl rfl) rfl)
      (pss_cons (ps_set (i := 3) sc_read_holds.nd rfl (Or.inl rfl) (pe_tup (pa_cons (pd_lcv (own := [((Str.ofString "word"), 4)]) rfl sc_read_holds.nd rfl (pi_any (pd_slice (pd_v rfl) PPart.none (PPart.some (pd_v rfl)))) (blkOk_by rfl) (fun _ _ _ _ _ => (pgd_n sc_read_holds.nd rfl)) (fun _ _ _ _ _ => pts0) (fun _ _ _ _ _ => (pd_cal takes0 c_stretch_in rfl hr (by decide) rfl (PAs.cons (pd_v rfl) (fun _ => rfl) PAs.nil) rfl)) (fun _ => rfl))
        (pa_cons (pd_lcv (own := [((Str.ofString "word"), 4)]) rfl sc_read_holds.nd rfl (pi_any (pd_slice (pd_v rfl) (PPart.some (pd_bin (pd_v rfl) pd_int)) PPart.none)) (blkOk_by rfl) (fun _ _ _ _ _ => (pgd_n sc_read_holds.nd rfl)) (fun _ _ _ _ _ => pts0) (fun _ _ _ _ _ => (pd_cal takes0 c_stretch_in rfl hr (by decide) rfl (PAs.cons (pd_v rfl) (fun _ => rfl) PAs.nil) rfl)) (fun _ => rfl)) pa_nil))))
      (pss_cons (ps_if (pt_not (pt_truth (pe_callS gF hr rfl gm gk gb (fun σ => passAt takes_body σ) (pa_cons (pe_var rfl (.inl rfl)) (pa_cons (pe_glob rfl m9 r9) pa_nil))) (fun _ => rfl))) (pssd_one (psd_raiseT rfl takes_body F.excBase_ValueError G.e_NoText rfl rfl)) pss_nil)
      (pss_one (ps_ret (pe_var rfl (.inl rfl)))))))))) 
  · obtain ⟨δ1, δ2, δ3, δ4, δ5, δ6, as', e1, e2, e3, e4, hl, e5, e6, e7⟩ := rh_some hrh
    have S0 : SR ⟨P, w, K, mg⟩ (frm H (fun _ => none) [] fun _ => 0) [.sh (.str t), .no, .no, .no, .no] (L2.start ["text", "words", "at", "holds", "word"] [.str t]) (fun _ => 0) (fun _ => none) H :=
      SR.start (N := ["text", "words", "at", "holds", "word"]) (SR.call0 (M := ⟨P, w, K, mg⟩) (G := fun _ => none) (P := fun _ => 0) (ds := [.str t]) (RpA.cons rfl RpA.nil) fun a o z => by cases z)
    refine ⟨_, _, _, _, S0, ?_⟩
    rw [e1]
    refine fun σ1 P1 G1 H1 S1 _ => ⟨_, _, _, _, S1, ?_⟩
    rw [e2]
    refine fun σ2 P2 G2 H2 S2 _ => ⟨_, _, _, _, S2, ?_⟩
    rw [e3]
    refine fun σ3 P3 G3 H3 S3 _ => ⟨_, _, _, _, S3, ?_⟩
    rw [e4]
    refine fun σ4 P4 G4 H4 S4 _ => pair_tail S4 e5 e6 e7 (fun _ => rfl) (by have := S4.len; omega) fun T H' np => hq T H' np

/-- the tail of a turn: the pair told, looked at, changed -/
def hrT : SV := fun (δ : List Sl) => match (δ[1]? : Option Sl), (δ[0]? : Option Sl) with
  | some (Sl.sh (.str t)), some (Sl.sh (.tup [.lst a, .lst b])) => (match rh t with
    | some (l1, l2) => (match f__law_same 12 [.sh (.tup [.lst l1, .lst l2]), .sh (.tup [.lst a, .lst b])] with
      | .ok (.sh (.bl true)) _ => if eqD (.lst l2) (.lst b) = some true ∧ l1.length < sizeLine ∧ l2.length < sizeLine ∧ δ.length = 6 then .nx (δ.set 5 .no) else .st
      | _ => .st)
    | none => .st)
  | _, _ => .st
theorem hrT_nx {M : KM} {W : WX} {F : Fm} {σ : Sg} {G H : Hp} {P : Nat → Addr} {D0 : Ends} {tr1 tr2 : TS} {δ : List Sl} (S : SR M F δ σ P G H) (h : SPost M W F G D0 (hrT δ)) :
    tUse M W rh (f__law_same 12) 5 1 0 tr1 tr2 (cTup [(cC (.int 0)), (cC (.int 1))]) D0 σ H := by
  unfold hrT at h
  split at h
  · rename_i t a b e1 e2
    split at h
    · rename_i l1 l2 e3
      split at h
      · rename_i e4
        split at h
        · rename_i c
          exact pair_use S e1 e2 e3 e4 c.1 c.2.1 c.2.2.1 (by have := S.len; omega) (by decide) (fun δ => ⟨_, rfl⟩) h
        · exact h.elim
      · exact h.elim
    · exact h.elim
  · exact h.elim
def b__law_holds_right : SV := (sSeq (sAsg (cCal f__law_holds_written [false] [(cVar 0)]) (gN 1)) (sSeq (sAsg (cTup [(cFn listD [(cIx (cVar 0) (cC (.int 0)))]), (cFn listD [(cIx (cVar 0) (cC (.int 1)))])]) (gN 2)) (sSeq
  (sFor (iFn rngIt1 [(cC (.int 2))]) (gN 3) (sSeq (sAsg (cCal f_holds_text [false] [(cVar 2)]) (gN 4)) (sSeq (sIf (cOrs [(cNot (cTru (cIsi ["str"] (cVar 4)))), (cChainB (cVar 4) [(.NotEq, (cVar 1))]), (cChainB (cVar 2) [(.NotEq, (cVar 0))])]) (sRet (cC (.bl false))) sSkip) hrT)))
  (sRet (cC (.bl true))))))
def f__law_holds_right : List Sl → Out R := defD 5 b__law_holds_right
theorem sc__law_holds_right : FnScope ["holds", "due", "handed", "turn", "text", "found"] ["holds"] (defScope (top 37)) := (C8.fnScope_by rfl)
theorem c__law_holds_right {P : Program} {w : World} {K : PySem.W.Frag} {mg : Str → Option Value} {base : Heap} (G : Gx K mg) (c__law_holds_written : CalD P w K mg base 1 "_law_holds_written" ["holds"] f__law_holds_written) (c_holds_text : CalD P w K mg base 4 "holds_text" ["holds"] f_holds_text)
    (c__law_same : CalD P w K mg base 12 "_law_same" ["found", "due"] (f__law_same 12)) (c_rh : CalRH P w K mg base 4) : CalD P w K mg base 13 "_law_holds_right" ["holds"] f__law_holds_right := by
  refine cal_ok (st := top 37) (N := ["holds", "due", "handed", "turn", "text", "found"]) (ps := ["holds"]) (k := 12) G.d__law_holds_right sc__law_holds_right rfl ?_
  intro f cdv A outer s H E hr
  have hu := room_units hr
  have hp := @owns_body (L2.CX P w) P w K mg base ["holds", "due", "handed", "turn", "text", "found"] "_law_holds_right" (defScope (top 37)) f cdv A outer s H E
  obtain ⟨g, gd, gF, gm, gk, gb, _⟩ := c__law_same.ex
  obtain ⟨r, rd, rps, rF, rm, rk, rb⟩ := c_rh.ex
  refine (pssd_cons (psd_s sc__law_holds_right.nd rfl (pd_cal takes_body c__law_holds_written rfl hr (by decide) rfl (PAs.cons (pd_v rfl) (fun _ => rfl) PAs.nil) rfl) rfl)
    (pssd_cons (psd_s sc__law_holds_right.nd rfl (pd_tup (PAs.cons (pd_ft call_listD rfl G.z_list rfl (PAs.cons (pd_ix (pd_v rfl) pd_int (fun _ _ => rfl)) (fun _ => rfl) PAs.nil) rfl rfl) (fun _ => rfl) (PAs.cons (pd_ft call_listD rfl G.z_list rfl (PAs.cons (pd_ix (pd_v rfl) pd_int (fun _ _ => rfl)) (fun _ => rfl) PAs.nil) rfl rfl) (fun _ => rfl) PAs.nil))) rfl)
    (pssd_cons (psd_for (vs := [3]) hp rfl (pid_rng1 rfl G.z_range (PAs.cons pd_int (fun _ => rfl) PAs.nil) (fun _ => rfl)) (pgd_n sc__law_holds_right.nd rfl)
      (pssd_cons (psd_s sc__law_holds_right.nd rfl (pd_cal takes_body c_holds_text rfl hr (by decide) rfl (PAs.cons (pd_v rfl) (fun _ => rfl) PAs.nil) rfl) rfl)
      (pssd_cons (psd_if (pb_ors (PBs.cons (pb_not (pb_tru (pd_isi (pd_v rfl) (ClsE.one (pe_ty rfl G.z_str rfl rfl rfl)) rfl G.z_isinstance (fun _ => rfl) (fun _ => rfl)) (fun _ => rfl))) (PBs.cons (pb_chain hu (pd_v rfl) (Lnk.one (pd_v rfl)) rfl) (PBs.one (pb_chain hu (pd_v rfl) (Lnk.one (pd_v rfl)) rfl))))) (pssd_one (psd_ret pd_bl)) pssd_nil)
      ?tail)) (fun _ => rfl))
    (pssd_one (psd_ret pd_bl)))))
  case tail =>
    refine PSs.weak (t := tUse ⟨P, w, K, mg⟩ (fun cls d _ H' => E cls d H') rh (f__law_same 12) 5 1 0 (tS ⟨P, w, K, mg⟩ (fun cls d _ H' => E cls d H') (sRet (cC (.bl false)))) (tS ⟨P, w, K, mg⟩ (fun cls d _ H' => E cls d H') (sRet (cC (.bl false)))) (cTup [(cC (.int 0)), (cC (.int 1))])) ?_ fun D σ H ⟨F, δ, P, G, S, h⟩ => hrT_nx S h
    exact (pss_cons (ps_set (i := 5) sc__law_holds_right.nd rfl (.inl rfl) (pe_callS rF (hr.mono (by decide)) rfl rm rk rb (fun σ => passAt takes_body σ) (pa_cons (pe_var rfl (.inl rfl)) pa_nil)))
      (pss_cons (ps_if (pt_not (pt_truth (pe_callS gF hr rfl gm gk gb (fun σ => passAt takes_body σ) (pa_cons (pe_var rfl (.inl rfl)) (pa_cons (pe_var rfl (.inl rfl)) pa_nil))) (fun _ => rfl))) (pssd_one (psd_ret pd_bl)) pss_nil)
      (pss_cons (ps_expr (pe_bm F.plainAttrs_list F.slot_list_append F.type_list_append mt_append (pe_ix ix_tup (pe_var rfl (.inl rfl)) pe_int (fun _ _ => rfl)) (pr_args (PAs.cons (pd_tup (PAs.cons pd_int (fun _ => rfl) (PAs.cons pd_int (fun _ => rfl) PAs.nil))) (fun _ => rfl) PAs.nil))))
      (pss_cons (ps_if (pt_cmpR (op_ne' (Nat.lt_of_succ_lt hu)) (pe_ix ix_tup (pe_var rfl (.inl rfl)) pe_int (fun _ _ => rfl)) (pe_ix ix_tup (pe_var rfl (.inl rfl)) pe_int (fun _ _ => rfl)) rfl) (pssd_one (psd_ret pd_bl)) pss_nil)
      (pss_one (ps_expr (pe_bm F.plainAttrs_list F.slot_list_append F.type_list_append mt_append (pe_ix ix_tup (pe_var rfl (.inl rfl)) pe_int (fun _ _ => rfl)) (pr_args (PAs.cons (pd_tup (PAs.cons pd_int (fun _ => rfl) (PAs.cons pd_int (fun _ => rfl) PAs.nil))) (fun _ => rfl) PAs.nil)))))))))
end K49
namespace K49
open PySem PySem.Spec PyProof.Rows L2 PV
def b_law : SV := (sSeq (sFor (iEnumD (cBin .Add (cLst [(cC (.int 0)), (cC (.int 5))]) (cSl (cVar 0) none (some (cC (.int 8)))))) (gT [(gN 1), (gN 2)]) (sSeq (sAsg (cCal f__law_well [false] [(cVar 2)]) (gN 3)) (sSeq (sAsg (cCal f__law_holds [true, false] [(cVar 3), (cC (.int 9))]) (gN 4)) (sSeq (sIf (cAnds [(cChainB (cVar 1) [(.Eq, (cC (.int 2)))]), (cChainB (cCal f__law_draw [true, false] [(cVar 3), (cC (.int 8))]) [(.Eq, (cC (.int 1)))])]) (sAsg (cTup [(cLC (iFn rngIt1 [(cC (.int 40))]) (gN 5) tYesB (cCal f__law_stretch [true, false] [(cVar 3), (cC (.int 9))]) [5]), (cLC (iFn rngIt1 [(cC (.int 40))]) (gN 5) tYesB (cCal f__law_stretch [true, false] [(cVar 3), (cC (.int 9))]) [5])]) (gN 4)) sSkip) (sIf (cOrs [(cNot (cTru (cCal f__law_row_right [false] [(cCal f__law_row [true, false] [(cVar 3), (cBin .Add (cC (.int 1)) (cCal f__law_draw [true, false] [(cVar 3), (cC (.int 9))]))])]))), (cNot (cTru (cCal f__law_holds_right [false] [(cVar 4)])))]) (sRet (cC (.bl false))) sSkip))))) (sRet (cAndsV [(asV (cChainB (cCal f_holds_text [false] [(cTup [(cLst []), (cLst [])])]) [(.Eq, (cC (.str (Str.ofString "/"))))])), (asV (cChainB (cCal f_read_holds [false] [(cC (.str (Str.ofString "0-1 2-3 / 1-2")))]) [(.Eq, (cTup [(cLst [(cTup [(cC (.int 0)), (cC (.int 1))]), (cTup [(cC (.int 2)), (cC (.int 3))])]), (cLst [(cTup [(cC (.int 1)), (cC (.int 2))])])]))]))])))
def f_law : List Sl → Out R := defD 5 b_law
theorem sc_law : FnScope ["script", "k", "cell", "well", "holds", "turn"] ["script"] (defScope (top 38)) := (C8.fnScope_by rfl)
theorem c_law {P : Program} {w : World} {K : PySem.W.Frag} {mg : Str → Option Value} {base : Heap} (G : Gx K mg) (c__law_well : CalD P w K mg base 1 "_law_well" ["cell"] f__law_well) (c__law_holds : CalD P w K mg base 3 "_law_holds" ["well", "many"] f__law_holds) (c__law_draw : CalD P w K mg base 1 "_law_draw" ["well", "many"] f__law_draw) (c__law_stretch : CalD P w K mg base 2 "_law_stretch" ["well", "many"] f__law_stretch) (c__law_row : CalD P w K mg base 2 "_law_row" ["well", "many"] f__law_row) (c__law_row_right : CalD P w K mg base 13 "_law_row_right" ["row"] f__law_row_right) (c__law_holds_right : CalD P w K mg base 13 "_law_holds_right" ["holds"] f__law_holds_right) (c_holds_text : CalD P w K mg base 4 "holds_text" ["holds"] f_holds_text) (c_read_holds : CalD P w K mg base 4 "read_holds" ["text"] f_read_holds) : CalD P w K mg base 14 "law" ["script"] f_law := by
  refine cal_ok (st := top 38) (N := ["script", "k", "cell", "well", "holds", "turn"]) (ps := ["script"]) (k := 13) G.d_law sc_law rfl ?_
  intro f cdv A outer s H E hr
  have hu := room_units hr
  have hp := @owns_body (L2.CX P w) P w K mg base ["script", "k", "cell", "well", "holds", "turn"] "law" (defScope (top 38)) f cdv A outer s H E
  exact (pssd_cons (psd_for (vs := [1, 2]) hp rfl (pid_enum rfl G.z_enumerate (pd_bin (pd_lst (PAs.cons pd_int (fun _ => rfl) (PAs.cons pd_int (fun _ => rfl) PAs.nil))) (pd_slice (pd_v rfl) PPart.none (PPart.some pd_int))) (fun _ => rfl)) (pgd_tup rfl (pgl_cons (pgd_n sc_law.nd rfl) rfl (pgl_cons (pgd_n sc_law.nd rfl) rfl PGl.nil))) (pssd_cons (psd_s sc_law.nd rfl (pd_cal takes_body c__law_well rfl hr (by decide) rfl (PAs.cons (pd_v rfl) (fun _ => rfl) PAs.nil) rfl) rfl)
    (pssd_cons (psd_s sc_law.nd rfl (pd_cal takes_body c__law_holds rfl hr (by decide) rfl (PAs.cons (pd_v rfl) (fun _ => rfl) (PAs.cons pd_int (fun _ => rfl) PAs.nil)) rfl) rfl)
    (pssd_cons (psd_if (pb_ands (PBs.cons (pb_chain hu (pd_v rfl) (Lnk.one pd_int) rfl) (PBs.one (pb_chain hu (pd_cal takes_body c__law_draw rfl hr (by decide) rfl (PAs.cons (pd_v rfl) (fun _ => rfl) (PAs.cons pd_int (fun _ => rfl) PAs.nil)) rfl) (Lnk.one pd_int) rfl)))) (pssd_one (psd_s sc_law.nd rfl (pd_tup (PAs.cons (pd_lcv (own := [((Str.ofString "turn"), 5)]) rfl sc_law.nd rfl (pid_rng1 rfl G.z_range (PAs.cons pd_int (fun _ => rfl) PAs.nil) (fun _ => rfl)) (blkOk_by rfl) (fun _ _ _ _ _ => (pgd_n sc_law.nd rfl)) (fun _ _ _ _ _ => pts0) (fun _ _ _ _ _ => (pd_cal takes0 c__law_stretch rfl hr (by decide) rfl (PAs.cons (pd_v rfl) (fun _ => rfl) (PAs.cons pd_int (fun _ => rfl) PAs.nil)) rfl)) (fun _ => rfl)) (fun _ => rfl) (PAs.cons (pd_lcv (own := [((Str.ofString "turn"), 5)]) rfl sc_law.nd rfl (pid_rng1 rfl G.z_range (PAs.cons pd_int (fun _ => rfl) PAs.nil) (fun _ => rfl)) (blkOk_by rfl) (fun _ _ _ _ _ => (pgd_n sc_law.nd rfl)) (fun _ _ _ _ _ => pts0) (fun _ _ _ _ _ => (pd_cal takes0 c__law_stretch rfl hr (by decide) rfl (PAs.cons (pd_v rfl) (fun _ => rfl) (PAs.cons pd_int (fun _ => rfl) PAs.nil)) rfl)) (fun _ => rfl)) (fun _ => rfl) PAs.nil))) rfl)) pssd_nil)
    (pssd_one (psd_if (pb_ors (PBs.cons (pb_not (pb_tru (pd_cal takes_body c__law_row_right rfl hr (by decide) rfl (PAs.cons (pd_cal takes_body c__law_row rfl hr (by decide) rfl (PAs.cons (pd_v rfl) (fun _ => rfl) (PAs.cons (pd_bin pd_int (pd_cal takes_body c__law_draw rfl hr (by decide) rfl (PAs.cons (pd_v rfl) (fun _ => rfl) (PAs.cons pd_int (fun _ => rfl) PAs.nil)) rfl)) (fun _ => rfl) PAs.nil)) rfl) (fun _ => rfl) PAs.nil) rfl) (fun _ => rfl))) (PBs.one (pb_not (pb_tru (pd_cal takes_body c__law_holds_right rfl hr (by decide) rfl (PAs.cons (pd_v rfl) (fun _ => rfl) PAs.nil) rfl) (fun _ => rfl)))))) (pssd_one (psd_ret pd_bl)) pssd_nil))))) (fun _ => rfl))
    (pssd_one (psd_ret (pd_ands (PDs.cons (pd_chain hu (pd_cal takes_body c_holds_text rfl hr (by decide) rfl (PAs.cons (pd_tup (PAs.cons (pd_lst PAs.nil) (fun _ => rfl) (PAs.cons (pd_lst PAs.nil) (fun _ => rfl) PAs.nil))) (fun _ => rfl) PAs.nil) rfl) (Lnk.one pd_str) rfl) (PDs.one (pd_chain hu (pd_cal takes_body c_read_holds rfl hr (by decide) rfl (PAs.cons pd_str (fun _ => rfl) PAs.nil) rfl) (Lnk.one (pd_tup (PAs.cons (pd_lst (PAs.cons (pd_tup (PAs.cons pd_int (fun _ => rfl) (PAs.cons pd_int (fun _ => rfl) PAs.nil))) (fun _ => rfl) (PAs.cons (pd_tup (PAs.cons pd_int (fun _ => rfl) (PAs.cons pd_int (fun _ => rfl) PAs.nil))) (fun _ => rfl) PAs.nil))) (fun _ => rfl) (PAs.cons (pd_lst (PAs.cons (pd_tup (PAs.cons pd_int (fun _ => rfl) (PAs.cons pd_int (fun _ => rfl) PAs.nil))) (fun _ => rfl) PAs.nil)) (fun _ => rfl) PAs.nil)))) rfl)))))))
theorem c_all {P : Program} {w : World} {K : PySem.W.Frag} {mg : Str → Option Value} {base : Heap} (G : Gx K mg) : CalD P w K mg base 14 "law" ["script"] f_law := by
  have c__law_well := c__law_well (P := P) (w := w) (base := base) G 
  have c__law_draw := c__law_draw (P := P) (w := w) (base := base) G 
  have c__law_stretch := c__law_stretch (P := P) (w := w) (base := base) G c__law_draw
  have c__law_holds := c__law_holds (P := P) (w := w) (base := base) G c__law_draw c__law_stretch
  have c_is_whole := c_is_whole (P := P) (w := w) (base := base) G 
  have c_is_stretch := c_is_stretch (P := P) (w := w) (base := base) G c_is_whole
  have c_is_holds := c_is_holds (P := P) (w := w) (base := base) G c_is_whole c_is_stretch
  have c_holds_text := c_holds_text (P := P) (w := w) (base := base) G c_is_holds
  have c_need_text := c_need_text (P := P) (w := w) (base := base) G 
  have c_stretch_in := c_stretch_in (P := P) (w := w) (base := base) G 
  have c_read_holds := c_read_holds (P := P) (w := w) (base := base) G c_need_text c_stretch_in c_is_holds
  have c_is_row := c_is_row (P := P) (w := w) (base := base) G c_is_whole
  have c_need_row := c_need_row (P := P) (w := w) (base := base) G c_is_row
  have c_number_text := c_number_text (P := P) (w := w) (base := base) G 
  have c_row_text := c_row_text (P := P) (w := w) (base := base) G c_need_row c_number_text
  have c_number_in := c_number_in (P := P) (w := w) (base := base) G 
  have c_read_row := c_read_row (P := P) (w := w) (base := base) G c_need_text c_number_in c_is_row
  have c__law_figures := c__law_figures (P := P) (w := w) (base := base) G 
  have q0 := (cal_st (P := P) (w := w) (base := base) G.d__law_same).mono (Nat.zero_le 0)
  have q1 := c1__law_same (g := f__law_same 0) G  (by decide) q0
  have q2 := c1__law_same (g := f__law_same 1) G  (by decide) q1
  have q3 := c1__law_same (g := f__law_same 2) G  (by decide) q2
  have q4 := c1__law_same (g := f__law_same 3) G  (by decide) q3
  have q5 := c1__law_same (g := f__law_same 4) G  (by decide) q4
  have q6 := c1__law_same (g := f__law_same 5) G  (by decide) q5
  have q7 := c1__law_same (g := f__law_same 6) G  (by decide) q6
  have q8 := c1__law_same (g := f__law_same 7) G  (by decide) q7
  have q9 := c1__law_same (g := f__law_same 8) G  (by decide) q8
  have q10 := c1__law_same (g := f__law_same 9) G  (by decide) q9
  have q11 := c1__law_same (g := f__law_same 10) G  (by decide) q10
  have q12 := c1__law_same (g := f__law_same 11) G  (by decide) q11
  have c__law_same := q12
  have c__law_row_right := c__law_row_right (P := P) (w := w) (base := base) G c__law_figures c_row_text c_read_row c__law_same
  have c__law_holds_written := c__law_holds_written (P := P) (w := w) (base := base) G 
  have c__law_holds_right := c__law_holds_right (P := P) (w := w) (base := base) G c__law_holds_written c_holds_text c__law_same (c_rh (P := P) (w := w) (base := base) G c_need_text c_stretch_in c_is_holds)
  have c__law_row := c__law_row (P := P) (w := w) (base := base) G c__law_draw
  have c_law := c_law (P := P) (w := w) (base := base) G c__law_well c__law_holds c__law_draw c__law_stretch c__law_row c__law_row_right c__law_holds_right c_holds_text c_read_holds
  exact c_law
end K49
namespace K49
open PySem PySem.Spec PyProof.Rows L2 PV
abbrev iL (l : List Int) : D := .lst (l.map D.int)
/-- a well: two numbers -/
def Well (w : D) : Prop := ∃ a b : Int, w = .lst [.int a, .int b] ∧ 0 ≤ a ∧ 0 ≤ b ∧ b < 2147483629
theorem log_le {n k : Nat} (h : n < 2 ^ k) (hk : 0 < k) : n.log2 < k := by
  by_cases h0 : n = 0
  · subst h0; simpa using hk
  · exact (Nat.log2_lt h0).mpr h
theorem well_ok (c : Int) : ∃ w, f__law_well [.sh (.int c)] = .ok (.ow w) [.no] ∧ Well w := by
  have e : (10 : Int) ^ (18 : Int).toNat = 1000000000000000000 := by decide
  by_cases h : c ≥ 1000000000000000000
  · refine ⟨.lst [.int c, .int (c % 2147483629)], ?_, c, _, rfl, by omega, by omega, by omega⟩
    simp [f__law_well, b__law_well, binD, powOk, e, cmpD, h, fit, sizeLine_eq, retR, lentOf, lent1]
  · refine ⟨.lst [.int 0, .int (c % 2147483629)], ?_, 0, _, rfl, by omega, by omega, by omega⟩
    simp [f__law_well, b__law_well, binD, powOk, e, cmpD, h, fit, sizeLine_eq, retR, lentOf, lent1]
theorem mulOk_small {i j : Int} (hi : i.natAbs < 2 ^ 100) (hj : j.natAbs < 2 ^ 100) : mulOk i j = true := by
  unfold mulOk
  have h1 := log_le hi (by decide)
  have h2 := log_le hj (by decide)
  exact decide_eq_true (by omega)
theorem divOk_small {j : Int} (h0 : 0 < j) (hj : j.natAbs < 2 ^ 100) : divOk j = true := by
  unfold divOk
  have h1 := log_le hj (by decide)
  rw [decide_eq_true h0, decide_eq_true (show j.natAbs.log2 < 9000 by omega)]; rfl
theorem ixN2 (x y : D) : atI [x, y] 0 = some x ∧ atI [x, y] 1 = some y := ⟨rfl, rfl⟩
theorem ixn2 : ixN 2 0 = some 0 ∧ ixN 2 1 = some 1 := ⟨by decide, by decide⟩
theorem draw_ok {w : D} {m : Int} (hw : Well w) (hm : 0 < m) (hm2 : m.natAbs < 2 ^ 100) : ∃ r w', f__law_draw [.ow true w, .sh (.int m)] = .ok (.sh (.int r)) [.ow true w', .no] ∧ 0 ≤ r ∧ r < m ∧ Well w' := by
  obtain ⟨a, b, rfl, ha, hb, hb2⟩ := hw
  have hd := divOk_small hm hm2
  by_cases h : 0 < a
  · refine ⟨a % m, .lst [.int (a / m), .int b], ?_, Int.emod_nonneg _ (by omega), Int.emod_lt_of_pos _ hm, _, _, rfl, Int.ediv_nonneg ha (by omega), hb, hb2⟩
    simp [f__law_draw, b__law_draw, binD, ixD, (ixN2 _ _).1, cmpD, h, hm, hd, setD, ixn2.1, retR, lentOf, lent1]
  · have h1 : mulOk b 48271 = true := mulOk_small (by omega) (by decide)
    have s0 : 0 ≤ (b * 48271 + 11) % 2147483647 ∧ (b * 48271 + 11) % 2147483647 < 2147483647 := ⟨by omega, by omega⟩
    have s1 : 0 ≤ ((b * 48271 + 11) % 2147483647) * ((b * 48271 + 11) % 2147483647) % 2147483587 ∧ ((b * 48271 + 11) % 2147483647) * ((b * 48271 + 11) % 2147483647) % 2147483587 < 2147483587 := ⟨Int.emod_nonneg _ (by decide), Int.emod_lt_of_pos _ (by decide)⟩
    have h2 : mulOk ((b * 48271 + 11) % 2147483647) ((b * 48271 + 11) % 2147483647) = true := mulOk_small (by omega) (by omega)
    have h3 : mulOk (((b * 48271 + 11) % 2147483647) * ((b * 48271 + 11) % 2147483647) % 2147483587) 69621 = true := mulOk_small (by omega) (by decide)
    have h8 : divOk 8 = true := divOk_small (by decide) (by decide)
    refine ⟨(((((b * 48271 + 11) % 2147483647) * ((b * 48271 + 11) % 2147483647) % 2147483587) * 69621 + 40692) % 2147483629) / 8 % m, .lst [.int a, .int (((((b * 48271 + 11) % 2147483647) * ((b * 48271 + 11) % 2147483647) % 2147483587) * 69621 + 40692) % 2147483629)], ?_, ?_, ?_, _, _, rfl, ha, by omega, by omega⟩
    · simp [f__law_draw, b__law_draw, binD, ixD, (ixN2 _ _).1, (ixN2 _ _).2, cmpD, h, hm, hd, setD, ixn2.2, retR, lentOf, lent1, h1, h2, h3, h8]
    · exact Int.emod_nonneg _ (by omega)
    · exact Int.emod_lt_of_pos _ hm
theorem set_get {δ : List Sl} {i : Nat} {s : Sl} (h : δ[i]? = some s) : δ.set i s = δ := by
  refine List.ext_getElem? fun j => ?_
  rw [List.getElem?_set]
  split
  · rename_i e; subst e
    split
    · exact h.symm
    · rename_i hl; rw [List.getElem?_eq_none (by omega)] at h; cases h
  · rfl
theorem draw_call {δ : List Sl} {i : Nat} {b : Bool} {w : D} {fm : EV} {m : Int} (h : δ[i]? = some (.ow b w)) (hf : fm δ = .ok (.sh (.int m)) δ) (hw : Well w) (hm : 0 < m) (hm2 : m.natAbs < 2 ^ 100) :
    ∃ r w', cCal f__law_draw [true, false] [cVar i, fm] δ = .ok (.sh (.int r)) (δ.set i (.ow b w')) ∧ 0 ≤ r ∧ r < m ∧ Well w' := by
  obtain ⟨r, w', e, h1, h2, h3⟩ := draw_ok hw hm hm2
  refine ⟨r, w', ?_, h1, h2, h3⟩
  simp [h, hf, apart, ioIx, rdIx, argsOf, e, backs, immR, immD, cleanA]
theorem draw_const {δ : List Sl} {i : Nat} {b : Bool} {w : D} {m : Int} (h : δ[i]? = some (.ow b w)) (hw : Well w) (hm : 0 < m) (hm2 : m.natAbs < 2 ^ 100) :
    ∃ r w', cCal f__law_draw [true, false] [cVar i, cC (.int m)] δ = .ok (.sh (.int r)) (δ.set i (.ow b w')) ∧ 0 ≤ r ∧ r < m ∧ Well w' := draw_call h rfl hw hm hm2
end K49
namespace K49
open PySem PySem.Spec PyProof.Rows L2 PV TL
theorem is_ii : isAny "int" ["int"] = some true := by decide +kernel
theorem is_ib : isAny "int" ["bool"] = some false := by decide +kernel
theorem is_is : isAny "int" ["str"] = some false := by decide +kernel
theorem is_it : isAny "int" ["tuple", "list"] = some false := by decide +kernel
theorem is_ss : isAny "str" ["str"] = some true := by decide +kernel
theorem is_tt : isAny "tuple" ["tuple"] = some true := by decide +kernel
theorem is_tl : isAny "tuple" ["list"] = some false := by decide +kernel
theorem is_lt : isAny "list" ["tuple"] = some false := by decide +kernel
theorem is_ll : isAny "list" ["list"] = some true := by decide +kernel
theorem is_t2 : isAny "tuple" ["tuple", "list"] = some true := by decide +kernel
theorem is_l2 : isAny "list" ["tuple", "list"] = some true := by decide +kernel
theorem whole_ok (n : Int) : f_is_whole [.sh (.int n)] = .ok (.sh (.bl true)) [.no] := by
  simp [f_is_whole, b_is_whole, tyD, is_ii, is_ib, truD]
theorem row_turn (n : Int) (d : D) : turn (gN 1) (cNot (cTru (cCal f_is_whole [false] [(cVar 1)]))) (cVar 1) (.int n) [.sh d, .no] = .ok none [.sh d, .sh (.int n)] := by
  simp [turn, whole_ok, truD]
theorem is_row_ok (row : List Int) (h1 : 1 ≤ row.length) (h2 : row.length ≤ 9) : f_is_row [.sh (iL row)] = .ok (.sh (.bl true)) [.no] := by
  have hl := loop_pure (gv := gN 1) (t := cNot (cTru (cCal f_is_whole [false] [(cVar 1)]))) (f := cVar 1) (vs := [1]) (W := [.sh (iL row), .no]) (res := fun _ => none) (ds := row.map D.int) (acc := []) (δ := [.sh (iL row), .no]) (fun d hd => by
    obtain ⟨n, _, rfl⟩ := List.mem_map.mp hd
    exact ⟨_, row_turn n _, by simp⟩) (by simp) (by rw [sizeLine_eq]; simp; omega)
  have e1 : (1 : Int) ≤ (row.length : Int) := by omega
  have e2 : (row.length : Int) ≤ 9 := by omega
  have e0 : List.filterMap (fun _ : D => (none : Option D)) (row.map D.int) = [] := by simp [List.filterMap_eq_nil_iff]
  rw [e0] at hl
  simp [f_is_row, b_is_row, tyD, is_ll, lenD, cmpD, e1, e2, truD, itD, hl]
  rfl
/-! ### numbers as texts -/
def num (k : Nat) : Str := Str.ofString (toString ((k : Nat) : Int))
def tilde (n : Int) : Str := strRep (Str.ofString "~") (if n < 0 then 1 else 0)
def numText (n : Int) : Str := tilde n ++ num n.natAbs
def Small (n : Int) : Prop := n.natAbs < 10 ^ 13
theorem tl_num' (k : Nat) : tl (num k) = numL k := tl_num k
theorem tl_tilde (n : Int) : tl (tilde n) = if n < 0 then [126] else [] := by
  unfold tilde
  by_cases h : n < 0
  · rw [if_pos h, if_pos h]; decide
  · rw [if_neg h, if_neg h]; decide
theorem tl_numText (n : Int) : tl (numText n) = (if n < 0 then [126] else []) ++ numL n.natAbs := by
  unfold numText
  rw [tl_append, tl_tilde, tl_num']
theorem num_len {k : Nat} (h : k < 10 ^ 13) : (num k).length ≤ 13 := by
  rw [len_tl, tl_num']
  exact numL_len (by decide) h
theorem tilde_len (n : Int) : (tilde n).length ≤ 1 := by
  rw [len_tl, tl_tilde]
  split <;> simp
theorem abs_nat (n : Int) : (if n < 0 then -n else n) = ((n.natAbs : Nat) : Int) := by omega
theorem tilde_ev (n : Int) : binD .Mult (.str (Str.ofString "~")) (.int (if n < 0 then 1 else 0)) = some (.sh (.str (tilde n))) := by
  unfold tilde
  by_cases h : n < 0
  · simp only [h, if_true]; rfl
  · simp only [h, if_false]; rfl
theorem add_str {a b : Str} (h : a.length + b.length ≤ 16777216) : binD .Add (.str a) (.str b) = some (.sh (.str (a ++ b))) := by
  have : fit (a.length + b.length) = true := decide_eq_true (by rw [sizeLine_eq]; exact h)
  simp [binD, this]
theorem str_ev {k : Nat} (h : k < 10 ^ 13) : strD [.int ((k : Nat) : Int)] = some (.sh (.str (num k))) := by
  have : k.log2 < 1920 := by
    exact Nat.lt_of_lt_of_le (log_le (k := 100) (by omega) (by decide)) (by decide)
  simp [strD, this, num]
theorem ite_bl (p : Prop) [Decidable p] : (if decide p = true then (1 : Int) else 0) = if p then 1 else 0 := by simp
theorem number_text_ok {n : Int} (h : Small n) : f_number_text [.sh (.int n)] = .ok (.sh (.str (numText n))) [.no] := by
  have e1 := tilde_ev n
  have e2 := str_ev h
  have e3 : binD .Add (.str (tilde n)) (.str (num n.natAbs)) = some (.sh (.str (numText n))) := add_str (by have := num_len h; have := tilde_len n; omega)
  simp [f_number_text, b_number_text, cmpD, PV.intD, absD, abs_nat, e1, e2, e3]
end K49
namespace K49
open PySem PySem.Spec PyProof.Rows L2 PV TL
theorem fig_at : ∀ d : Nat, d < 10 → atI (Str.ofString "0123456789").cps.toList (d : Int) = some (48 + d) := by decide
theorem ix_fig {d : Nat} (h : d < 10) : ixD (.str (Str.ofString "0123456789")) (.int (d : Int)) = some (.sh (.str ⟨#[48 + d]⟩)) := by
  have hf : fit (Str.ofString "0123456789").length = true := by decide
  simp [ixD, hf, fig_at d h]
def figC : BV := (cChainB (cVar 2) [(.Gt, (cC (.int 9)))])
def figB : SV := (sSeq (sAsg (cBin .Add (cIx (cC (.str (Str.ofString "0123456789"))) (cBin .Mod (cVar 2) (cC (.int 10)))) (cVar 1)) (gN 1)) (sAsg (cBin .FloorDiv (cVar 2) (cC (.int 10))) (gN 2)))
theorem wh_step {c : BV} {b : SV} {n : Nat} {δ : List Sl} : sWh c b (n + 1) δ = (c δ).toS fun k δ1 => if k = true then (match b δ1 with
    | .nx δ2 => sWh c b n δ2
    | .ct δ2 => sWh c b n δ2
    | .bk δ2 => .nx δ2
    | o => o) else .nx δ1 := rfl
theorem div10 : divOk 10 = true := divOk_small (by decide) (by decide)
theorem fig_loop (n : Int) : ∀ (k left : Nat) (t : Str), left < 10 ^ (k + 1) → t.length + k ≤ 1000 → ∃ (t' : Str) (left' : Nat), sWh figC figB (k + 1) [.sh (.int n), .sh (.str t), .sh (.int left)] = .nx [.sh (.int n), .sh (.str t'), .sh (.int left')] ∧ left' < 10 ∧ numL left ++ tl t = numL left' ++ tl t' ∧ t'.length ≤ t.length + k
  | 0, left, t, h, _ => by
    have h1 : ¬ (9 : Int) < (left : Int) := by omega
    refine ⟨t, left, ?_, by omega, rfl, by omega⟩
    rw [wh_step]
    simp [figC, cmpD, h1]
  | k + 1, left, t, h, hz => by
    rw [wh_step]
    by_cases h1 : (9 : Int) < (left : Int)
    · have hm : ((left : Int)) % 10 = ((left % 10 : Nat) : Int) := by omega
      have hd : ((left : Int)) / 10 = ((left / 10 : Nat) : Int) := by omega
      have hx := ix_fig (d := left % 10) (by omega)
      have tlz : tl (⟨#[48 + left % 10]⟩ ++ t : Str) = (48 + left % 10) :: tl t := by rw [tl_append]; rfl
      have l1 : (⟨#[48 + left % 10]⟩ ++ t : Str).length = t.length + 1 := by rw [len_tl, tlz, List.length_cons, ← len_tl]
      have ha := add_str (a := ⟨#[48 + left % 10]⟩) (b := t) (by show 1 + t.length ≤ _; omega)
      obtain ⟨t', left', e, e1, e2, e3⟩ := fig_loop n k (left / 10) (⟨#[48 + left % 10]⟩ ++ t) (by rw [Nat.pow_succ] at h; omega) (by omega)
      refine ⟨t', left', ?_, e1, ?_, by omega⟩
      · rw [← e]
        have m10 : binD .Mod (.int (left : Int)) (.int 10) = some (.sh (.int ((left % 10 : Nat) : Int))) := by rw [← hm]; rfl
        have d10 : binD .FloorDiv (.int (left : Int)) (.int 10) = some (.sh (.int ((left / 10 : Nat) : Int))) := by rw [← hd]; simp [binD, div10]
        have g9 : cmpD .Gt (.int (left : Int)) (.int 9) = some true := by simp [cmpD, h1]
        have st : figB [.sh (.int n), .sh (.str t), .sh (.int (left : Int))] = .nx [.sh (.int n), .sh (.str (⟨#[48 + left % 10]⟩ ++ t)), .sh (.int ((left / 10 : Nat) : Int))] := by
          simp only [figB, ev_sSeq, ev_sAsg, ev_cBin, ev_cIx, ev_c2, ev_cC, ev_bind_ok, ev_cVar, List.getElem?_cons_zero, List.getElem?_cons_succ, ev_stl_sh, ev_look_sh, ev_ofO_some, m10, hx, ha, ev_toS_ok, ev_gN, ev_free1, ev_nxt, ev_seq_nx, if_true, List.set_cons_zero, List.set_cons_succ, d10]
        have ct : figC [.sh (.int n), .sh (.str t), .sh (.int (left : Int))] = .ok true [.sh (.int n), .sh (.str t), .sh (.int (left : Int))] := by
          simp only [figC, ev_chain, ev_link1, ev_cC, ev_bind_ok, ev_cVar, List.getElem?_cons_zero, List.getElem?_cons_succ, ev_stl_sh, ev_look_sh, ev_ofO_some, ev_cmpR, g9]
        rw [ct, ev_toS_ok, if_pos rfl, st]
      · rw [← e2, tlz, numL_step (n := left) (by omega), List.append_assoc]; rfl
    · refine ⟨t, left, ?_, by omega, rfl, by omega⟩
      simp [figC, cmpD, h1]
theorem figures_ok {n : Int} (h : Small n) : f__law_figures [.sh (.int n)] = .ok (.sh (.str (numText n))) [.no] := by
  have hs : n.natAbs < 10 ^ (399 + 1) := Nat.lt_of_lt_of_le h (Nat.pow_le_pow_right (by decide) (by decide))
  obtain ⟨t', left', e, e1, e2, e3⟩ := fig_loop n 399 n.natAbs (Str.ofString "") hs (by decide)
  have z : (Str.ofString "").length = 0 := by decide
  have hx := ix_fig e1
  have ha := add_str (a := tilde n) (b := ⟨#[48 + left']⟩) (by have := tilde_len n; show _ + 1 ≤ _; omega)
  have hl : (tilde n ++ ⟨#[48 + left']⟩ : Str).length ≤ 2 := by
    rw [len_tl, tl_append]
    have := tilde_len n
    rw [len_tl] at this
    simp; omega
  have hb := add_str (a := tilde n ++ ⟨#[48 + left']⟩) (b := t') (by omega)
  have et : tilde n ++ ⟨#[48 + left']⟩ ++ t' = numText n := by
    refine ext_tl ?_
    have nl : numL n.natAbs = numL left' ++ tl t' := by
      rw [← e2]
      have : tl (Str.ofString "") = [] := by decide
      rw [this, List.append_nil]
    rw [tl_numText, tl_append, tl_append, tl_tilde, nl, numL_lt e1, List.append_assoc]
  rw [et] at hb
  have wf : wf__law_figures = 399 + 1 := rfl
  have e' : sWh (cChainB (cVar 2) [(.Gt, (cC (.int 9)))]) (sSeq (sAsg (cBin .Add (cIx (cC (.str (Str.ofString "0123456789"))) (cBin .Mod (cVar 2) (cC (.int 10)))) (cVar 1)) (gN 1)) (sAsg (cBin .FloorDiv (cVar 2) (cC (.int 10))) (gN 2))) wf__law_figures [.sh (.int n), .sh (.str (Str.ofString "")), .sh (.int (n.natAbs : Nat))] = _ := e
  have et := tilde_ev n
  have ab : absD [.int n] = some (.sh (.int (n.natAbs : Nat))) := by simp only [absD, abs_nat]
  have ii : PV.intD [.bl (decide (n < 0))] = some (.sh (.int (if n < 0 then 1 else 0))) := by simp [PV.intD]
  simp only [f__law_figures, b__law_figures, ev_defD, List.replicate, List.cons_append, List.nil_append, ev_sSeq, ev_sAsg, ev_cC, ev_toS_ok, ev_gN, ev_free1, ev_nxt, ev_seq_nx, if_true, List.getElem?_cons_zero, List.getElem?_cons_succ, List.set_cons_zero, List.set_cons_succ,
    ev_cFn, ev_args1, ev_args0, ev_cVar, ev_bind_ok, ev_stl_sh, ev_looks1, ev_looks0, ev_look_sh, ab, ev_ofO_some, e', ev_sRet, ev_cBin, ev_cIx, ev_c2, ev_asV, ev_chain, ev_link1, ev_cmpR, cmpD, ii, et, hx, ha, hb, ev_out_rt, ev_retsh, ev_lo1, ev_lo0, ev_l1]
end K49
namespace K49
open PySem PySem.Spec PyProof.Rows L2 PV TL
def blank : Str := Str.ofString " "
def rowText (row : List Int) : Str := Txt.join blank (row.map numText)
theorem numText_len {n : Int} (h : Small n) : (numText n).length ≤ 14 := by
  unfold numText
  have h1 := tilde_len n
  have h2 := num_len h
  rw [len_tl] at h1 h2 ⊢
  rw [tl_append, List.length_append]
  omega
structure Row (row : List Int) : Prop where
  lo : 1 ≤ row.length
  hi : row.length ≤ 9
  sm : ∀ n ∈ row, Small n
theorem sum_le : ∀ {l : List Nat} {b : Nat}, (∀ x ∈ l, x ≤ b) → l.sum ≤ b * l.length
  | [], b, _ => by simp
  | x :: l, b, h => by
    have h1 := h x List.mem_cons_self
    have h2 := sum_le (l := l) fun y hy => h y (List.mem_cons_of_mem _ hy)
    rw [List.sum_cons, List.length_cons, Nat.mul_add]
    omega
theorem allStr_map' (ys : List Str) : allStr (ys.map D.str) = some ys := by
  induction ys with
  | nil => rfl
  | cons y ys ih => simp [allStr, ih]
theorem join_row {row : List Int} (h : Row row) : joinD [.str (Str.ofString " "), .lst (row.map fun n => .str (numText n))] = some (.sh (.str (rowText row))) := by
  have e : (row.map fun n => D.str (numText n)) = (row.map numText).map D.str := by simp
  have l1 : (Str.ofString " ").length = 1 := by decide
  have z : joinOk (Str.ofString " ") (row.map numText) = true := by
    refine decide_eq_true ?_
    have h1 := sum_le (l := (row.map numText).map (·.length)) (b := 14) (by
      intro x hx
      simp only [List.mem_map] at hx
      obtain ⟨_, ⟨n, hn, rfl⟩, rfl⟩ := hx
      exact numText_len (h.sm n hn))
    have h2 := h.hi
    rw [l1]
    simp only [List.length_map] at h1 ⊢
    omega
  rw [e]
  simp only [joinD, allStr_map', Option.bind_some, z, if_true]
  rfl
theorem need_row_ok {row : List Int} (h : Row row) : f_need_row [.sh (iL row)] = .ok (.sh .non) [.no] := by
  have e := is_row_ok row h.lo h.hi
  simp [f_need_row, b_need_row, e, truD]
theorem row_text_ok {row : List Int} (h : Row row) : f_row_text [.sh (iL row)] = .ok (.sh (.str (rowText row))) [.no] := by
  have e := need_row_ok h
  have c := loop_map (gv := gN 1) (t := tYesB) (f := cCal f_number_text [false] [(cVar 1)]) (vs := [1]) (W := [.sh (iL row), .no]) (δ1 := [.sh (iL row), .no]) D.int (fun n => .str (numText n)) (xs := row)
    (fun n hn => ⟨[.sh (iL row), .sh (.int n)], by simp [turn, number_text_ok (h.sm n hn)], by simp⟩) (by simp) (by rw [sizeLine_eq]; have := h.hi; omega)
  have j := join_row h
  simp [f_row_text, b_row_text, e, itD, c, tyOk, j]
end K49
namespace K49
open PySem PySem.Spec PyProof.Rows L2 PV TL
def figs : Str := Str.ofString "0123456789"
theorem tl_cut1 (z : Str) : tl (cutS z none (some 1)) = (tl z).take 1 := by
  unfold cutS
  rw [tl_mk]
  have e : HT.sIx z.length z.length (some 1) = min 1 z.length := HT.sIx_nat z.length z.length 1
  rw [e, HT.sIx_none]
  have hl : z.length = z.cps.toList.length := len_tl z
  simp only [Nat.sub_zero, List.drop_zero]
  by_cases h : 1 ≤ z.length
  · rw [Nat.min_eq_left h]
  · have : z.length = 0 := by omega
    have e2 : z.cps.toList = [] := List.eq_nil_of_length_eq_zero (by omega)
    simp only [show tl z = [] from e2, e2]; simp
theorem tl_cut2 (z : Str) : tl (cutS z (some 1) none) = (tl z).drop 1 := by
  unfold cutS
  rw [tl_mk]
  have e : HT.sIx z.length 0 (some 1) = min 1 z.length := HT.sIx_nat z.length 0 1
  rw [e, HT.sIx_none]
  have hl : z.length = z.cps.toList.length := len_tl z
  by_cases h : 1 ≤ z.length
  · rw [Nat.min_eq_left h, List.take_of_length_le (by rw [List.length_drop]; omega)]
  · have : z.length = 0 := by omega
    have e2 : z.cps.toList = [] := List.eq_nil_of_length_eq_zero (by omega)
    simp only [show tl z = [] from e2, e2]; simp
theorem head_num : ∀ (k : Nat), 0 < k → ∃ c r, numL k = c :: r ∧ 49 ≤ c ∧ c ≤ 57 := by
  intro k
  induction k using Nat.strongRecOn with
  | _ k ih =>
    intro hk
    by_cases h : k < 10
    · exact ⟨48 + k, [], numL_lt h, by omega, by omega⟩
    · obtain ⟨c, r, e, h1, h2⟩ := ih (k / 10) (by omega) (by omega)
      exact ⟨c, r ++ [48 + k % 10], by rw [numL_step (by omega), e]; rfl, h1, h2⟩
theorem head_num' (k : Nat) : ∃ c r, numL k = c :: r ∧ 48 ≤ c ∧ c ≤ 57 ∧ (c = 48 → k = 0) := by
  by_cases h : 0 < k
  · obtain ⟨c, r, e, h1, h2⟩ := head_num k h
    exact ⟨c, r, e, by omega, h2, fun z => by omega⟩
  · have : k = 0 := by omega
    subst this
    exact ⟨48, [], numL_lt (by decide), by decide, by decide, fun _ => rfl⟩
theorem fig_in : ∀ d : Nat, d < 10 → strIn ⟨#[48 + d]⟩ (Str.ofString "0123456789") = true := by decide +kernel
theorem fig_in' {c : Nat} (h1 : 48 ≤ c) (h2 : c ≤ 57) : strIn ⟨#[c]⟩ (Str.ofString "0123456789") = true := by
  have := fig_in (c - 48) (by omega)
  have e : 48 + (c - 48) = c := by omega
  rwa [e] at this
theorem one_eq {c d : Nat} : ((⟨#[c]⟩ : Str) = ⟨#[d]⟩) ↔ c = d := by
  constructor
  · intro h; injection h with h; simpa using h
  · rintro rfl; rfl
theorem str0 : Str.ofString "0" = ⟨#[48]⟩ := by decide
theorem str126 : Str.ofString "~" = ⟨#[126]⟩ := by decide
theorem atI_head {c : Nat} {r : List Nat} : atI (c :: r) 0 = some c := by
  have : ixN (c :: r).length 0 = some 0 := by
    unfold ixN
    simp
  unfold atI
  rw [this]
  rfl
theorem ix_head {z : Str} {c : Nat} {r : List Nat} (h : tl z = c :: r) (hz : z.length ≤ sizeLine) : ixD (.str z) (.int 0) = some (.sh (.str ⟨#[c]⟩)) := by
  have hf : fit z.length = true := decide_eq_true hz
  have e : z.cps.toList = c :: r := h
  simp [ixD, hf, e, atI_head]
theorem num_dig (k : Nat) : ∀ c ∈ tl (num k), 48 ≤ c ∧ c ≤ 57 := by
  rw [tl_num']
  exact numL_digits k
theorem sz {z : Str} (h : z.length ≤ 100) : z.length ≤ sizeLine := by rw [sizeLine_eq]; omega
/-- int(figures) -/
theorem int_num' {k : Nat} (h : k < 10 ^ 13) : PV.intD [.str (num k)] = some (.sh (.int (k : Int))) := by
  have hl := num_len h
  have e : PySem.intText? (num k) = some (k : Int) := int_num (by rw [← tl_num', ← len_tl]; omega)
  have h2 : (num k).length ≤ 640 := by omega
  simp [PV.intD, h2, e]
theorem num_loop {k : Nat} (h : k < 10 ^ 13) (d0 d1 : Sl) : cLoop (gN 2) (cChainB (cVar 2) [(.NotIn, (cC (.str (Str.ofString "0123456789"))))]) (cVar 2) [2] (chars (num k)) [] [d0, d1, .no] = .ok [] [d0, d1, .no] := by
  refine loop_none (W := [d0, d1, .no]) (fun d hd => ?_) (by simp) ?_
  · obtain ⟨c, hc, rfl⟩ := List.mem_map.mp hd
    obtain ⟨h1, h2⟩ := num_dig k c hc
    have e := fig_in' h1 h2
    exact ⟨[d0, d1, .sh (.str ⟨#[c]⟩)], by simp [turn, cmpD, inD, e], by simp⟩
  · unfold chars
    rw [List.length_map]
    have := num_len h
    exact sz (z := num k) (by omega)
theorem one_ix {b : Bool} : ixD (.lst [.int 1, .int (-1)]) (.int (if b = true then 1 else 0)) = some (.sh (.int (if b = true then -1 else 1))) := by cases b <;> rfl
theorem intD_t : PV.intD [.bl true] = some (.sh (.int 1)) := rfl
theorem intD_f : PV.intD [.bl false] = some (.sh (.int 0)) := rfl
theorem one_ixm : ixD (.lst [.int 1, .int (-1)]) (.int 1) = some (.sh (.int (-1))) := rfl
theorem one_ixp : ixD (.lst [.int 1, .int (-1)]) (.int 0) = some (.sh (.int 1)) := rfl
theorem number_in_ok {n : Int} (h : Small n) : f_number_in [.sh (.str (numText n))] = .ok (.sh (.int n)) [.no] := by
  obtain ⟨c, r, hc, c1, c2, c3⟩ := head_num' n.natAbs
  have hn : tl (num n.natAbs) = c :: r := by rw [tl_num']; exact hc
  have nl := num_len h
  have wl := numText_len h
  have lp := num_loop h (.sh (.str (numText n))) (.sh (.str (num n.natAbs)))
  have hi := int_num' h
  have nz : num n.natAbs ≠ Str.ofString "" := fun z => by
    rw [z] at hn
    have : tl (Str.ofString "") = [] := by decide
    rw [this] at hn; cases hn
  have h0 : ixD (.str (num n.natAbs)) (.int 0) = some (.sh (.str ⟨#[c]⟩)) := ix_head hn (sz (by omega))
  have f1 : fit (numText n).length = true := decide_eq_true (sz (by omega))
  have it : itD (.str (num n.natAbs)) = some (chars (num n.natAbs)) := rfl
  by_cases hneg : n < 0
  · have hw : tl (numText n) = 126 :: c :: r := by rw [tl_numText, if_pos hneg, hc]; rfl
    have a1 : cutS (numText n) none (some 1) = Str.ofString "~" := ext_tl (by rw [tl_cut1, hw, str126]; rfl)
    have a2 : cutS (numText n) (some 1) none = num n.natAbs := ext_tl (by rw [tl_cut2, hw, hn]; rfl)
    have w0 : ixD (.str (numText n)) (.int 0) = some (.sh (.str (Str.ofString "~"))) := by rw [ix_head hw (sz (by omega)), str126]
    have cz : c ≠ 48 := fun z => by have := c3 z; omega
    have c0 : ¬ (⟨#[c]⟩ : Str) = Str.ofString "0" := by rw [str0, one_eq]; exact cz
    have mz : mulOk ((n.natAbs : Nat) : Int) (-1) = true := mulOk_small (by have : n.natAbs < 10 ^ 13 := h; omega) (by decide)
    have ee : ((n.natAbs : Nat) : Int) * -1 = n := by omega
    have mm : binD .Mult (.int ((n.natAbs : Nat) : Int)) (.int (-1)) = some (.sh (.int n)) := by simp only [binD, mz, if_true, ee]
    have s1 : slD (.str (numText n)) none (some 1) = some (.sh (.str (Str.ofString "~"))) := by simp [slD, f1, a1]
    have s2 : slD (.str (numText n)) (some 1) none = some (.sh (.str (num n.natAbs))) := by simp [slD, f1, a2]
    simp [f_number_in, b_number_in, s1, s2, cmpD, nz, it, lp, h0, c0, w0, hi, mm, intD_t, fit, sizeLine_eq, one_ixm]
  · have hw : tl (numText n) = c :: r := by rw [tl_numText, if_neg hneg, hc]; rfl
    have we : numText n = num n.natAbs := ext_tl (by rw [hw, hn])
    rw [we] at lp f1 ⊢
    have a1 : ¬ cutS (num n.natAbs) none (some 1) = Str.ofString "~" := fun z => by
      have : tl (cutS (num n.natAbs) none (some 1)) = [126] := by rw [z, str126]
      rw [tl_cut1, hn] at this
      simp at this; omega
    have ct : ¬ (⟨#[c]⟩ : Str) = Str.ofString "~" := by rw [str126, one_eq]; omega
    have mz : mulOk ((n.natAbs : Nat) : Int) 1 = true := mulOk_small (by have : n.natAbs < 10 ^ 13 := h; omega) (by decide)
    have ee : ((n.natAbs : Nat) : Int) * 1 = n := by omega
    have mm : binD .Mult (.int ((n.natAbs : Nat) : Int)) (.int 1) = some (.sh (.int n)) := by simp only [binD, mz, if_true, ee]
    have s1 : slD (.str (num n.natAbs)) none (some 1) = some (.sh (.str (cutS (num n.natAbs) none (some 1)))) := by simp [slD, f1]
    by_cases c0 : c = 48
    · have k0 := c3 c0
      have e0 : num n.natAbs = Str.ofString "0" := by rw [k0]; decide
      have cc : (⟨#[c]⟩ : Str) = Str.ofString "0" := by rw [c0]; exact str0.symm
      have n0 : n = 0 := by omega
      simp [f_number_in, b_number_in, s1, a1, cmpD, nz, it, lp, h0, cc, hi, mm, intD_f, fit, sizeLine_eq, one_ixp]
      have hz : ¬ Str.ofString "0" = Str.ofString "~" := by decide
      rw [if_pos e0]
      simp [h0, cc, hz, hi, mm, intD_f, fit, sizeLine_eq, one_ixp, cmpD]
    · have c0' : ¬ (⟨#[c]⟩ : Str) = Str.ofString "0" := by rw [str0, one_eq]; exact c0
      simp [f_number_in, b_number_in, s1, a1, cmpD, nz, it, lp, h0, c0', ct, hi, mm, intD_f, fit, sizeLine_eq, one_ixp]
end K49
namespace K49
open PySem PySem.Spec PyProof.Rows L2 PV TL
theorem need_text_ok (t : Str) : f_need_text [.sh (.str t)] = .ok (.sh .non) [.no] := by
  simp [f_need_text, b_need_text, tyD, is_ss, truD]
theorem joinL_len (S : List Nat) : ∀ ps : List (List Nat), (joinL S ps).length ≤ (ps.map (·.length)).sum + ps.length * S.length
  | [] => by simp [joinL]
  | [p] => by simp [joinL]
  | p :: q :: ps => by
    have := joinL_len S (q :: ps)
    simp only [joinL, List.length_append, List.map_cons, List.sum_cons, List.length_cons, Nat.add_mul] at this ⊢
    omega
theorem join_len (y : Str) (ps : List Str) : (Txt.join y ps).length ≤ (ps.map (·.length)).sum + ps.length * y.length := by
  rw [len_tl, join_eq, tl_join]
  have := joinL_len (tl y) (ps.map tl)
  simp only [List.map_map, List.length_map] at this
  have e : (ps.map ((fun x => x.length) ∘ tl)) = ps.map (·.length) := by
    refine List.map_congr_left fun x _ => ?_
    exact (len_tl x).symm
  rw [e, ← len_tl] at this
  exact this
theorem tl_blank : tl blank = [32] := by decide
theorem blank_len : blank.length = 1 := by decide
theorem rowText_len {row : List Int} (h : Row row) : (rowText row).length ≤ 150 := by
  have h1 := join_len blank (row.map numText)
  have h2 := sum_le (l := (row.map numText).map (·.length)) (b := 14) (by
      intro x hx
      simp only [List.mem_map] at hx
      obtain ⟨_, ⟨n, hn, rfl⟩, rfl⟩ := hx
      exact numText_len (h.sm n hn))
  have h3 := h.hi
  rw [blank_len] at h1
  simp only [List.length_map] at h1 h2
  unfold rowText
  omega
theorem row_split {row : List Int} (h : Row row) : Txt.split (rowText row) blank = row.map numText := by
  refine split_join (y := blank) tl_blank (by decide +kernel) (by intro z; have := h.lo; rw [List.map_eq_nil_iff] at z; rw [z] at this; simp at this) fun p hp => ?_
  obtain ⟨n, hn, rfl⟩ := List.mem_map.mp hp
  rw [tl_numText]
  intro z
  rw [List.mem_append] at z
  rcases z with z | z
  · split at z <;> simp at z
  · have := numL_digits n.natAbs 32 z
    omega
theorem read_row_ok {row : List Int} (h : Row row) : f_read_row [.sh (.str (rowText row))] = .ok (.ow (iL row)) [.no] := by
  have e0 := need_text_ok (rowText row)
  have z := rowText_len h
  have s1 : splitD [.str (rowText row), .str (Str.ofString " ")] = some (.ow (.lst (row.map fun n => .str (numText n)))) := by
    have zz : decide ((rowText row).length + 2 ≤ sizeLine) = true := decide_eq_true (by rw [sizeLine_eq]; omega)
    have b1 : ((Str.ofString " ").length == 0) = false := by decide
    have rs := row_split h
    unfold blank at rs
    simp [splitD, zz, b1, rs]
  have c := loop_map (gv := gN 2) (t := tYesB) (f := cCal f_number_in [false] [(cVar 2)]) (vs := [2]) (W := [.sh (.str (rowText row)), .no, .no]) (δ1 := [.sh (.str (rowText row)), .no, .no]) (fun n => .str (numText n)) D.int (xs := row)
    (fun n hn => ⟨[.sh (.str (rowText row)), .no, .sh (.str (numText n))], by simp [turn, number_in_ok (h.sm n hn)], by simp⟩) (by simp) (by rw [sizeLine_eq]; have := h.hi; omega)
  have r := is_row_ok row h.lo h.hi
  have ri : immA (row.map D.int) = true := by
    clear r c s1 z e0 h
    induction row with
    | nil => rfl
    | cons n r ih => simpa [immA, immD] using ih
  simp [f_read_row, b_read_row, e0, s1, tyOk, itD, c, r, truD]
end K49
namespace K49
open PySem PySem.Spec PyProof.Rows L2 PV TL
def Sm (k : Nat) (d : D) : Prop := f__law_same k [.sh d, .sh d] = .ok (.sh (.bl true)) [.no, .no]
theorem same_eq (k : Nat) (x : List Sl) : f__law_same (k + 1) x = defD 1 (b__law_same (f__law_same k)) x := rfl
theorem same_int (k : Nat) (n : Int) : Sm (k + 1) (.int n) := by
  unfold Sm
  rw [same_eq]
  simp [b__law_same, tyD, is_it, is_is, is_ii, is_ib, truD, cmpD]
theorem ix_at {ds : List D} {i : Nat} {d : D} (h : ds[i]? = some d) : ixD (.lst ds) (.int (0 + (i : Int))) = some (.sh d) ∧ ixD (.tup ds) (.int (0 + (i : Int))) = some (.sh d) := by
  have e : atI ds (0 + (i : Int)) = some d := by rw [Int.zero_add]; exact atI_nat h
  rw [Int.zero_add] at e ⊢
  simp [ixD, e]
theorem same_loop {k : Nat} {ds : List D} (x : D) (hx : ∀ (i : Nat) d, ds[i]? = some d → ixD x (.int (0 + (i : Int))) = some (.sh d)) (hs : ∀ d ∈ ds, Sm k d) (hz : ds.length ≤ 100) :
    cLoop (gN 2) (cNot (cTru (cCal (f__law_same k) [false, false] [(cIx (cVar 0) (cVar 2)), (cIx (cVar 1) (cVar 2))]))) (cVar 2) [2] (rgL 0 ds.length) [] [.sh x, .sh x, .no] = .ok [] [.sh x, .sh x, .no] := by
  refine loop_none (W := [.sh x, .sh x, .no]) (fun d hd => ?_) (by simp) (by rw [rgL_len, sizeLine_eq]; omega)
  unfold rgL at hd
  obtain ⟨i, hi, rfl⟩ := List.mem_map.mp hd
  have hi := List.mem_range.mp hi
  have e := hx i _ (List.getElem?_eq_getElem hi)
  have s : f__law_same k [.sh ds[i], .sh ds[i]] = .ok (.sh (.bl true)) [.no, .no] := hs _ (List.getElem_mem hi)
  exact ⟨[.sh x, .sh x, .sh (.int (0 + (i : Int)))], by simp only [turn, ev_gN, ev_free1, ev_bind_ok, if_true, List.getElem?_cons_zero, List.getElem?_cons_succ, List.set_cons_zero, List.set_cons_succ, ev_cNot, ev_cTru, ev_cCal, ev_args1, ev_args0, ev_cIx, ev_c2, ev_cVar, ev_stl_sh, ev_look_sh, e, ev_ofO_some, ev_callK, ev_apart, ev_io1, ev_io0, ev_rd3, ev_rd0, List.nodup_nil, decide_true, List.all_nil, Bool.and_self, ev_ao1, ev_ao0, Option.map_some, s, ev_im1, ev_id2, ev_cl1, ev_cl0, ev_bk1, ev_bk0, ev_truR, truD, Bool.not_true, Bool.false_eq_true, if_false], by simp⟩
theorem rg_small {n : Nat} (h : n ≤ 100) : rngIt1 [.int (n : Int)] = some (rgL 0 n) := by
  have : rgOk (n : Int) = true := by
    unfold rgOk
    rw [decide_eq_true (by omega), decide_eq_true (by omega)]; rfl
  simp [rngIt1, this]
theorem same_lst {k : Nat} {ds : List D} (hs : ∀ d ∈ ds, Sm k d) (hz : ds.length ≤ 100) : Sm (k + 1) (.lst ds) := by
  have c := same_loop (.lst ds) (fun i d h => (ix_at h).1) hs hz
  have r := rg_small hz
  unfold Sm
  rw [same_eq]
  simp [b__law_same, tyD, is_l2, is_lt, is_ll, truD, cmpD, lenD, r, c, fit, sizeLine_eq]
theorem same_tup {k : Nat} {ds : List D} (hs : ∀ d ∈ ds, Sm k d) (hz : ds.length ≤ 100) : Sm (k + 1) (.tup ds) := by
  have c := same_loop (.tup ds) (fun i d h => (ix_at h).2) hs hz
  have r := rg_small hz
  unfold Sm
  rw [same_eq]
  simp [b__law_same, tyD, is_t2, is_tt, is_tl, truD, cmpD, lenD, r, c, fit, sizeLine_eq]
theorem same_row (row : List Int) (h : row.length ≤ 9) : f__law_same 12 [.sh (iL row), .sh (iL row)] = .ok (.sh (.bl true)) [.no, .no] :=
  same_lst (k := 11) (fun d hd => by
    obtain ⟨n, _, rfl⟩ := List.mem_map.mp hd
    exact same_int 10 n) (by simp; omega)
end K49
namespace K49
open PySem PySem.Spec PyProof.Rows L2 PV TL
theorem ix_iL {l : List Int} {j : Int} (h0 : 0 ≤ j) (h1 : j < l.length) : ∃ x ∈ l, ixD (.lst (l.map D.int)) (.int j) = some (.sh (.int x)) := by
  have hj : j.toNat < l.length := by omega
  refine ⟨l[j.toNat], List.getElem_mem hj, ?_⟩
  have e : j = ((j.toNat : Nat) : Int) := by omega
  have e2 : (l.map D.int)[j.toNat]? = some (.int l[j.toNat]) := by simp [hj]
  have e3 : atI (l.map D.int) j = some (.int l[j.toNat]) := (congrArg (atI (l.map D.int)) e).trans (atI_nat e2)
  simp [ixD, e3]
theorem pm_ix {r : Int} (h0 : 0 ≤ r) (h1 : r < 2) : ∃ s : Int, ixD (.lst [.int 1, .int (-1)]) (.int r) = some (.sh (.int s)) ∧ (s = 1 ∨ s = -1) := by
  have : r = 0 ∨ r = 1 := by omega
  rcases this with rfl | rfl
  · exact ⟨1, rfl, .inl rfl⟩
  · exact ⟨-1, rfl, .inr rfl⟩
theorem four_ix {r : Int} (h0 : 0 ≤ r) (h1 : r < 4) : ∃ s : Int, ixD (.lst [.int 10000, .int 1000000, .int 1000000000, .int 1000000000000]) (.int r) = some (.sh (.int s)) ∧ 0 < s ∧ s ≤ 1000000000000 := by
  have : r = 0 ∨ r = 1 ∨ r = 2 ∨ r = 3 := by omega
  rcases this with rfl | rfl | rfl | rfl
  · exact ⟨10000, rfl, by decide, by decide⟩
  · exact ⟨1000000, rfl, by decide, by decide⟩
  · exact ⟨1000000000, rfl, by decide, by decide⟩
  · exact ⟨1000000000000, rfl, by decide, by decide⟩
theorem pow12 : binD .Pow (.int 10) (.int 12) = some (.sh (.int 1000000000000)) := by
  have e : (10 : Int) ^ (12 : Int).toNat = 1000000000000 := by decide
  simp [binD, powOk, e]
theorem pow6 : binD .Pow (.int 10) (.int 6) = some (.sh (.int 1000000)) := by
  have e : (10 : Int) ^ (6 : Int).toNat = 1000000 := by decide
  simp [binD, powOk, e]
theorem pow4 : binD .Pow (.int 10) (.int 4) = some (.sh (.int 10000)) := by
  have e : (10 : Int) ^ (4 : Int).toNat = 10000 := by decide
  simp [binD, powOk, e]
theorem pow9 : binD .Pow (.int 10) (.int 9) = some (.sh (.int 1000000000)) := by
  have e : (10 : Int) ^ (9 : Int).toNat = 1000000000 := by decide
  simp [binD, powOk, e]
theorem bin_add {i j : Int} : binD .Add (.int i) (.int j) = some (.sh (.int (i + j))) := rfl
theorem bin_sub {i j : Int} : binD .Sub (.int i) (.int j) = some (.sh (.int (i - j))) := rfl
theorem bin_mul {i j : Int} (hi : i.natAbs < 2 ^ 100) (hj : j.natAbs < 2 ^ 100) : binD .Mult (.int i) (.int j) = some (.sh (.int (i * j))) := by simp [binD, mulOk_small hi hj]
theorem bin_mod {i j : Int} (h : 0 < j) : binD .Mod (.int i) (.int j) = some (.sh (.int (i % j))) := by simp [binD, h]
theorem bin_catL {l m : List D} (h : l.length + m.length ≤ 1000) : binD .Add (.lst l) (.lst m) = some (.ow (.lst (l ++ m))) := by
  have : fit (l.length + m.length) = true := decide_eq_true (by rw [sizeLine_eq]; omega)
  simp [binD, this]
def rowB1 : SV := (sAsg (cLst [(cCal f__law_draw [true, false] [(cVar 0), (cC (.int 10))]), (cBin .Sub (cCal f__law_draw [true, false] [(cVar 0), (cC (.int 3))]) (cC (.int 1))), (cBin .Sub (cCal f__law_draw [true, false] [(cVar 0), (cC (.int 13))]) (cC (.int 6))), (cBin .Sub (cCal f__law_draw [true, false] [(cVar 0), (cC (.int 1999))]) (cC (.int 999)))]) (gN 5))
def rowB2 : SV := (sAsg (cBin .Add (cVar 5) (cLst [(cBin .Mult (cBin .Sub (cBin .Sub (cBin .Pow (cC (.int 10)) (cC (.int 12))) (cC (.int 1))) (cCal f__law_draw [true, false] [(cVar 0), (cC (.int 99))])) (cIx (cLst [(cC (.int 1)), (cNeg (cC (.int 1)))]) (cCal f__law_draw [true, false] [(cVar 0), (cC (.int 2))]))), (cBin .Add (cC (.int 1)) (cCal f__law_draw [true, false] [(cVar 0), (cC (.int 9))]))])) (gN 5))
def rowB3 : SV := (sAsg (cBin .Add (cBin .Mult (cCal f__law_draw [true, false] [(cVar 0), (cBin .Pow (cC (.int 10)) (cC (.int 6)))]) (cBin .Pow (cC (.int 10)) (cC (.int 6)))) (cCal f__law_draw [true, false] [(cVar 0), (cBin .Pow (cC (.int 10)) (cC (.int 6)))])) (gN 6))
def rowB4 : SV := (sAsg (cBin .Mult (cBin .Mod (cVar 6) (cIx (cLst [(cBin .Pow (cC (.int 10)) (cC (.int 4))), (cBin .Pow (cC (.int 10)) (cC (.int 6))), (cBin .Pow (cC (.int 10)) (cC (.int 9))), (cBin .Pow (cC (.int 10)) (cC (.int 12)))]) (cCal f__law_draw [true, false] [(cVar 0), (cC (.int 4))]))) (cIx (cLst [(cC (.int 1)), (cNeg (cC (.int 1)))]) (cCal f__law_draw [true, false] [(cVar 0), (cC (.int 2))]))) (gN 6))
def rowB5 : SV := (sAsg (cCal f__law_draw [true, false] [(cVar 0), (cC (.int 8))]) (gN 7))
def rowB6 : SV := (sExpr (cMu "list" appendD 3 [(cIx (cBin .Add (cVar 5) (cLst [(cIx (cBin .Add (cVar 3) (cVar 5)) (cC (.int 0))), (cVar 6)])) (cIx (cLst [(cVar 2), (cVar 7)]) (cFn PV.intD [(asV (cChainB (cVar 2) [(.Eq, (cC (.int 8)))]))])))]))
def Fr : Sl → Prop
  | .ow true _ => False
  | _ => True
theorem b1_ok {w : D} (hw : Well w) (m kd : Int) (fl : D) (s4 s5 s6 s7 : Sl) (f5 : Fr s5) : ∃ (a b c d : Int) (w' : D), rowB1 [.ow true w, .sh (.int m), .sh (.int kd), .ow false fl, s4, s5, s6, s7] = .nx [.ow true w', .sh (.int m), .sh (.int kd), .ow false fl, s4, .ow false (iL [a, b, c, d]), s6, s7] ∧ Well w' ∧ Small a ∧ Small b ∧ Small c ∧ Small d := by
  obtain ⟨r1, w1, e1, l1, u1, h1⟩ := draw_ok hw (m := 10) (by decide) (by decide)
  obtain ⟨r2, w2, e2, l2, u2, h2⟩ := draw_ok h1 (m := 3) (by decide) (by decide)
  obtain ⟨r3, w3, e3, l3, u3, h3⟩ := draw_ok h2 (m := 13) (by decide) (by decide)
  obtain ⟨r4, w4, e4, l4, u4, h4⟩ := draw_ok h3 (m := 1999) (by decide) (by decide)
  refine ⟨r1, r2 - 1, r3 - 6, r4 - 999, w4, ?_, h4, ?_, ?_, ?_, ?_⟩
  · rcases s5 with _ | d | ⟨_ | _, d⟩
    · simp [rowB1, e1, e2, e3, e4, bin_sub, fit, sizeLine_eq]
    · simp [rowB1, e1, e2, e3, e4, bin_sub, fit, sizeLine_eq]
    · simp [rowB1, e1, e2, e3, e4, bin_sub, fit, sizeLine_eq]
    · exact f5.elim
  all_goals (unfold Small; omega)
theorem b2_ok {w : D} (hw : Well w) (m kd : Int) (fl : D) (s4 s6 s7 : Sl) (a b c d : Int) : ∃ (x y : Int) (w' : D), rowB2 [.ow true w, .sh (.int m), .sh (.int kd), .ow false fl, s4, .ow false (iL [a, b, c, d]), s6, s7] = .nx [.ow true w', .sh (.int m), .sh (.int kd), .ow false fl, s4, .ow false (iL [a, b, c, d, x, y]), s6, s7] ∧ Well w' ∧ Small x ∧ Small y := by
  obtain ⟨r1, w1, e1, l1, u1, h1⟩ := draw_ok hw (m := 99) (by decide) (by decide)
  obtain ⟨r2, w2, e2, l2, u2, h2⟩ := draw_ok h1 (m := 2) (by decide) (by decide)
  obtain ⟨r3, w3, e3, l3, u3, h3⟩ := draw_ok h2 (m := 9) (by decide) (by decide)
  obtain ⟨s, es, hs⟩ := pm_ix l2 u2
  have mm := bin_mul (i := 999999999999 - r1) (j := s) (by omega) (by omega)
  have sm : Small ((999999999999 - r1) * s) := by
    unfold Small
    rcases hs with rfl | rfl <;> omega
  refine ⟨(999999999999 - r1) * s, 1 + r3, w3, ?_, h3, sm, by unfold Small; omega⟩
  simp [rowB2, e1, e2, e3, bin_sub, bin_add, pow12, es, mm, fit, sizeLine_eq, bin_catL]
theorem b3_ok {w : D} (hw : Well w) (m kd : Int) (fl : D) (s4 s5 s6 s7 : Sl) (f6 : Fr s6) : ∃ (x : Int) (w' : D), rowB3 [.ow true w, .sh (.int m), .sh (.int kd), .ow false fl, s4, s5, s6, s7] = .nx [.ow true w', .sh (.int m), .sh (.int kd), .ow false fl, s4, s5, .sh (.int x), s7] ∧ Well w' ∧ 0 ≤ x ∧ x < 1000000000000 := by
  obtain ⟨r1, w1, e1, l1, u1, h1⟩ := draw_ok hw (m := 1000000) (by decide) (by decide)
  obtain ⟨r2, w2, e2, l2, u2, h2⟩ := draw_ok h1 (m := 1000000) (by decide) (by decide)
  have mm := bin_mul (i := r1) (j := 1000000) (by omega) (by decide)
  refine ⟨r1 * 1000000 + r2, w2, ?_, h2, by omega, by omega⟩
  rcases s6 with _ | d | ⟨_ | _, d⟩
  · simp [rowB3, e1, e2, bin_add, pow6, mm]
  · simp [rowB3, e1, e2, bin_add, pow6, mm]
  · simp [rowB3, e1, e2, bin_add, pow6, mm]
  · exact f6.elim
theorem b4_ok {w : D} (hw : Well w) (m kd : Int) (fl : D) (s4 s5 s7 : Sl) (x : Int) (hx : 0 ≤ x ∧ x < 1000000000000) : ∃ (y : Int) (w' : D), rowB4 [.ow true w, .sh (.int m), .sh (.int kd), .ow false fl, s4, s5, .sh (.int x), s7] = .nx [.ow true w', .sh (.int m), .sh (.int kd), .ow false fl, s4, s5, .sh (.int y), s7] ∧ Well w' ∧ Small y := by
  obtain ⟨r1, w1, e1, l1, u1, h1⟩ := draw_ok hw (m := 4) (by decide) (by decide)
  obtain ⟨r2, w2, e2, l2, u2, h2⟩ := draw_ok h1 (m := 2) (by decide) (by decide)
  obtain ⟨q, eq, q0, q1⟩ := four_ix l1 u1
  obtain ⟨s, es, hs⟩ := pm_ix l2 u2
  have b0 : 0 ≤ x % q ∧ x % q < q := ⟨Int.emod_nonneg _ (by omega), Int.emod_lt_of_pos _ q0⟩
  have md := bin_mod (i := x) q0
  have mm := bin_mul (i := x % q) (j := s) (by omega) (by omega)
  have sm : Small (x % q * s) := by
    unfold Small
    rcases hs with rfl | rfl <;> omega
  refine ⟨x % q * s, w2, ?_, h2, sm⟩
  simp [rowB4, e1, e2, pow4, pow6, pow9, pow12, eq, es, md, mm, fit, sizeLine_eq]
theorem b5_ok {w : D} (hw : Well w) (m kd : Int) (fl : D) (s4 s5 s6 s7 : Sl) (f7 : Fr s7) : ∃ (y : Int) (w' : D), rowB5 [.ow true w, .sh (.int m), .sh (.int kd), .ow false fl, s4, s5, s6, s7] = .nx [.ow true w', .sh (.int m), .sh (.int kd), .ow false fl, s4, s5, s6, .sh (.int y)] ∧ Well w' ∧ 0 ≤ y ∧ y < 8 := by
  obtain ⟨r1, w1, e1, l1, u1, h1⟩ := draw_ok hw (m := 8) (by decide) (by decide)
  refine ⟨r1, w1, ?_, h1, l1, u1⟩
  rcases s7 with _ | d | ⟨_ | _, d⟩
  · simp [rowB5, e1]
  · simp [rowB5, e1]
  · simp [rowB5, e1]
  · exact f7.elim
theorem b6_ok (w : D) (m kd : Int) (fl : List Int) (s4 : Sl) (so : List Int) (x y : Int) (hk : 0 ≤ kd ∧ kd < 9) (hy : 0 ≤ y ∧ y < 8) (hs : so.length = 6) (h1 : ∀ n ∈ fl, Small n) (h2 : ∀ n ∈ so, Small n) (h3 : Small x) (hl : fl.length ≤ 20) : ∃ (z : Int), rowB6 [.ow true w, .sh (.int m), .sh (.int kd), .ow false (iL fl), s4, .ow false (iL so), .sh (.int x), .sh (.int y)] = .nx [.ow true w, .sh (.int m), .sh (.int kd), .ow false (iL (fl ++ [z])), s4, .ow false (iL so), .sh (.int x), .sh (.int y)] ∧ Small z := by
  obtain ⟨f0, hf0, ef0⟩ := ix_iL (l := fl ++ so) (j := 0) (by decide) (by simp; omega)
  have sf0 : Small f0 := by
    rcases List.mem_append.mp hf0 with h | h
    · exact h1 _ h
    · exact h2 _ h
  have cat1 := bin_catL (l := fl.map D.int) (m := so.map D.int) (by simp; omega)
  have cat2 := bin_catL (l := so.map D.int) (m := [.int f0, .int x]) (by simp; omega)
  have e8 : so.map D.int ++ [.int f0, .int x] = (so ++ [f0, x]).map D.int := by simp
  rw [← List.map_append] at cat1
  rw [e8] at cat2
  have fz : fit (fl.length + 1) = true := decide_eq_true (by rw [sizeLine_eq]; omega)
  have sm : ∀ n ∈ so ++ [f0, x], Small n := fun n hn => by
    rcases List.mem_append.mp hn with h | h
    · exact h2 _ h
    · simp at h; rcases h with rfl | rfl <;> assumption
  have pick : ∃ j, 0 ≤ j ∧ j < 8 ∧ ixD (.lst [.int kd, .int y]) (.int (if kd = 8 then 1 else 0)) = some (.sh (.int j)) := by
    by_cases h : kd = 8
    · exact ⟨y, hy.1, hy.2, by rw [if_pos h]; rfl⟩
    · exact ⟨kd, hk.1, by omega, by rw [if_neg h]; rfl⟩
  obtain ⟨j, j0, j8, ej⟩ := pick
  obtain ⟨z, hz, ez⟩ := ix_iL (l := so ++ [f0, x]) (j := j) j0 (by simp; omega)
  refine ⟨z, ?_, sm z hz⟩
  have cat1 : binD .Add (iL fl) (iL so) = some (.ow (iL (fl ++ so))) := cat1
  have cat2 : binD .Add (iL so) (.lst [.int f0, .int x]) = some (.ow (iL (so ++ [f0, x]))) := cat2
  have ef0 : ixD (iL (fl ++ so)) (.int 0) = some (.sh (.int f0)) := ef0
  have ez : ixD (iL (so ++ [f0, x])) (.int j) = some (.sh (.int z)) := ez
  have ii : PV.intD [.bl (decide (kd = 8))] = some (.sh (.int (if kd = 8 then 1 else 0))) := by simp [PV.intD]
  simp only [rowB6, ev_sExpr, ev_cMu, muOk, ev_args1, ev_args0, ev_cIx, ev_c2, ev_cBin, ev_cVar, List.getElem?_cons_zero, List.getElem?_cons_succ, ev_bind_ok, ev_stl_nm, ev_look_nm, cat1, ev_ofO_some, ev_stl_ow, ev_look_ow, ev_cC, ev_stl_sh, ev_look_sh, ef0, ev_cLst, ev_leaks1, ev_leaks0, ev_leak_sh, ev_fit_small, List.length_cons, List.length_nil, fit, sizeLine_eq, cat2, ev_cFn, ev_asV, ev_chain, ev_link1, ev_cmpR, cmpD, ev_eqi, ev_looks1, ev_looks0, ii, ej, ez]
  simp [appendD, fz, cat2, ez, ii, ej, cmpD, fit, sizeLine_eq]
  rw [if_pos (by omega)]
  simp
def rowBody : SV := sSeq rowB1 (sSeq rowB2 (sSeq rowB3 (sSeq rowB4 (sSeq rowB5 rowB6))))
theorem loop_cons {g : TV} {body : SV} {d : D} {ds : List D} {δ : List Sl} : sLoop g body (d :: ds) δ = (match (nxt (g (.sh d) δ)).seq body with
    | .nx δ1 => sLoop g body ds δ1
    | .ct δ1 => sLoop g body ds δ1
    | .bk δ1 => .nx δ1
    | o => o) := rfl
theorem row_loop (m kd : Int) (hk : 0 ≤ kd ∧ kd < 9) : ∀ (ds : List D) (w : D) (fl : List Int) (s4 s5 s6 s7 : Sl), Well w → (∀ n ∈ fl, Small n) → fl.length + ds.length ≤ 20 → Fr s4 → Fr s5 → Fr s6 → Fr s7 →
    ∃ (w' : D) (fl' : List Int) (t4 t5 t6 t7 : Sl), sLoop (gN 4) rowBody ds [.ow true w, .sh (.int m), .sh (.int kd), .ow false (iL fl), s4, s5, s6, s7] = .nx [.ow true w', .sh (.int m), .sh (.int kd), .ow false (iL fl'), t4, t5, t6, t7] ∧ Well w' ∧ fl'.length = fl.length + ds.length ∧ ∀ n ∈ fl', Small n
  | [], w, fl, s4, s5, s6, s7, hw, hf, _, _, _, _, _ => ⟨w, fl, s4, s5, s6, s7, rfl, hw, rfl, hf⟩
  | d :: ds, w, fl, s4, s5, s6, s7, hw, hf, hz, f4, f5, f6, f7 => by
    simp only [List.length_cons] at hz
    obtain ⟨a1, a2, a3, a4, w1, e1, h1, q1, q2, q3, q4⟩ := b1_ok hw m kd (iL fl) (.sh d) s5 s6 s7 f5
    obtain ⟨x, y, w2, e2, h2, q5, q6⟩ := b2_ok h1 m kd (iL fl) (.sh d) s6 s7 a1 a2 a3 a4
    obtain ⟨u, w3, e3, h3, u1, u2⟩ := b3_ok h2 m kd (iL fl) (.sh d) (.ow false (iL [a1, a2, a3, a4, x, y])) s6 s7 f6
    obtain ⟨v, w4, e4, h4, q7⟩ := b4_ok h3 m kd (iL fl) (.sh d) (.ow false (iL [a1, a2, a3, a4, x, y])) s7 u ⟨u1, u2⟩
    obtain ⟨o, w5, e5, h5, o1, o2⟩ := b5_ok h4 m kd (iL fl) (.sh d) (.ow false (iL [a1, a2, a3, a4, x, y])) (.sh (.int v)) s7 f7
    obtain ⟨z, e6, q8⟩ := b6_ok w5 m kd fl (.sh d) [a1, a2, a3, a4, x, y] v o hk ⟨o1, o2⟩ rfl hf (by intro n hn; simp at hn; rcases hn with rfl | rfl | rfl | rfl | rfl | rfl <;> assumption) q7 (by omega)
    obtain ⟨w', fl', t4, t5, t6, t7, e7, h7, l7, s7'⟩ := row_loop m kd hk ds w5 (fl ++ [z]) (.sh d) (.ow false (iL [a1, a2, a3, a4, x, y])) (.sh (.int v)) (.sh (.int o)) h5 (by intro n hn; rcases List.mem_append.mp hn with h | h; exact hf _ h; simp at h; subst h; exact q8) (by simp; omega) trivial trivial trivial trivial
    refine ⟨w', fl', t4, t5, t6, t7, ?_, h7, by rw [l7]; simp; omega, s7'⟩
    have g4 : gN 4 (.sh d) [.ow true w, .sh (.int m), .sh (.int kd), .ow false (iL fl), s4, s5, s6, s7] = .ok () [.ow true w, .sh (.int m), .sh (.int kd), .ow false (iL fl), .sh d, s5, s6, s7] := by
      rcases s4 with _ | d | ⟨_ | _, d⟩
      · rfl
      · rfl
      · rfl
      · exact f4.elim
    rw [loop_cons, g4, ev_nxt, ev_seq_nx]
    unfold rowBody at e7 ⊢
    rw [ev_sSeq, e1, ev_seq_nx, ev_sSeq, e2, ev_seq_nx, ev_sSeq, e3, ev_seq_nx, ev_sSeq, e4, ev_seq_nx, ev_sSeq, e5, ev_seq_nx, e6]
    exact e7
theorem law_row_ok {w : D} (hw : Well w) {k : Nat} (h1 : 1 ≤ k) (h9 : k ≤ 9) : ∃ (row : List Int) (w' : D), f__law_row [.ow true w, .sh (.int (k : Int))] = .ok (.ow (iL row)) [.ow true w', .no] ∧ Row row ∧ Well w' := by
  obtain ⟨kd, w1, e1, l1, u1, hw1⟩ := draw_ok hw (m := 9) (by decide) (by decide)
  have r := rg_small (n := k) (by omega)
  obtain ⟨w', row, t4, t5, t6, t7, e2, h2, l2, s2⟩ := row_loop k kd ⟨l1, u1⟩ (rgL 0 k) w1 [] .no .no .no .no hw1 (by simp) (by rw [rgL_len]; simp; omega) trivial trivial trivial trivial
  rw [rgL_len] at l2
  simp only [List.length_nil, Nat.zero_add] at l2
  refine ⟨row, w', ?_, ⟨by omega, by omega, s2⟩, h2⟩
  have e2 : sLoop (gN 4) rowBody (rgL 0 k) [.ow true w1, .sh (.int (k : Int)), .sh (.int kd), .ow false (.lst []), .no, .no, .no, .no] = _ := e2
  have eb : b__law_row = sSeq (sAsg (cCal f__law_draw [true, false] [(cVar 0), (cC (.int 9))]) (gN 2)) (sSeq (sAsg (cLst []) (gN 3)) (sSeq (sFor (iFn rngIt1 [(cVar 1)]) (gN 4) rowBody) (sRet (cVar 3)))) := rfl
  simp [f__law_row, eb, e1, r, e2, fit]
end K49
namespace K49
open PySem PySem.Spec PyProof.Rows L2 PV TL
/-- data that == takes, of a depth -/
structure Py (d : D) (p : PyData) (k : Nat) : Prop where
  py : toPy d = some p
  lay : p.canLay0 = true
  dep : p.depth ≤ k
structure PyA (ds : List D) (ps : List PyData) (k : Nat) : Prop where
  py : toPyA ds = some ps
  lay : PyData.canLayAll0 ps = true
  dep : PyData.depthAll ps ≤ k
theorem py_int (n : Int) (k : Nat) : Py (.int n) (.int n) k := ⟨rfl, by simp [PyData.canLay0], by simp [PyData.depth]⟩
theorem pya_nil (k : Nat) : PyA [] [] k := ⟨rfl, by simp [PyData.canLayAll0], by simp [PyData.depthAll]⟩
theorem pya_cons {d : D} {p : PyData} {ds : List D} {ps : List PyData} {k : Nat} (h : Py d p k) (hs : PyA ds ps k) : PyA (d :: ds) (p :: ps) k :=
  ⟨by show (match toPy d, toPyA ds with | some a, some b => some (a :: b) | _, _ => none) = _; rw [h.py, hs.py], by rw [PyData.canLayAll0, h.lay, hs.lay]; rfl, by rw [PyData.depthAll]; have := h.dep; have := hs.dep; omega⟩
theorem pya_map {α : Type} {f : α → D} {g : α → PyData} {k : Nat} (h : ∀ x, Py (f x) (g x) k) : ∀ l : List α, PyA (l.map f) (l.map g) k
  | [] => pya_nil k
  | x :: l => pya_cons (h x) (pya_map h l)
theorem py_lst {ds : List D} {ps : List PyData} {k : Nat} (h : PyA ds ps k) : Py (.lst ds) (.list ps) (k + 1) :=
  ⟨by show (toPyA ds).map _ = _; rw [h.py]; rfl, by rw [PyData.canLay0]; exact h.lay, by rw [PyData.depth]; have := h.dep; omega⟩
theorem py_tup {ds : List D} {ps : List PyData} {k : Nat} (h : PyA ds ps k) : Py (.tup ds) (.tuple ps) (k + 1) :=
  ⟨by show (toPyA ds).map _ = _; rw [h.py]; rfl, by rw [PyData.canLay0]; exact h.lay, by rw [PyData.depth]; have := h.dep; omega⟩
theorem Py.shaped {d : D} {p : PyData} {k : Nat} (h : Py d p k) (hk : k ≤ 64) : SeqAt.shaped p = true := by
  unfold SeqAt.shaped
  rw [h.lay, decide_eq_true (Nat.le_trans h.dep hk)]; rfl
theorem eqG_refl {d : D} {p : PyData} {k : Nat} (h : Py d p k) (hk : k ≤ 64) : eqG d d = some true := by
  unfold eqG
  rw [h.py]
  simp only [h.shaped hk, Bool.and_self, if_true]
  rw [SeqAt.eqv_refl p h.lay]
theorem eqD_lst {ds : List D} {p : PyData} {k : Nat} (h : Py (.lst ds) p k) (hk : k ≤ 64) : eqD (.lst ds) (.lst ds) = some true := eqG_refl h hk
theorem eqD_tup {ds : List D} {p : PyData} {k : Nat} (h : Py (.tup ds) p k) (hk : k ≤ 64) : eqD (.tup ds) (.tup ds) = some true := eqG_refl h hk
theorem eq_row (row : List Int) : eqD (iL row) (iL row) = some true := eqD_lst (py_lst (pya_map (fun n => py_int n 0) row)) (by decide)
theorem imm_ints (row : List Int) : immA (row.map D.int) = true := by
  induction row with
  | nil => rfl
  | cons n r ih => simpa [immA, immD] using ih
/-! ### _law_row_right -/
def rrB : SV := (sSeq (sAsg (cCal f_row_text [false] [(cVar 2)]) (gN 4)) (sSeq (sIf (cOrs [(cNot (cTru (cIsi ["str"] (cVar 4)))), (cChainB (cVar 4) [(.NotEq, (cVar 1))]), (cChainB (cVar 2) [(.NotEq, (cVar 0))])]) (sRet (cC (.bl false))) sSkip) (sSeq (sAsg (cCal f_read_row [false] [(cVar 1)]) (gN 5)) (sSeq (sIf (cNot (cTru (cCal (f__law_same 12) [false, false] [(cVar 5), (cVar 0)]))) (sRet (cC (.bl false))) sSkip) (sExpr (cMu "list" appendD 5 [(cC (.int 0))]))))))
theorem rr_turn {row : List Int} (h : Row row) (s3 s4 s5 : Sl) (f4 : Fr s4) (f5 : Fr s5) : ∃ t5, rrB [.sh (iL row), .sh (.str (rowText row)), .ow false (iL row), s3, s4, s5, .no] = .nx [.sh (iL row), .sh (.str (rowText row)), .ow false (iL row), s3, .sh (.str (rowText row)), t5, .no] ∧ Fr t5 := by
  have e1 := row_text_ok h
  have e2 := read_row_ok h
  have e3 := same_row row h.hi
  have e4 := eq_row row
  have ii := imm_ints row
  have fz : row.length ≤ 16777215 := by have := h.hi; omega
  refine ⟨.ow false (iL (row ++ [0])), ?_, trivial⟩
  rcases s4 with _ | d | ⟨_ | _, d⟩ <;> first | exact f4.elim | skip
  all_goals (rcases s5 with _ | d | ⟨_ | _, d⟩ <;> first | exact f5.elim | skip)
  all_goals simp [rrB, e1, e2, e3, e4, ii, tyD, is_ss, truD, cmpD, muOk, appendD, fit, sizeLine_eq, fz]
theorem join_figs {row : List Int} (h : Row row) (δ : List Sl) (W δ1 : List Sl) (hδ : wipeD δ1 [6] = W) (ht : ∀ n ∈ row, ∃ δ4, turn (gN 6) tYesB (cCal f__law_figures [false] [(cVar 6)]) (.int n) W = .ok (some (.str (numText n))) δ4 ∧ wipeD δ4 [6] = W) :
    cLoop (gN 6) tYesB (cCal f__law_figures [false] [(cVar 6)]) [6] (row.map D.int) [] δ1 = .ok (row.map fun n => .str (numText n)) W :=
  loop_map D.int (fun n => .str (numText n)) ht hδ (by rw [sizeLine_eq]; have := h.hi; omega)
theorem set_last {row : List Int} (h : Row row) (v : Int) : setD (iL row) (.int (-1)) (.int v) = some (iL (row.set (row.length - 1) v)) := by
  have e : ixN (row.map D.int).length (-1) = some (row.length - 1) := by
    have := h.lo
    unfold ixN
    simp only [List.length_map]
    rw [if_neg (by decide), if_pos (by omega)]
    congr 1
    omega
  simp only [setD, e, Option.map_some]
  exact congrArg (fun l => some (D.lst l)) List.map_set.symm
theorem last_ix {row : List Int} (h : Row row) : ∃ x ∈ row, ixD (iL row) (.int (-1)) = some (.sh (.int x)) := by
  have hl := h.lo
  have hj : row.length - 1 < row.length := by omega
  refine ⟨row[row.length - 1], List.getElem_mem hj, ?_⟩
  have e : ixN (row.map D.int).length (-1) = some (row.length - 1) := by
    unfold ixN
    simp only [List.length_map]
    rw [if_neg (by decide), if_pos (by omega)]
    congr 1
    omega
  have e2 : atI (row.map D.int) (-1) = some (.int row[row.length - 1]) := by
    unfold atI
    rw [e]
    simp [hj]
  simp [ixD, e2]
theorem row_set {row : List Int} (h : Row row) {v : Int} (hv : Small v) (i : Nat) : Row (row.set i v) := by
  refine ⟨by rw [List.length_set]; exact h.lo, by rw [List.length_set]; exact h.hi, fun n hn => ?_⟩
  rcases List.mem_or_eq_of_mem_set hn with q | q
  · exact h.sm n q
  · rw [q]; exact hv
theorem row_right_ok {row : List Int} (h : Row row) : f__law_row_right [.sh (iL row)] = .ok (.sh (.bl true)) [.no] := by
  have c1 := join_figs h [] [.sh (iL row), .no, .no, .no, .no, .no, .no] [.sh (iL row), .no, .no, .no, .no, .no, .no] (by simp) (fun n hn => ⟨[.sh (iL row), .no, .no, .no, .no, .no, .sh (.int n)], by simp [turn, figures_ok (h.sm n hn)], by simp⟩)
  have j := join_row h
  obtain ⟨t5, t1, ft⟩ := rr_turn h (.sh (.int 0)) .no .no trivial trivial
  obtain ⟨t6, t2, _⟩ := rr_turn h (.sh (.int 1)) (.sh (.str (rowText row))) t5 trivial ft
  obtain ⟨x, hx, ex⟩ := last_ix h
  have sx : Small x := h.sm x hx
  have hv : Small ((x + 7) % 1000000000000) := by unfold Small; omega
  have es := set_last h ((x + 7) % 1000000000000)
  have h' := row_set h hv (row.length - 1)
  generalize row.set (row.length - 1) ((x + 7) % 1000000000000) = row' at *
  have e1 := row_text_ok h'
  have c2 := join_figs h' [] [.sh (iL row), .sh (.str (rowText row)), .sh (iL row'), .sh (.int 1), .sh (.str (rowText row)), t6, .no] [.sh (iL row), .sh (.str (rowText row)), .sh (iL row'), .sh (.int 1), .sh (.str (rowText row)), t6, .no] (by simp) (fun n hn => ⟨[.sh (iL row), .sh (.str (rowText row)), .sh (iL row'), .sh (.int 1), .sh (.str (rowText row)), t6, .sh (.int n)], by simp [turn, figures_ok (h'.sm n hn)], by simp⟩)
  have j' := join_row h'
  have r2 : rngIt1 [.int 2] = some [.int 0, .int 1] := rfl
  have md := bin_mod (i := x + 7) (j := 1000000000000) (by decide)
  have eb : b__law_row_right = sSeq (sAsg (cMt "str" joinD (cC (.str (Str.ofString " "))) [(cLC (iAny (cVar 0)) (gN 6) tYesB (cCal f__law_figures [false] [(cVar 6)]) [6])]) (gN 1)) (sSeq (sAsg (cFn listD [(cVar 0)]) (gN 2)) (sSeq (sFor (iFn rngIt1 [(cC (.int 2))]) (gN 3) rrB)
    (sSeq (sAsg (cBin .Mod (cBin .Add (cIx (cVar 2) (cNeg (cC (.int 1)))) (cC (.int 7))) (cBin .Pow (cC (.int 10)) (cC (.int 12)))) (gSubD 2 (cNeg (cC (.int 1))))) (sRet (asV (cChainB (cCal f_row_text [false] [(cVar 2)]) [(.Eq, (cMt "str" joinD (cC (.str (Str.ofString " "))) [(cLC (iAny (cVar 2)) (gN 6) tYesB (cCal f__law_figures [false] [(cVar 6)]) [6])]))])))))) := rfl
  simp [f__law_row_right, eb, c1, j, tyOk, itD, listD, r2, loop_cons, t1, t2, ex, bin_add, pow12, md, es, e1, c2, j', cmpD]
end K49
namespace K49
open PySem PySem.Spec PyProof.Rows L2 PV TL
abbrev sD (s : Nat × Nat) : D := .tup [.int (s.1 : Int), .int (s.2 : Int)]
abbrev sL (l : List (Nat × Nat)) : D := .lst (l.map sD)
abbrev hD (h : List (Nat × Nat) × List (Nat × Nat)) : D := .tup [sL h.1, sL h.2]
def Gd (s : Nat × Nat) : Prop := s.1 < s.2 ∧ s.2 < 9
structure GL (l : List (Nat × Nat)) : Prop where
  len : l.length ≤ 40
  gd : ∀ s ∈ l, Gd s
theorem tup_ix (a b : D) : ixD (.tup [a, b]) (.int 0) = some (.sh a) ∧ ixD (.tup [a, b]) (.int 1) = some (.sh b) := ⟨rfl, rfl⟩
theorem stretch_ok {w : D} (hw : Well w) : ∃ (s : Nat × Nat) (w' : D), f__law_stretch [.ow true w, .sh (.int 9)] = .ok (.sh (sD s)) [.ow true w', .no] ∧ Gd s ∧ Well w' := by
  obtain ⟨i, w1, e1, l1, u1, h1⟩ := draw_ok hw (m := 8) (by decide) (by decide)
  obtain ⟨r, w2, e2, l2, u2, h2⟩ := draw_ok h1 (m := 8 - i) (by omega) (by omega)
  refine ⟨(i.toNat, (i + 1 + r).toNat), w2, ?_, ⟨by show i.toNat < (i + 1 + r).toNat; omega, by show (i + 1 + r).toNat < 9; omega⟩, h2⟩
  have a1 : ((i.toNat : Nat) : Int) = i := by omega
  have a2 : (((i + 1 + r).toNat : Nat) : Int) = i + 1 + r := by omega
  show _ = Out.ok (R.sh (.tup [.int ((i.toNat : Nat) : Int), .int (((i + 1 + r).toNat : Nat) : Int)])) _
  rw [a1, a2]
  simp [f__law_stretch, b__law_stretch, e1, e2, bin_sub, bin_add, fit, sizeLine_eq]
theorem is_stretch_ok {s : Nat × Nat} (h : Gd s) : f_is_stretch [.sh (sD s), .sh (.int 9)] = .ok (.sh (.bl true)) [.no, .no] := by
  have a1 : (s.1 : Int) < (s.2 : Int) := by have := h.1; omega
  have a2 : (s.2 : Int) < 9 := by have := h.2; omega
  have a0 : (0 : Int) ≤ (s.1 : Int) := by omega
  simp [f_is_stretch, b_is_stretch, tyD, is_tt, lenD, (tup_ix _ _).1, (tup_ix _ _).2, whole_ok, truD, cmpD, a1, a2]
theorem eq_nilD : eqD (.lst []) (.lst []) = some true := ev_eqn
/-- a turn of is_holds -/
def ihB : SV := (sSeq (sIf (cOrs [(cNot (cTru (cIsi ["list"] (cVar 2)))), (cChainB (cFn lenD [(cVar 2)]) [(.Gt, (cC (.int 40)))])]) (sRet (cC (.bl false))) sSkip) (sIf (cChainB (cLC (iAny (cVar 2)) (gN 3) (cNot (cTru (cCal f_is_stretch [false, false] [(cVar 3), (cVar 1)]))) (cVar 3) [3]) [(.NotEq, (cLst []))]) (sRet (cC (.bl false))) sSkip))
theorem ih_turn {l : List (Nat × Nat)} (h : GL l) (d : D) : ihB [.sh d, .sh (.int 9), .sh (sL l), .no] = .nx [.sh d, .sh (.int 9), .sh (sL l), .no] := by
  have c : cLoop (gN 3) (cNot (cTru (cCal f_is_stretch [false, false] [(cVar 3), (cVar 1)]))) (cVar 3) [3] (l.map sD) [] [.sh d, .sh (.int 9), .sh (sL l), .no] = .ok [] [.sh d, .sh (.int 9), .sh (sL l), .no] := by
    refine loop_none (W := [.sh d, .sh (.int 9), .sh (sL l), .no]) (fun x hx => ?_) (by simp) (by rw [sizeLine_eq]; have := h.len; simp; omega)
    obtain ⟨s, hs, rfl⟩ := List.mem_map.mp hx
    exact ⟨[.sh d, .sh (.int 9), .sh (sL l), .sh (sD s)], by simp [turn, is_stretch_ok (h.gd s hs), truD], by simp⟩
  have hl : ¬ (40 : Int) < (l.length : Int) := by have := h.len; omega
  simp [ihB, tyD, is_ll, lenD, cmpD, hl, itD, c, truD, fit, sizeLine_eq]
theorem is_holds_ok {h : List (Nat × Nat) × List (Nat × Nat)} (h1 : GL h.1) (h2 : GL h.2) : f_is_holds [.sh (hD h), .sh (.int 9)] = .ok (.sh (.bl true)) [.no, .no] := by
  have t1 := ih_turn h1 (hD h)
  have t2 := ih_turn h2 (hD h)
  have eb : b_is_holds = sSeq (sIf (cOrs [(cNot (cTru (cCal f_is_whole [false] [(cVar 1)]))), (cNot (cChainB (cC (.int 1)) [(.LtE, (cVar 1)), (.LtE, (cC (.int 9)))]))]) (sRet (cC (.bl false))) sSkip) (sSeq (sIf (cOrs [(cNot (cTru (cIsi ["tuple"] (cVar 0)))), (cChainB (cFn lenD [(cVar 0)]) [(.NotEq, (cC (.int 2)))])]) (sRet (cC (.bl false))) sSkip) (sSeq (sFor (iAny (cVar 0)) (gN 2) ihB) (sRet (cC (.bl true))))) := rfl
  simp [f_is_holds, eb, whole_ok, truD, cmpD, tyD, is_tt, lenD, itD, loop_cons, t1, t2]
end K49
namespace K49
open PySem PySem.Spec PyProof.Rows L2 PV TL
theorem ixl2 (a b : D) : ixD (.lst [a, b]) (.int 0) = some (.sh a) ∧ ixD (.lst [a, b]) (.int 1) = some (.sh b) := ⟨rfl, rfl⟩
theorem lh_comp (s2 s3 s4 : Sl) : ∀ (ds : List D) (acc : List (Nat × Nat)) (w : D) (s5 : Sl), Well w → acc.length + ds.length ≤ 1000 →
    ∃ (l : List (Nat × Nat)) (w' : D), cLoop (gN 5) tYesB (cCal f__law_stretch [true, false] [(cVar 0), (cVar 1)]) [5] ds (acc.map sD) [.ow true w, .sh (.int 9), s2, s3, s4, s5] = .ok ((acc ++ l).map sD) [.ow true w', .sh (.int 9), s2, s3, s4, .no] ∧ Well w' ∧ l.length = ds.length ∧ ∀ s ∈ l, Gd s
  | [], acc, w, s5, hw, _ => ⟨[], w, by simp [cLoop], hw, rfl, by simp⟩
  | d :: ds, acc, w, s5, hw, hz => by
    simp only [List.length_cons] at hz
    obtain ⟨s, w1, e, gs, h1⟩ := stretch_ok hw
    obtain ⟨l, w', e2, h2, hl, hg⟩ := lh_comp s2 s3 s4 ds (acc ++ [s]) w1 (.sh d) h1 (by simp; omega)
    refine ⟨s :: l, w', ?_, h2, by simp [hl], fun x hx => ?_⟩
    · rw [loop_turn]
      have ht : turn (gN 5) tYesB (cCal f__law_stretch [true, false] [(cVar 0), (cVar 1)]) d (wipeD [.ow true w, .sh (.int 9), s2, s3, s4, s5] [5]) = .ok (some (sD s)) [.ow true w1, .sh (.int 9), s2, s3, s4, .sh d] := by
        simp [turn, e]
      have hf : fit ((acc.map sD).length + 1) = true := decide_eq_true (by rw [sizeLine_eq]; simp; omega)
      rw [ht, ev_bind_ok]
      dsimp only
      rw [if_pos hf]
      have m1 : acc.map sD ++ [sD s] = (acc ++ [s]).map sD := by simp
      rw [m1, e2]
      simp
    · rcases List.mem_cons.mp hx with rfl | hx
      · exact gs
      · exact hg _ hx
theorem cnt_ix {r q : Int} (h0 : 0 ≤ r) (h1 : r < 4) (q0 : 0 ≤ q) (q1 : q < 7) : ∃ c : Nat, ixD (.lst [.int 0, .int 1, .int 2, .int q]) (.int r) = some (.sh (.int (c : Int))) ∧ c ≤ 6 := by
  have : r = 0 ∨ r = 1 ∨ r = 2 ∨ r = 3 := by omega
  rcases this with rfl | rfl | rfl | rfl
  · exact ⟨0, rfl, by decide⟩
  · exact ⟨1, rfl, by decide⟩
  · exact ⟨2, rfl, by decide⟩
  · refine ⟨q.toNat, ?_, by omega⟩
    have : ((q.toNat : Nat) : Int) = q := by omega
    rw [this]; rfl
def lhB1 : SV := (sAsg (cLst []) (gN 4))
def lhB2 : SV := (sIf (cChainB (cVar 1) [(.Gt, (cC (.int 1)))]) (sAsg (cLC (iFn rngIt1 [(cIx (cLst [(cC (.int 0)), (cC (.int 1)), (cC (.int 2)), (cCal f__law_draw [true, false] [(cVar 0), (cC (.int 7))])]) (cCal f__law_draw [true, false] [(cVar 0), (cC (.int 4))]))]) (gN 5) tYesB (cCal f__law_stretch [true, false] [(cVar 0), (cVar 1)]) [5]) (gN 4)) sSkip)
def lhB3 : SV := (sExpr (cMu "list" appendD 2 [(cBin .Add (cVar 4) (cSl (cVar 4) none (some (cFn PV.intD [(asV (cChainB (cCal f__law_draw [true, false] [(cVar 0), (cC (.int 4))]) [(.Eq, (cC (.int 0)))]))]))))]))
theorem lh2_ok {w : D} (hw : Well w) (fd : D) (s3 : Sl) : ∃ (l : List (Nat × Nat)) (w' : D), lhB2 [.ow true w, .sh (.int 9), .ow false fd, s3, .ow false (.lst []), .no] = .nx [.ow true w', .sh (.int 9), .ow false fd, s3, .ow false (sL l), .no] ∧ Well w' ∧ l.length ≤ 6 ∧ ∀ s ∈ l, Gd s := by
  obtain ⟨q, w1, e1, l1, u1, h1⟩ := draw_ok hw (m := 7) (by decide) (by decide)
  obtain ⟨r, w2, e2, l2, u2, h2⟩ := draw_ok h1 (m := 4) (by decide) (by decide)
  obtain ⟨c, ec, hc⟩ := cnt_ix l2 u2 l1 u1
  have rg := rg_small (n := c) (by omega)
  obtain ⟨l, w', e3, h3, hl, hg⟩ := lh_comp (.ow false fd) s3 (.ow false (.lst [])) (rgL 0 c) [] w2 .no h2 (by rw [rgL_len]; simp; omega)
  rw [rgL_len] at hl
  simp only [List.map_nil, List.nil_append] at e3
  refine ⟨l, w', ?_, h3, by omega, hg⟩
  simp [lhB2, cmpD, e1, e2, fit, sizeLine_eq, ec, rg, e3]
theorem cut_take {α : Type} (xs : List α) (b : Nat) (hb : b ≤ 1) : cut xs none (some (b : Int)) = xs.take b := by
  unfold cut
  rw [HT.sIx_none, HT.sIx_nat]
  simp only [List.drop_zero, Nat.sub_zero]
  by_cases h : b ≤ xs.length
  · rw [Nat.min_eq_left h]
  · rw [Nat.min_eq_right (by omega), List.take_of_length_le (Nat.le_refl _), List.take_of_length_le (by omega)]
theorem lh3_ok {w : D} (hw : Well w) (fd : List D) (s3 : Sl) (l : List (Nat × Nat)) (hl : l.length ≤ 6) (hg : ∀ s ∈ l, Gd s) (hf : fd.length ≤ 5) : ∃ (l' : List (Nat × Nat)) (w' : D), lhB3 [.ow true w, .sh (.int 9), .ow false (.lst fd), s3, .ow false (sL l), .no] = .nx [.ow true w', .sh (.int 9), .ow false (.lst (fd ++ [sL l'])), s3, .ow false (sL l), .no] ∧ Well w' ∧ GL l' := by
  obtain ⟨r, w1, e1, l1, u1, h1⟩ := draw_ok hw (m := 4) (by decide) (by decide)
  have fz : fd.length ≤ 16777215 := by omega
  by_cases hr : r = 0
  · have ct : cut (l.map sD) none (some 1) = (l.map sD).take 1 := cut_take _ 1 (by decide)
    have ca : binD .Add (sL l) (.lst ((l.map sD).take 1)) = some (.ow (sL (l ++ l.take 1))) := by
      have := bin_catL (l := l.map sD) (m := (l.map sD).take 1) (by simp; omega)
      rw [this]
      show _ = some (R.ow (.lst ((l ++ l.take 1).map sD)))
      rw [List.map_append, List.map_take]
    refine ⟨l ++ l.take 1, w1, ?_, h1, ⟨by simp; omega, fun s hs => ?_⟩⟩
    · subst hr
      simp [lhB3, e1, cmpD, intD_t, slD, ct, ca, muOk, appendD, fit, sizeLine_eq, fz]
    · rcases List.mem_append.mp hs with q | q
      · exact hg _ q
      · exact hg _ (List.mem_of_mem_take q)
  · have ct : cut (l.map sD) none (some 0) = [] := by
      have := cut_take (l.map sD) 0 (by decide)
      simpa using this
    have ca := bin_catL (l := l.map sD) (m := []) (by simp; omega)
    rw [List.append_nil] at ca
    refine ⟨l, w1, ?_, h1, ⟨by omega, hg⟩⟩
    simp [lhB3, e1, cmpD, hr, intD_f, slD, ct, ca, muOk, appendD, fit, sizeLine_eq, fz]
theorem law_holds_ok {w : D} (hw : Well w) : ∃ (h : List (Nat × Nat) × List (Nat × Nat)) (w' : D), f__law_holds [.ow true w, .sh (.int 9)] = .ok (.sh (hD h)) [.ow true w', .no] ∧ Well w' ∧ GL h.1 ∧ GL h.2 := by
  obtain ⟨l1, w1, e1, h1, z1, g1⟩ := lh2_ok hw (.lst []) (.sh (.int 0))
  obtain ⟨l2, w2, e2, h2, g2⟩ := lh3_ok h1 [] (.sh (.int 0)) l1 z1 g1 (by decide)
  obtain ⟨l3, w3, e3, h3, z3, g3⟩ := lh2_ok h2 (.lst [sL l2]) (.sh (.int 1))
  obtain ⟨l4, w4, e4, h4, g4⟩ := lh3_ok h3 [sL l2] (.sh (.int 1)) l3 z3 g3 (by simp)
  refine ⟨(l2, l4), w4, ?_, h4, g2, g4⟩
  have r2 : rngIt1 [.int 2] = some [.int 0, .int 1] := rfl
  simp only [List.nil_append] at e2
  have eb : b__law_holds = sSeq (sAsg (cLst []) (gN 2)) (sSeq (sFor (iFn rngIt1 [(cC (.int 2))]) (gN 3) (sSeq lhB1 (sSeq lhB2 lhB3))) (sRet (cTup [(cIx (cVar 2) (cC (.int 0))), (cIx (cVar 2) (cC (.int 1)))]))) := rfl
  simp [f__law_holds, eb, r2, loop_cons, lhB1, e1, e2, e3, e4, (ixl2 _ _).1, (ixl2 _ _).2, fit, sizeLine_eq]
end K49
namespace K49
open PySem PySem.Spec PyProof.Rows L2 PV TL
def dash : Str := Str.ofString "-"
def slash : Str := Str.ofString "/"
def sT (s : Nat × Nat) : Str := num s.1 ++ Str.ofString "-" ++ num s.2
def hWords (h : List (Nat × Nat) × List (Nat × Nat)) : List Str := h.1.map sT ++ [Str.ofString "/"] ++ h.2.map sT
def hText (h : List (Nat × Nat) × List (Nat × Nat)) : Str := Txt.join blank (hWords h)
theorem num1 {k : Nat} (h : k < 10) : num k = ⟨#[48 + k]⟩ := ext_tl (by rw [tl_num', numL_lt h])
theorem num1_len {k : Nat} (h : k < 10) : (num k).length = 1 := by rw [num1 h]; rfl
theorem dash_len : (Str.ofString "-").length = 1 := by decide
theorem app_len (a b : Str) : (a ++ b).length = a.length + b.length := by
  rw [len_tl, tl_append, List.length_append, ← len_tl, ← len_tl]
theorem sT_len {s : Nat × Nat} (h : Gd s) : (sT s).length = 3 := by
  unfold sT
  have := h.1
  have := h.2
  rw [app_len, app_len, num1_len (by omega), num1_len (by omega), dash_len]
theorem sT_turn {s : Nat × Nat} (h : Gd s) (a b c d : Sl) : turn (gT [(gN 4), (gN 5)]) tYesB (cBin .Add (cBin .Add (cFn strD [(cVar 4)]) (cC (.str (Str.ofString "-")))) (cFn strD [(cVar 5)])) (sD s) [a, b, c, d, .no, .no] = .ok (some (.str (sT s))) [a, b, c, d, .sh (.int (s.1 : Int)), .sh (.int (s.2 : Int))] := by
  have h1 := h.1
  have h2 := h.2
  have e1 := str_ev (k := s.1) (by omega)
  have e2 := str_ev (k := s.2) (by omega)
  have l1 := num1_len (k := s.1) (by omega)
  have l2 := num1_len (k := s.2) (by omega)
  have a1 := add_str (a := num s.1) (b := Str.ofString "-") (by rw [l1, dash_len]; decide)
  have a2 := add_str (a := num s.1 ++ Str.ofString "-") (b := num s.2) (by rw [app_len, l1, dash_len, l2]; decide)
  simp [turn, e1, e2, a1, a2, sT]
theorem sT_loop {l : List (Nat × Nat)} (h : GL l) (a b c d e f : Sl) : cLoop (gT [(gN 4), (gN 5)]) tYesB (cBin .Add (cBin .Add (cFn strD [(cVar 4)]) (cC (.str (Str.ofString "-")))) (cFn strD [(cVar 5)])) [4, 5] (l.map sD) [] [a, b, c, d, e, f] = .ok (l.map fun s => .str (sT s)) [a, b, c, d, .no, .no] :=
  loop_map (W := [a, b, c, d, .no, .no]) sD (fun s => .str (sT s)) (fun s hs => ⟨_, sT_turn (h.gd s hs) a b c d, by simp⟩) (by simp) (by rw [sizeLine_eq]; have := h.len; omega)
def hB : EV := (cLC (iAny (cVar 3)) (gT [(gN 4), (gN 5)]) tYesB (cBin .Add (cBin .Add (cFn strD [(cVar 4)]) (cC (.str (Str.ofString "-")))) (cFn strD [(cVar 5)])) [4, 5])
theorem hB_turn {l : List (Nat × Nat)} (h : GL l) (a b c : Sl) : turn (gN 3) tYesB hB (sL l) [a, b, c, .no, .no, .no] = .ok (some (.lst (l.map fun s => .str (sT s)))) [a, b, c, .sh (sL l), .no, .no] := by
  have e := sT_loop h a b c (.sh (sL l)) .no .no
  simp [turn, hB, itD, e]
theorem join_h {h : List (Nat × Nat) × List (Nat × Nat)} (h1 : GL h.1) (h2 : GL h.2) : joinD [.str (Str.ofString " "), .lst ((h.1.map fun s => D.str (sT s)) ++ [.str (Str.ofString "/")] ++ h.2.map fun s => D.str (sT s))] = some (.sh (.str (hText h))) := by
  have e : ((h.1.map fun s => D.str (sT s)) ++ [D.str (Str.ofString "/")] ++ h.2.map fun s => D.str (sT s)) = (hWords h).map D.str := by simp [hWords, Function.comp_def]
  have l1 : (Str.ofString " ").length = 1 := by decide
  have ls : (Str.ofString "/").length = 1 := by decide
  have z : joinOk (Str.ofString " ") (hWords h) = true := by
    refine decide_eq_true ?_
    have q := sum_le (l := (hWords h).map (·.length)) (b := 3) (by
      intro x hx
      simp only [List.mem_map] at hx
      obtain ⟨w, hw, rfl⟩ := hx
      simp only [hWords, List.mem_append, List.mem_map, List.mem_singleton] at hw
      rcases hw with (⟨s, hs, rfl⟩ | rfl) | ⟨s, hs, rfl⟩
      · exact Nat.le_of_eq (sT_len (h1.gd s hs))
      · rw [ls]; decide
      · exact Nat.le_of_eq (sT_len (h2.gd s hs)))
    have a := h1.len
    have b := h2.len
    rw [l1]
    have hl : (hWords h).length = h.1.length + 1 + h.2.length := by simp [hWords]; omega
    simp only [List.length_map] at q
    omega
  rw [e]
  simp only [joinD, allStr_map', Option.bind_some, z, if_true]
  rfl
theorem holds_text_ok {h : List (Nat × Nat) × List (Nat × Nat)} (h1 : GL h.1) (h2 : GL h.2) : f_holds_text [.sh (hD h)] = .ok (.sh (.str (hText h))) [.no] := by
  have e := is_holds_ok h1 h2
  have t1 := hB_turn h1 (.sh (hD h)) .no .no
  have t2 := hB_turn h2 (.sh (hD h)) .no .no
  have j : joinD [.str (Str.ofString " "), .lst ((h.1.map fun s => D.str (sT s)) ++ .str (Str.ofString "/") :: h.2.map fun s => D.str (sT s))] = some (.sh (.str (hText h))) := by
    have := join_h h1 h2
    rwa [List.append_assoc] at this
  have c1 := bin_catL (l := h.1.map fun s => D.str (sT s)) (m := [.str (Str.ofString "/")]) (by have := h1.len; simp; omega)
  have c2 := bin_catL (l := (h.1.map fun s => D.str (sT s)) ++ [.str (Str.ofString "/")]) (m := h.2.map fun s => D.str (sT s)) (by have := h1.len; have := h2.len; simp; omega)
  have eb : b_holds_text = sSeq (sIf (cNot (cTru (cCal f_is_holds [false, false] [(cVar 0), (cC (.int 9))]))) (sRaise (Str.ofString "NoHolds")) sSkip) (sSeq (sAsg (cLC (iAny (cVar 0)) (gN 3) tYesB hB [3]) (gT [(gN 1), (gN 2)])) (sRet (cMt "str" joinD (cC (.str (Str.ofString " "))) [(cBin .Add (cBin .Add (cVar 1) (cLst [(cC (.str (Str.ofString "/")))])) (cVar 2))]))) := rfl
  have lp : cLoop (gN 3) tYesB hB [3] [sL h.1, sL h.2] [] [.sh (hD h), .no, .no, .no, .no, .no] = .ok [.lst (h.1.map fun s => .str (sT s)), .lst (h.2.map fun s => .str (sT s))] [.sh (hD h), .no, .no, .no, .no, .no] := by
    have f1 : fit 1 = true := by decide
    have f2 : fit 2 = true := by decide
    have nil : ∀ acc δ, cLoop (gN 3) tYesB hB [3] [] acc δ = .ok acc (wipeD δ [3]) := fun _ _ => rfl
    simp [loop_turn, t1, t2, f1, f2, nil]
  simp [f_holds_text, eb, e, truD, itD, lp, c1, c2, tyOk, j, fit, sizeLine_eq]
end K49
namespace K49
open PySem PySem.Spec PyProof.Rows L2 PV TL
theorem fig9_at : ∀ d : Nat, d < 9 → atI (Str.ofString "012345678").cps.toList (d : Int) = some (48 + d) := by decide
theorem ix_fig9 {d : Nat} (h : d < 9) : ixD (.str (Str.ofString "012345678")) (.int (d : Int)) = some (.sh (.str (num d))) := by
  have hf : fit (Str.ofString "012345678").length = true := by decide
  rw [num1 (by omega)]
  simp [ixD, hf, fig9_at d h]
def hwE : EV := (cBin .Add (cBin .Add (cIx (cC (.str (Str.ofString "012345678"))) (cVar 3)) (cC (.str (Str.ofString "-")))) (cIx (cC (.str (Str.ofString "012345678"))) (cVar 4)))
theorem hw_turn {s : Nat × Nat} (h : Gd s) (a b c : Sl) : turn (gT [(gN 3), (gN 4)]) tYesB hwE (sD s) [a, b, c, .no, .no] = .ok (some (.str (sT s))) [a, b, c, .sh (.int (s.1 : Int)), .sh (.int (s.2 : Int))] := by
  have h1 := h.1
  have h2 := h.2
  have e1 := ix_fig9 (d := s.1) (by omega)
  have e2 := ix_fig9 (d := s.2) (by omega)
  have l1 := num1_len (k := s.1) (by omega)
  have l2 := num1_len (k := s.2) (by omega)
  have a1 := add_str (a := num s.1) (b := Str.ofString "-") (by rw [l1, dash_len]; decide)
  have a2 := add_str (a := num s.1 ++ Str.ofString "-") (b := num s.2) (by rw [app_len, l1, dash_len, l2]; decide)
  simp [turn, hwE, e1, e2, a1, a2, sT]
theorem hw_loop {l : List (Nat × Nat)} (h : GL l) (a b c d e : Sl) : cLoop (gT [(gN 3), (gN 4)]) tYesB hwE [3, 4] (l.map sD) [] [a, b, c, d, e] = .ok (l.map fun s => .str (sT s)) [a, b, c, .no, .no] :=
  loop_map (W := [a, b, c, .no, .no]) sD (fun s => .str (sT s)) (fun s hs => ⟨_, hw_turn (h.gd s hs) a b c, by simp⟩) (by simp) (by rw [sizeLine_eq]; have := h.len; omega)
def hwB : EV := (cLC (iAny (cVar 2)) (gT [(gN 3), (gN 4)]) tYesB hwE [3, 4])
theorem hwB_turn {l : List (Nat × Nat)} (h : GL l) (a b : Sl) : turn (gN 2) tYesB hwB (sL l) [a, b, .no, .no, .no] = .ok (some (.lst (l.map fun s => .str (sT s)))) [a, b, .sh (sL l), .no, .no] := by
  have e := hw_loop h a b (.sh (sL l)) .no .no
  simp [turn, hwB, itD, e]
theorem holds_written_ok {h : List (Nat × Nat) × List (Nat × Nat)} (h1 : GL h.1) (h2 : GL h.2) : f__law_holds_written [.sh (hD h)] = .ok (.sh (.str (hText h))) [.no] := by
  have t1 := hwB_turn h1 (.sh (hD h)) .no
  have t2 := hwB_turn h2 (.sh (hD h)) .no
  have j : joinD [.str (Str.ofString " "), .lst ((h.1.map fun s => D.str (sT s)) ++ .str (Str.ofString "/") :: h.2.map fun s => D.str (sT s))] = some (.sh (.str (hText h))) := by
    have := join_h h1 h2
    rwa [List.append_assoc] at this
  have c1 := bin_catL (l := h.1.map fun s => D.str (sT s)) (m := [.str (Str.ofString "/")]) (by have := h1.len; simp; omega)
  have c2 := bin_catL (l := (h.1.map fun s => D.str (sT s)) ++ [.str (Str.ofString "/")]) (m := h.2.map fun s => D.str (sT s)) (by have := h1.len; have := h2.len; simp; omega)
  have eb : b__law_holds_written = sSeq (sAsg (cLC (iAny (cVar 0)) (gN 2) tYesB hwB [2]) (gN 1)) (sRet (cMt "str" joinD (cC (.str (Str.ofString " "))) [(cBin .Add (cBin .Add (cIx (cVar 1) (cC (.int 0))) (cLst [(cC (.str (Str.ofString "/")))])) (cIx (cVar 1) (cC (.int 1))))])) := rfl
  have lp : cLoop (gN 2) tYesB hwB [2] [sL h.1, sL h.2] [] [.sh (hD h), .no, .no, .no, .no] = .ok [.lst (h.1.map fun s => .str (sT s)), .lst (h.2.map fun s => .str (sT s))] [.sh (hD h), .no, .no, .no, .no] := by
    have f1 : fit 1 = true := by decide
    have f2 : fit 2 = true := by decide
    have nil : ∀ acc δ, cLoop (gN 2) tYesB hwB [2] [] acc δ = .ok acc (wipeD δ [2]) := fun _ _ => rfl
    simp [loop_turn, t1, t2, f1, f2, nil]
  simp [f__law_holds_written, eb, itD, lp, (ixl2 _ _).1, (ixl2 _ _).2, c1, c2, tyOk, j, fit, sizeLine_eq]
/-! ### read back -/
theorem tl_sT {s : Nat × Nat} (h : Gd s) : tl (sT s) = [48 + s.1, 45, 48 + s.2] := by
  have h1 := h.1
  have h2 := h.2
  have : tl (Str.ofString "-") = [45] := by decide
  unfold sT
  rw [tl_append, tl_append, tl_num', tl_num', numL_lt (by omega), numL_lt (by omega), this]; rfl
theorem sT_free {s : Nat × Nat} (h : Gd s) : 32 ∉ tl (sT s) := by
  rw [tl_sT h]
  have h1 := h.1
  simp; omega
theorem slash_free : 32 ∉ tl (Str.ofString "/") := by decide
theorem h_split {h : List (Nat × Nat) × List (Nat × Nat)} (h1 : GL h.1) (h2 : GL h.2) : Txt.split (hText h) blank = hWords h := by
  refine split_join (y := blank) tl_blank (by decide +kernel) (by unfold hWords; simp) fun p hp => ?_
  simp only [hWords, List.mem_append, List.mem_map, List.mem_singleton] at hp
  rcases hp with (⟨s, hs, rfl⟩ | rfl) | ⟨s, hs, rfl⟩
  · exact sT_free (h1.gd s hs)
  · exact slash_free
  · exact sT_free (h2.gd s hs)
theorem hText_len {h : List (Nat × Nat) × List (Nat × Nat)} (h1 : GL h.1) (h2 : GL h.2) : (hText h).length ≤ 400 := by
  have q1 := join_len blank (hWords h)
  have ls : (Str.ofString "/").length = 1 := by decide
  have q := sum_le (l := (hWords h).map (·.length)) (b := 3) (by
      intro x hx
      simp only [List.mem_map] at hx
      obtain ⟨w, hw, rfl⟩ := hx
      simp only [hWords, List.mem_append, List.mem_map, List.mem_singleton] at hw
      rcases hw with (⟨s, hs, rfl⟩ | rfl) | ⟨s, hs, rfl⟩
      · exact Nat.le_of_eq (sT_len (h1.gd s hs))
      · rw [ls]; decide
      · exact Nat.le_of_eq (sT_len (h2.gd s hs)))
  have a := h1.len
  have b := h2.len
  have hl : (hWords h).length = h.1.length + 1 + h.2.length := by simp [hWords]; omega
  rw [blank_len] at q1
  simp only [List.length_map] at q
  unfold hText
  omega
theorem sT_ne {s : Nat × Nat} (h : Gd s) : sT s ≠ Str.ofString "/" := fun z => by
  have := sT_len h
  rw [z] at this
  exact absurd this (by decide)
/-- a word read -/
theorem sT_split {s : Nat × Nat} (h : Gd s) : Txt.split (sT s) dash = [num s.1, num s.2] := by
  have h1 := h.1
  have h2 := h.2
  have e : sT s = Txt.join dash [num s.1, num s.2] := by
    rw [join_eq]; rfl
  rw [e]
  refine split_join (y := dash) (s := 45) (S := []) (by decide) (by decide +kernel) (by simp) fun p hp => ?_
  simp at hp
  rcases hp with rfl | rfl
  · rw [tl_num', numL_lt (by omega)]; simp; omega
  · rw [tl_num', numL_lt (by omega)]; simp; omega
theorem stretch_in_ok {s : Nat × Nat} (h : Gd s) : f_stretch_in [.sh (.str (sT s))] = .ok (.sh (sD s)) [.no] := by
  have h1 := h.1
  have h2 := h.2
  have l1 := num1_len (k := s.1) (by omega)
  have l2 := num1_len (k := s.2) (by omega)
  have sp : splitD [.str (sT s), .str (Str.ofString "-")] = some (.ow (.lst [.str (num s.1), .str (num s.2)])) := by
    have z := sT_len h
    have zz : decide ((sT s).length + 2 ≤ sizeLine) = true := decide_eq_true (by rw [sizeLine_eq]; omega)
    have b1 : ((Str.ofString "-").length == 0) = false := by decide
    have rs := sT_split h
    unfold dash at rs
    simp [splitD, zz, b1, rs]
  have i1 := int_num' (k := s.1) (by omega)
  have i2 := int_num' (k := s.2) (by omega)
  have n1 : strIn (num s.1) (Str.ofString "0123456789") = true := by rw [num1 (by omega)]; exact fig_in _ (by omega)
  have n2 : strIn (num s.2) (Str.ofString "0123456789") = true := by rw [num1 (by omega)]; exact fig_in _ (by omega)
  have lp : ∀ q : Sl, cLoop (gN 2) (cOrs [(cChainB (cFn lenD [(cVar 2)]) [(.NotEq, (cC (.int 1)))]), (cChainB (cVar 2) [(.NotIn, (cC (.str (Str.ofString "0123456789"))))])]) (cVar 2) [2] [.str (num s.1), .str (num s.2)] [] [.sh (.str (sT s)), q, .no] = .ok [] [.sh (.str (sT s)), q, .no] := fun q => by
    refine loop_none (W := [.sh (.str (sT s)), q, .no]) (fun d hd => ?_) (by simp) (by rw [sizeLine_eq]; simp)
    simp only [List.mem_cons, List.not_mem_nil, or_false] at hd
    rcases hd with rfl | rfl
    · exact ⟨[.sh (.str (sT s)), q, .sh (.str (num s.1))], by simp [turn, lenD, l1, cmpD, inD, n1, fit, sizeLine_eq], by simp⟩
    · exact ⟨[.sh (.str (sT s)), q, .sh (.str (num s.2))], by simp [turn, lenD, l2, cmpD, inD, n2, fit, sizeLine_eq], by simp⟩
  simp [f_stretch_in, b_stretch_in, sp, tyOk, lenD, cmpD, itD, lp, (ixl2 _ _).1, (ixl2 _ _).2, i1, i2, fit, sizeLine_eq]
end K49
namespace K49
open PySem PySem.Spec PyProof.Rows L2 PV TL
theorem cut_pre {α : Type} (xs ys : List α) : cut (xs ++ ys) none (some (xs.length : Int)) = xs := by
  unfold cut
  rw [HT.sIx_none, HT.sIx_nat]
  simp
theorem cut_suf {α : Type} (xs ys : List α) : cut (xs ++ ys) (some (xs.length : Int)) none = ys := by
  unfold cut
  rw [HT.sIx_none, HT.sIx_nat]
  simp
theorem sOk {x : Str} (h : ∀ c ∈ tl x, c < 200) : PyData.strOk x = true := by
  unfold PyData.strOk
  rw [← Array.all_toList, List.all_eq_true]
  intro c hc
  have := h c hc
  exact decide_eq_true (by omega)
theorem py_str {x : Str} (h : ∀ c ∈ tl x, c < 200) (k : Nat) : Py (.str x) (.str x) k := ⟨rfl, by rw [PyData.canLay0]; exact sOk h, by simp [PyData.depth]⟩
theorem pya_strs {k : Nat} : ∀ {l : List Str}, (∀ x ∈ l, ∀ c ∈ tl x, c < 200) → PyA (l.map D.str) (l.map PyData.str) k
  | [], _ => pya_nil k
  | x :: l, h => pya_cons (py_str (h x List.mem_cons_self) k) (pya_strs fun y hy => h y (List.mem_cons_of_mem _ hy))
theorem slash_c : ∀ c ∈ tl (Str.ofString "/"), c < 200 := by decide
theorem eqv_str (x y : Str) : PyData.eqv (.str x) (.str y) = (x == y) := by rw [PyData.eqv]
theorem count_w {l : List Str} (h : ∀ x ∈ l, x ≠ Str.ofString "/") : (l.map PyData.str).countP (fun z => PyData.eqv z (.str (Str.ofString "/"))) = 0 := by
  rw [List.countP_eq_zero]
  intro z hz
  obtain ⟨x, hx, rfl⟩ := List.mem_map.mp hz
  rw [eqv_str]
  simpa using h x hx
theorem idx_w : ∀ {l r : List Str}, (∀ x ∈ l, x ≠ Str.ofString "/") → idxP (.str (Str.ofString "/")) ((l ++ Str.ofString "/" :: r).map PyData.str) = some l.length
  | [], r, _ => by simp [idxP, eqv_str]
  | x :: l, r, h => by
    have h0 : (x == Str.ofString "/") = false := by simpa using h x List.mem_cons_self
    have ih := idx_w (l := l) (r := r) fun y hy => h y (List.mem_cons_of_mem _ hy)
    simp only [List.cons_append, List.map_cons, idxP, eqv_str, h0, Bool.false_eq_true, if_false]
    rw [ih]; rfl
section
variable {h : List (Nat × Nat) × List (Nat × Nat)}
def wD (h : List (Nat × Nat) × List (Nat × Nat)) : List D := (hWords h).map D.str
theorem ne1 {l : List (Nat × Nat)} (g : GL l) : ∀ x ∈ l.map sT, x ≠ Str.ofString "/" := fun x hx => by
  obtain ⟨s, hs, rfl⟩ := List.mem_map.mp hx
  exact sT_ne (g.gd s hs)
theorem sT_c {s : Nat × Nat} (g : Gd s) : ∀ c ∈ tl (sT s), c < 200 := by
  rw [tl_sT g]
  have := g.1
  have := g.2
  intro c hc
  simp at hc
  omega
theorem pya_w (h1 : GL h.1) (h2 : GL h.2) : PyA (wD h) ((hWords h).map PyData.str) 0 := by
  refine pya_strs fun p hp => ?_
  simp only [hWords, List.mem_append, List.mem_map, List.mem_singleton] at hp
  rcases hp with (⟨s, hs, rfl⟩ | rfl) | ⟨s, hs, rfl⟩
  · exact sT_c (h1.gd s hs)
  · exact slash_c
  · exact sT_c (h2.gd s hs)
theorem count_ok (h1 : GL h.1) (h2 : GL h.2) : countD [.lst (wD h), .str (Str.ofString "/")] = some (.sh (.int 1)) := by
  have hp := pya_w h1 h2
  have s1 : SeqAt.shaped (.list ((hWords h).map PyData.str)) = true := (py_lst hp).shaped (by decide)
  have s2 : SeqAt.shaped (.str (Str.ofString "/")) = true := (py_str slash_c 0).shaped (by decide)
  have c : ((hWords h).map PyData.str).countP (fun z => PyData.eqv z (.str (Str.ofString "/"))) = 1 := by
    unfold hWords
    rw [List.map_append, List.map_append, List.countP_append, List.countP_append, count_w (ne1 h1), count_w (ne1 h2)]
    simp [eqv_str]
  have e : toPy (.str (Str.ofString "/")) = some (.str (Str.ofString "/")) := rfl
  simp only [countD, hp.py, e, s1, s2, Bool.and_self, if_true, c]
  rfl
theorem index_ok (h1 : GL h.1) (h2 : GL h.2) : indexD [.lst (wD h), .str (Str.ofString "/")] = some (.sh (.int (h.1.length : Nat))) := by
  have hp := pya_w h1 h2
  have s1 : SeqAt.shaped (.list ((hWords h).map PyData.str)) = true := (py_lst hp).shaped (by decide)
  have s2 : SeqAt.shaped (.str (Str.ofString "/")) = true := (py_str slash_c 0).shaped (by decide)
  have c : idxP (.str (Str.ofString "/")) ((hWords h).map PyData.str) = some h.1.length := by
    have := idx_w (l := h.1.map sT) (r := h.2.map sT) (ne1 h1)
    rw [List.length_map] at this
    unfold hWords
    rw [List.append_assoc]
    exact this
  have e : toPy (.str (Str.ofString "/")) = some (.str (Str.ofString "/")) := rfl
  simp only [indexD, hp.py, e, s1, s2, Bool.and_self, if_true, c, Option.map_some]
theorem wD_eq (h : List (Nat × Nat) × List (Nat × Nat)) : wD h = (h.1.map fun s => D.str (sT s)) ++ (D.str (Str.ofString "/") :: h.2.map fun s => D.str (sT s)) := by
  simp [wD, hWords, Function.comp_def]
abbrev r0 (h : List (Nat × Nat) × List (Nat × Nat)) : List Sl := [.sh (.str (hText h)), .no, .no, .no, .no]
abbrev r2 (h : List (Nat × Nat) × List (Nat × Nat)) : List Sl := [.sh (.str (hText h)), .ow false (.lst (wD h)), .no, .no, .no]
abbrev r4 (h : List (Nat × Nat) × List (Nat × Nat)) : List Sl := [.sh (.str (hText h)), .ow false (.lst (wD h)), .sh (.int (h.1.length : Nat)), .no, .no]
theorem rh1_ok : rh1 (r0 h) = .nx (r0 h) := by
  have e := need_text_ok (hText h)
  simp [rh1, e]
theorem rh2_ok (h1 : GL h.1) (h2 : GL h.2) : rh2 (r0 h) = .nx (r2 h) := by
  have z := hText_len h1 h2
  have s1 : splitD [.str (hText h), .str (Str.ofString " ")] = some (.ow (.lst (wD h))) := by
    have zz : decide ((hText h).length + 2 ≤ sizeLine) = true := decide_eq_true (by rw [sizeLine_eq]; omega)
    have b1 : ((Str.ofString " ").length == 0) = false := by decide
    have rs := h_split h1 h2
    unfold blank at rs
    simp [splitD, zz, b1, rs, wD]
  simp [rh2, s1, tyOk]
theorem rh3_ok (h1 : GL h.1) (h2 : GL h.2) : rh3 (r2 h) = .nx (r2 h) := by
  have c := count_ok h1 h2
  simp [rh3, tyOk, c, cmpD]
theorem rh4_ok (h1 : GL h.1) (h2 : GL h.2) : rh4 (r2 h) = .nx (r4 h) := by
  have c := index_ok h1 h2
  simp [rh4, tyOk, c]
theorem rd_loop {l : List (Nat × Nat)} (g : GL l) (a b c d e : Sl) : cLoop (gN 4) tYesB (cCal f_stretch_in [false] [(cVar 4)]) [4] (l.map fun s => .str (sT s)) [] [a, b, c, d, e] = .ok (l.map sD) [a, b, c, d, .no] :=
  loop_map (W := [a, b, c, d, .no]) (fun s => .str (sT s)) sD (fun s hs => ⟨[a, b, c, d, .sh (.str (sT s))], by simp [turn, stretch_in_ok (g.gd s hs)], by simp⟩) (by simp) (by rw [sizeLine_eq]; have := g.len; omega)
theorem rhA_ok (h1 : GL h.1) : rhA (r4 h) = .ok (.ow (sL h.1)) (r4 h) := by
  have c : cut (wD h) none (some (h.1.length : Int)) = h.1.map fun s => D.str (sT s) := by
    have := cut_pre (h.1.map fun s => D.str (sT s)) (D.str (Str.ofString "/") :: h.2.map fun s => D.str (sT s))
    rw [List.length_map] at this
    rw [wD_eq]; exact this
  have lp := rd_loop h1 (.sh (.str (hText h))) (.ow false (.lst (wD h))) (.sh (.int (h.1.length : Nat))) .no .no
  simp [rhA, slD, c, itD, lp]
theorem rhB_ok (h2 : GL h.2) : rhB (r4 h) = .ok (.ow (sL h.2)) (r4 h) := by
  have c : cut (wD h) (some ((h.1.length : Int) + 1)) none = h.2.map fun s => D.str (sT s) := by
    have := cut_suf ((h.1.map fun s => D.str (sT s)) ++ [D.str (Str.ofString "/")]) (h.2.map fun s => D.str (sT s))
    rw [List.length_append, List.length_map, List.append_assoc] at this
    rw [wD_eq]
    exact this
  have lp := rd_loop h2 (.sh (.str (hText h))) (.ow false (.lst (wD h))) (.sh (.int (h.1.length : Nat))) .no .no
  simp [rhB, bin_add, slD, c, itD, lp]
theorem rh_ok (h1 : GL h.1) (h2 : GL h.2) : rh (hText h) = some (h.1.map sD, h.2.map sD) := by
  have e := is_holds_ok h1 h2
  unfold rh
  rw [show rh1 [.sh (.str (hText h)), .no, .no, .no, .no] = .nx (r0 h) from rh1_ok]
  dsimp only
  rw [rh2_ok h1 h2]
  dsimp only
  rw [rh3_ok h1 h2]
  dsimp only
  rw [rh4_ok h1 h2]
  dsimp only
  rw [if_pos (show (r4 h).length = 5 from rfl), rhA_ok h1]
  dsimp only
  rw [rhB_ok h2]
  dsimp only
  rw [e]
theorem read_holds_ok (h1 : GL h.1) (h2 : GL h.2) : f_read_holds [.sh (.str (hText h))] = .ok (.sh (hD h)) [.no] := by
  have e := is_holds_ok h1 h2
  have e1 := rh1_ok (h := h)
  have e2 := rh2_ok h1 h2
  have e3 := rh3_ok h1 h2
  have e4 := rh4_ok h1 h2
  have e5 := rhA_ok h1
  have e6 := rhB_ok h2
  have eb : b_read_holds = sSeq rh1 (sSeq rh2 (sSeq rh3 (sSeq rh4 (sSeq (sAsg (cTup [rhA, rhB]) (gN 3)) (sSeq (sIf (cNot (cTru (cCal f_is_holds [false, false] [(cVar 3), (cC (.int 9))]))) (sRaise (Str.ofString "NoText")) sSkip) (sRet (cVar 3))))))) := rfl
  simp [f_read_holds, eb, e1, e2, e3, e4, e5, e6, e, truD, fit, sizeLine_eq]
end
end K49
namespace K49
open PySem PySem.Spec PyProof.Rows L2 PV TL
section
variable {h : List (Nat × Nat) × List (Nat × Nat)}
theorem same_sD (k : Nat) (s : Nat × Nat) : Sm (k + 2) (sD s) := same_tup (k := k + 1) (fun d hd => by
  simp only [List.mem_cons, List.not_mem_nil, or_false] at hd
  rcases hd with rfl | rfl
  · exact same_int k _
  · exact same_int k _) (by simp)
theorem same_sL (k : Nat) {l : List (Nat × Nat)} (g : GL l) : Sm (k + 3) (sL l) := same_lst (k := k + 2) (fun d hd => by
  obtain ⟨s, _, rfl⟩ := List.mem_map.mp hd
  exact same_sD k s) (by have := g.len; simp; omega)
theorem same_hD (h1 : GL h.1) (h2 : GL h.2) : f__law_same 12 [.sh (hD h), .sh (hD h)] = .ok (.sh (.bl true)) [.no, .no] :=
  same_tup (k := 11) (fun d hd => by
    simp only [List.mem_cons, List.not_mem_nil, or_false] at hd
    rcases hd with rfl | rfl
    · exact same_sL 8 h1
    · exact same_sL 8 h2) (by simp)
theorem py_sD (s : Nat × Nat) : Py (sD s) (.tuple [.int (s.1 : Int), .int (s.2 : Int)]) 1 := py_tup (pya_cons (py_int _ 0) (pya_cons (py_int _ 0) (pya_nil 0)))
theorem py_sL (l : List (Nat × Nat)) : Py (sL l) (.list (l.map fun s => .tuple [.int (s.1 : Int), .int (s.2 : Int)])) 2 := py_lst (pya_map py_sD l)
theorem eq_sL (l : List (Nat × Nat)) : eqD (sL l) (sL l) = some true := eqD_lst (py_sL l) (by decide)
theorem eq_hD (h : List (Nat × Nat) × List (Nat × Nat)) : eqD (hD h) (hD h) = some true := eqD_tup (py_tup (pya_cons (py_sL h.1) (pya_cons (py_sL h.2) (pya_nil 2)))) (by decide)
theorem hrT_ok (h1 : GL h.1) (h2 : GL h.2) (s2 s3 s4 s5 : Sl) : hrT [.sh (hD h), .sh (.str (hText h)), s2, s3, s4, s5] = .nx [.sh (hD h), .sh (.str (hText h)), s2, s3, s4, .no] := by
  have e1 := rh_ok h1 h2
  have e2 := same_hD h1 h2
  have e3 := eq_sL h.2
  have c : eqD (.lst (h.2.map sD)) (.lst (h.2.map sD)) = some true ∧ (h.1.map sD).length < sizeLine ∧ (h.2.map sD).length < sizeLine ∧ [Sl.sh (hD h), .sh (.str (hText h)), s2, s3, s4, s5].length = 6 :=
    ⟨e3, by rw [sizeLine_eq]; have := h1.len; simp; omega, by rw [sizeLine_eq]; have := h2.len; simp; omega, rfl⟩
  unfold hrT
  simp only [List.getElem?_cons_zero, List.getElem?_cons_succ]
  rw [e1]
  dsimp only
  rw [e2]
  dsimp only
  rw [if_pos c]
  rfl
def hrB : SV := (sSeq (sAsg (cCal f_holds_text [false] [(cVar 2)]) (gN 4)) (sSeq (sIf (cOrs [(cNot (cTru (cIsi ["str"] (cVar 4)))), (cChainB (cVar 4) [(.NotEq, (cVar 1))]), (cChainB (cVar 2) [(.NotEq, (cVar 0))])]) (sRet (cC (.bl false))) sSkip) hrT))
theorem hrB_ok (h1 : GL h.1) (h2 : GL h.2) (s3 s4 : Sl) (f4 : Fr s4) : hrB [.sh (hD h), .sh (.str (hText h)), .sh (hD h), s3, s4, .no] = .nx [.sh (hD h), .sh (.str (hText h)), .sh (hD h), s3, .sh (.str (hText h)), .no] := by
  have e1 := holds_text_ok h1 h2
  have e2 := eq_hD h
  have e3 := hrT_ok h1 h2 (.sh (hD h)) s3 (.sh (.str (hText h))) .no
  rcases s4 with _ | d | ⟨_ | _, d⟩ <;> first | exact f4.elim | skip
  all_goals simp [hrB, e1, e2, e3, tyD, is_ss, truD, cmpD]
theorem holds_right_ok (h1 : GL h.1) (h2 : GL h.2) : f__law_holds_right [.sh (hD h)] = .ok (.sh (.bl true)) [.no] := by
  have e0 := holds_written_ok h1 h2
  have t1 := hrB_ok h1 h2 (.sh (.int 0)) .no trivial
  have t2 := hrB_ok h1 h2 (.sh (.int 1)) (.sh (.str (hText h))) trivial
  have r2 : rngIt1 [.int 2] = some [.int 0, .int 1] := rfl
  have eb : b__law_holds_right = sSeq (sAsg (cCal f__law_holds_written [false] [(cVar 0)]) (gN 1)) (sSeq (sAsg (cTup [(cFn listD [(cIx (cVar 0) (cC (.int 0)))]), (cFn listD [(cIx (cVar 0) (cC (.int 1)))])]) (gN 2)) (sSeq (sFor (iFn rngIt1 [(cC (.int 2))]) (gN 3) hrB) (sRet (cC (.bl true))))) := rfl
  simp [f__law_holds_right, eb, e0, (tup_ix _ _).1, (tup_ix _ _).2, listD, r2, loop_cons, t1, t2, fit, sizeLine_eq]
end
end K49
namespace K49
open PySem PySem.Spec PyProof.Rows L2 PV TL
theorem law_comp (s0 s1 s2 s4 : Sl) : ∀ (ds : List D) (acc : List (Nat × Nat)) (w : D) (s5 : Sl), Well w → acc.length + ds.length ≤ 1000 →
    ∃ (l : List (Nat × Nat)) (w' : D), cLoop (gN 5) tYesB (cCal f__law_stretch [true, false] [(cVar 3), (cC (.int 9))]) [5] ds (acc.map sD) [s0, s1, s2, .ow false w, s4, s5] = .ok ((acc ++ l).map sD) [s0, s1, s2, .ow false w', s4, .no] ∧ Well w' ∧ l.length = ds.length ∧ ∀ s ∈ l, Gd s
  | [], acc, w, s5, hw, _ => ⟨[], w, by simp [cLoop], hw, rfl, by simp⟩
  | d :: ds, acc, w, s5, hw, hz => by
    simp only [List.length_cons] at hz
    obtain ⟨s, w1, e, gs, h1⟩ := stretch_ok hw
    obtain ⟨l, w', e2, h2, hl, hg⟩ := law_comp s0 s1 s2 s4 ds (acc ++ [s]) w1 (.sh d) h1 (by simp; omega)
    refine ⟨s :: l, w', ?_, h2, by simp [hl], fun x hx => ?_⟩
    · rw [loop_turn]
      have ht : turn (gN 5) tYesB (cCal f__law_stretch [true, false] [(cVar 3), (cC (.int 9))]) d (wipeD [s0, s1, s2, .ow false w, s4, s5] [5]) = .ok (some (sD s)) [s0, s1, s2, .ow false w1, s4, .sh d] := by
        simp [turn, e]
      have hf : fit ((acc.map sD).length + 1) = true := decide_eq_true (by rw [sizeLine_eq]; simp; omega)
      rw [ht, ev_bind_ok]
      dsimp only
      rw [if_pos hf]
      have m1 : acc.map sD ++ [sD s] = (acc ++ [s]).map sD := by simp
      rw [m1, e2]
      simp
    · rcases List.mem_cons.mp hx with rfl | hx
      · exact gs
      · exact hg _ hx
def lawS1 : SV := (sAsg (cCal f__law_well [false] [(cVar 2)]) (gN 3))
def lawS2 : SV := (sAsg (cCal f__law_holds [true, false] [(cVar 3), (cC (.int 9))]) (gN 4))
def lawS3 : SV := (sIf (cAnds [(cChainB (cVar 1) [(.Eq, (cC (.int 2)))]), (cChainB (cCal f__law_draw [true, false] [(cVar 3), (cC (.int 8))]) [(.Eq, (cC (.int 1)))])]) (sAsg (cTup [(cLC (iFn rngIt1 [(cC (.int 40))]) (gN 5) tYesB (cCal f__law_stretch [true, false] [(cVar 3), (cC (.int 9))]) [5]), (cLC (iFn rngIt1 [(cC (.int 40))]) (gN 5) tYesB (cCal f__law_stretch [true, false] [(cVar 3), (cC (.int 9))]) [5])]) (gN 4)) sSkip)
def lawS4 : SV := (sIf (cOrs [(cNot (cTru (cCal f__law_row_right [false] [(cCal f__law_row [true, false] [(cVar 3), (cBin .Add (cC (.int 1)) (cCal f__law_draw [true, false] [(cVar 3), (cC (.int 9))]))])]))), (cNot (cTru (cCal f__law_holds_right [false] [(cVar 4)])))]) (sRet (cC (.bl false))) sSkip)
def lawB : SV := sSeq lawS1 (sSeq lawS2 (sSeq lawS3 lawS4))
theorem lawS1_ok (c : Int) (s0 s1 s3 s4 s5 : Sl) (f3 : Fr s3) : ∃ w, lawS1 [s0, s1, .sh (.int c), s3, s4, s5] = .nx [s0, s1, .sh (.int c), .ow false w, s4, s5] ∧ Well w := by
  obtain ⟨w, e, hw⟩ := well_ok c
  refine ⟨w, ?_, hw⟩
  rcases s3 with _ | d | ⟨_ | _, d⟩ <;> first | exact f3.elim | skip
  all_goals simp [lawS1, e]
theorem lawS2_ok {w : D} (hw : Well w) (s0 s1 s2 s4 s5 : Sl) (f4 : Fr s4) : ∃ h w', lawS2 [s0, s1, s2, .ow false w, s4, s5] = .nx [s0, s1, s2, .ow false w', .sh (hD h), s5] ∧ Well w' ∧ GL h.1 ∧ GL h.2 := by
  obtain ⟨h, w', e, hw', g1, g2⟩ := law_holds_ok hw
  refine ⟨h, w', ?_, hw', g1, g2⟩
  rcases s4 with _ | d | ⟨_ | _, d⟩ <;> first | exact f4.elim | skip
  all_goals simp [lawS2, e]
theorem lawS3_ok {w : D} (hw : Well w) (k : Int) (h : List (Nat × Nat) × List (Nat × Nat)) (g1 : GL h.1) (g2 : GL h.2) (s0 s2 s5 : Sl) (f5 : Fr s5) : ∃ h' w' t5, lawS3 [s0, .sh (.int k), s2, .ow false w, .sh (hD h), s5] = .nx [s0, .sh (.int k), s2, .ow false w', .sh (hD h'), t5] ∧ Well w' ∧ GL h'.1 ∧ GL h'.2 ∧ Fr t5 := by
  by_cases hk : k = 2
  · obtain ⟨r, w1, e1, l1, u1, h1⟩ := draw_ok hw (m := 8) (by decide) (by decide)
    by_cases hr : r = 1
    · have rg : rngIt1 [.int 40] = some (rgL 0 40) := rg_small (n := 40) (by decide)
      obtain ⟨l, w2, e2, h2, hl, hg⟩ := law_comp s0 (.sh (.int k)) s2 (.sh (hD h)) (rgL 0 40) [] w1 s5 h1 (by rw [rgL_len]; decide)
      obtain ⟨l', w3, e3, h3, hl', hg'⟩ := law_comp s0 (.sh (.int k)) s2 (.sh (hD h)) (rgL 0 40) [] w2 .no h2 (by rw [rgL_len]; decide)
      rw [rgL_len] at hl hl'
      simp only [List.map_nil, List.nil_append] at e2 e3
      -- the comprehension gives its own slot back
      rcases s5 with _ | d | ⟨_ | _, d⟩ <;> first | exact f5.elim | skip
      · refine ⟨(l, l'), w3, .no, ?_, h3, ⟨by show l.length ≤ 40; omega, hg⟩, ⟨by show l'.length ≤ 40; omega, hg'⟩, trivial⟩
        simp [lawS3, e1, cmpD, hk, hr, rg, hk ▸ e2, hk ▸ e3, fit, sizeLine_eq]
      · obtain ⟨l', w3, e3, h3, hl', hg'⟩ := law_comp s0 (.sh (.int k)) s2 (.sh (hD h)) (rgL 0 40) [] w2 (.sh d) h2 (by rw [rgL_len]; decide)
        rw [rgL_len] at hl'
        simp only [List.map_nil, List.nil_append] at e3
        refine ⟨(l, l'), w3, .sh d, ?_, h3, ⟨by show l.length ≤ 40; omega, hg⟩, ⟨by show l'.length ≤ 40; omega, hg'⟩, trivial⟩
        simp [lawS3, e1, cmpD, hk, hr, rg, hk ▸ e2, hk ▸ e3, fit, sizeLine_eq]
      · refine ⟨(l, l'), w3, .no, ?_, h3, ⟨by show l.length ≤ 40; omega, hg⟩, ⟨by show l'.length ≤ 40; omega, hg'⟩, trivial⟩
        simp [lawS3, e1, cmpD, hk, hr, rg, hk ▸ e2, hk ▸ e3, fit, sizeLine_eq]
    · refine ⟨h, w1, s5, ?_, h1, g1, g2, f5⟩
      simp [lawS3, e1, cmpD, hk, hr]
  · refine ⟨h, w, s5, ?_, hw, g1, g2, f5⟩
    simp [lawS3, cmpD, hk]
theorem lawS4_ok {w : D} (hw : Well w) (h : List (Nat × Nat) × List (Nat × Nat)) (g1 : GL h.1) (g2 : GL h.2) (s0 s1 s2 s5 : Sl) : ∃ w', lawS4 [s0, s1, s2, .ow false w, .sh (hD h), s5] = .nx [s0, s1, s2, .ow false w', .sh (hD h), s5] := by
  obtain ⟨r, w1, e1, l1, u1, h1⟩ := draw_ok hw (m := 9) (by decide) (by decide)
  obtain ⟨row, w2, e2, hr, h2⟩ := law_row_ok h1 (k := (1 + r).toNat) (by omega) (by omega)
  have ek : (((1 + r).toNat : Nat) : Int) = 1 + r := by omega
  rw [ek] at e2
  have e3 := row_right_ok hr
  have e4 := holds_right_ok g1 g2
  refine ⟨w2, ?_⟩
  simp [lawS4, e1, bin_add, e2, imm_ints, e3, e4, truD]
theorem law_turn (k c : Int) (s0 s3 s4 s5 : Sl) (f3 : Fr s3) (f4 : Fr s4) (f5 : Fr s5) : ∃ t3 t4 t5, lawB [s0, .sh (.int k), .sh (.int c), s3, s4, s5] = .nx [s0, .sh (.int k), .sh (.int c), t3, t4, t5] ∧ Fr t3 ∧ Fr t4 ∧ Fr t5 := by
  obtain ⟨w1, e1, h1⟩ := lawS1_ok c s0 (.sh (.int k)) s3 s4 s5 f3
  obtain ⟨h, w2, e2, h2, g1, g2⟩ := lawS2_ok h1 s0 (.sh (.int k)) (.sh (.int c)) s4 s5 f4
  obtain ⟨h', w3, t5, e3, h3, g3, g4, f5'⟩ := lawS3_ok h2 k h g1 g2 s0 (.sh (.int c)) s5 f5
  obtain ⟨w4, e4⟩ := lawS4_ok h3 h' g3 g4 s0 (.sh (.int k)) (.sh (.int c)) t5
  exact ⟨.ow false w4, .sh (hD h'), t5, by rw [lawB, ev_sSeq, e1, ev_seq_nx, ev_sSeq, e2, ev_seq_nx, ev_sSeq, e3, ev_seq_nx, e4], trivial, trivial, f5'⟩
theorem law_loop (s0 : Sl) : ∀ (l : List Int) (k : Nat) (s1 s2 s3 s4 s5 : Sl), Fr s1 → Fr s2 → Fr s3 → Fr s4 → Fr s5 → ∃ t1 t2 t3 t4 t5, sLoop (gT [(gN 1), (gN 2)]) lawB (enumL k (l.map D.int)) [s0, s1, s2, s3, s4, s5] = .nx [s0, t1, t2, t3, t4, t5]
  | [], k, s1, s2, s3, s4, s5, _, _, _, _, _ => ⟨s1, s2, s3, s4, s5, rfl⟩
  | c :: l, k, s1, s2, s3, s4, s5, f1, f2, f3, f4, f5 => by
    obtain ⟨t3, t4, t5, e, g3, g4, g5⟩ := law_turn (k : Int) c s0 s3 s4 s5 f3 f4 f5
    obtain ⟨u1, u2, u3, u4, u5, e2⟩ := law_loop s0 l (k + 1) (.sh (.int k)) (.sh (.int c)) t3 t4 t5 trivial trivial g3 g4 g5
    refine ⟨u1, u2, u3, u4, u5, ?_⟩
    have tg : gT [(gN 1), (gN 2)] (.sh (.tup [.int (k : Int), .int c])) [s0, s1, s2, s3, s4, s5] = .ok () [s0, .sh (.int (k : Int)), .sh (.int c), s3, s4, s5] := by
      rcases s1 with _ | d | ⟨_ | _, d⟩ <;> first | exact f1.elim | skip
      all_goals (rcases s2 with _ | d | ⟨_ | _, d⟩ <;> first | exact f2.elim | skip)
      all_goals simp
    show sLoop _ _ (.tup [.int (k : Int), .int c] :: enumL (k + 1) (l.map D.int)) _ = _
    rw [loop_cons, tg, ev_nxt, ev_seq_nx, e]
    exact e2
end K49
namespace K49
open PySem PySem.Spec PyProof.Rows L2 PV TL
theorem cut_takeN {α : Type} (xs : List α) (b : Nat) : cut xs none (some (b : Int)) = xs.take b := by
  unfold cut
  rw [HT.sIx_none, HT.sIx_nat]
  simp only [List.drop_zero, Nat.sub_zero]
  by_cases h : b ≤ xs.length
  · rw [Nat.min_eq_left h]
  · rw [Nat.min_eq_right (by omega), List.take_of_length_le (Nat.le_refl _), List.take_of_length_le (by omega)]
theorem text0 : hText ([], []) = Str.ofString "/" := by decide +kernel
theorem text1 : hText ([(0, 1), (2, 3)], [(1, 2)]) = Str.ofString "0-1 2-3 / 1-2" := by decide +kernel
theorem plain : ∀ l : List Int, l.length ≤ 63 → ∃ δ, f_law [.sh (.rol (l.map D.int))] = .ok (.sh (.bl true)) δ := by
  intro l hl
  obtain ⟨t1, t2, t3, t4, t5, e⟩ := law_loop (.sh (.rol (l.map D.int))) (0 :: 5 :: l.take 8) 0 .no .no .no .no .no trivial trivial trivial trivial trivial
  have g0 : GL [] := ⟨by simp, by simp⟩
  have g1 : GL [(0, 1), (2, 3)] := ⟨by simp, by intro s hs; simp at hs; rcases hs with rfl | rfl <;> exact ⟨by decide, by decide⟩⟩
  have g2 : GL [(1, 2)] := ⟨by simp, by intro s hs; simp at hs; subst hs; exact ⟨by decide, by decide⟩⟩
  have e1 := holds_text_ok (h := ([], [])) g0 g0
  have e2 := read_holds_ok (h := ([(0, 1), (2, 3)], [(1, 2)])) g1 g2
  rw [text0] at e1
  rw [text1] at e2
  have e1 : f_holds_text [.sh (.tup [.lst [], .lst []])] = .ok (.sh (.str (Str.ofString "/"))) [.no] := e1
  have e2 : f_read_holds [.sh (.str (Str.ofString "0-1 2-3 / 1-2"))] = .ok (.sh (.tup [.lst [.tup [.int 0, .int 1], .tup [.int 2, .int 3]], .lst [.tup [.int 1, .int 2]]])) [.no] := e2
  have e3 : eqD (.tup [.lst [.tup [.int 0, .int 1], .tup [.int 2, .int 3]], .lst [.tup [.int 1, .int 2]]]) (.tup [.lst [.tup [.int 0, .int 1], .tup [.int 2, .int 3]], .lst [.tup [.int 1, .int 2]]]) = some true := eq_hD ([(0, 1), (2, 3)], [(1, 2)])
  have ct : cut (l.map D.int) none (some 8) = (l.take 8).map D.int := by
    rw [List.map_take]; exact cut_takeN _ 8
  have ca := bin_catL (l := [.int 0, .int 5]) (m := (l.take 8).map D.int) (by simp; omega)
  have sl : slD (.rol (l.map D.int)) none (some 8) = some (.ow (.lst ((l.take 8).map D.int))) := by simp only [slD, ct]
  have e : sLoop (gT [(gN 1), (gN 2)]) lawB (enumL 0 ([.int 0, .int 5] ++ (l.take 8).map D.int)) [.sh (.rol (l.map D.int)), .no, .no, .no, .no, .no] = .nx [.sh (.rol (l.map D.int)), t1, t2, t3, t4, t5] := e
  have it : iEnumD (cBin .Add (cLst [(cC (.int 0)), (cC (.int 5))]) (cSl (cVar 0) none (some (cC (.int 8))))) [.sh (.rol (l.map D.int)), .no, .no, .no, .no, .no] = .ok (enumL 0 ([.int 0, .int 5] ++ (l.take 8).map D.int)) [.sh (.rol (l.map D.int)), .no, .no, .no, .no, .no] := by
    simp only [iEnumD, ev_cBin, ev_c2, ev_cLst, ev_args1, ev_args0, ev_cC, ev_bind_ok, ev_stl_sh, ev_leaks1, ev_leaks0, ev_leak_sh, ev_fit_small, List.length_cons, List.length_nil, ev_cSl, ev_cVar, List.getElem?_cons_zero, ev_part0, ev_part1, ev_look_sh, sl, ev_ofO_some, ev_stl_ow, ca,
      show fit (0 + 1 + 1) = true by decide, if_true]
  have eb : b_law = sSeq (sFor (iEnumD (cBin .Add (cLst [(cC (.int 0)), (cC (.int 5))]) (cSl (cVar 0) none (some (cC (.int 8)))))) (gT [(gN 1), (gN 2)]) lawB) (sRet (cAndsV [(asV (cChainB (cCal f_holds_text [false] [(cTup [(cLst []), (cLst [])])]) [(.Eq, (cC (.str (Str.ofString "/"))))])), (asV (cChainB (cCal f_read_holds [false] [(cC (.str (Str.ofString "0-1 2-3 / 1-2")))]) [(.Eq, (cTup [(cLst [(cTup [(cC (.int 0)), (cC (.int 1))]), (cTup [(cC (.int 2)), (cC (.int 3))])]), (cLst [(cTup [(cC (.int 1)), (cC (.int 2))])])]))]))])) := rfl
  refine ⟨[.no], ?_⟩
  simp only [f_law, eb, ev_defD, List.replicate, List.cons_append, List.nil_append, ev_sSeq, ev_sFor]
  rw [it, ev_toS_ok]
  rw [show ([.int 0, .int 5] ++ (l.take 8).map D.int : List D) = [.int 0, .int 5] ++ (l.take 8).map D.int from rfl] at e
  rw [e, ev_seq_nx]
  simp [e1, e2, e3, cmpD, truD, fit, sizeLine_eq]
end K49
namespace K49
open PySem PySem.Spec PyProof.Rows L2 PV
theorem gx_mk {K : PySem.W.Frag} {h : Heap} {mg : Str → Option Value} (X : K.In h) (Gm : h.Ns mainGlobals mg)
    {t_MOST_NUMBERS_ways : Tok} {t_MOST_STRETCHES : Tok} {t_MOST_NUMBERS_held : Tok} {t_FIGURES : Tok} {t_MOST_NUMBERS_texts : Tok} {C_NoRow : Addr} {C_NoHolds : Addr} {C_NoText : Addr} {f__law_well : Addr} {od__law_well an__law_well : Option Addr} {sl__law_well : Array (Option Value)} {oc__law_well kV__law_well dc__law_well pm__law_well cd__law_well ct__law_well : Value} {f__law_draw : Addr} {od__law_draw an__law_draw : Option Addr} {sl__law_draw : Array (Option Value)} {oc__law_draw kV__law_draw dc__law_draw pm__law_draw cd__law_draw ct__law_draw : Value} {f__law_stretch : Addr} {od__law_stretch an__law_stretch : Option Addr} {sl__law_stretch : Array (Option Value)} {oc__law_stretch kV__law_stretch dc__law_stretch pm__law_stretch cd__law_stretch ct__law_stretch : Value} {f__law_holds : Addr} {od__law_holds an__law_holds : Option Addr} {sl__law_holds : Array (Option Value)} {oc__law_holds kV__law_holds dc__law_holds pm__law_holds cd__law_holds ct__law_holds : Value} {f_is_whole : Addr} {od_is_whole an_is_whole : Option Addr} {sl_is_whole : Array (Option Value)} {oc_is_whole kV_is_whole dc_is_whole pm_is_whole cd_is_whole ct_is_whole : Value} {f_is_stretch : Addr} {od_is_stretch an_is_stretch : Option Addr} {sl_is_stretch : Array (Option Value)} {oc_is_stretch kV_is_stretch dc_is_stretch pm_is_stretch cd_is_stretch ct_is_stretch : Value} {f_is_holds : Addr} {od_is_holds an_is_holds : Option Addr} {sl_is_holds : Array (Option Value)} {oc_is_holds kV_is_holds dc_is_holds pm_is_holds cd_is_holds ct_is_holds : Value} {f_holds_text : Addr} {od_holds_text an_holds_text : Option Addr} {sl_holds_text : Array (Option Value)} {oc_holds_text kV_holds_text dc_holds_text pm_holds_text cd_holds_text ct_holds_text : Value} {f_need_text : Addr} {od_need_text an_need_text : Option Addr} {sl_need_text : Array (Option Value)} {oc_need_text kV_need_text dc_need_text pm_need_text cd_need_text ct_need_text : Value} {f_stretch_in : Addr} {od_stretch_in an_stretch_in : Option Addr} {sl_stretch_in : Array (Option Value)} {oc_stretch_in kV_stretch_in dc_stretch_in pm_stretch_in cd_stretch_in ct_stretch_in : Value} {f_read_holds : Addr} {od_read_holds an_read_holds : Option Addr} {sl_read_holds : Array (Option Value)} {oc_read_holds kV_read_holds dc_read_holds pm_read_holds cd_read_holds ct_read_holds : Value} {f_is_row : Addr} {od_is_row an_is_row : Option Addr} {sl_is_row : Array (Option Value)} {oc_is_row kV_is_row dc_is_row pm_is_row cd_is_row ct_is_row : Value} {f_need_row : Addr} {od_need_row an_need_row : Option Addr} {sl_need_row : Array (Option Value)} {oc_need_row kV_need_row dc_need_row pm_need_row cd_need_row ct_need_row : Value} {f_number_text : Addr} {od_number_text an_number_text : Option Addr} {sl_number_text : Array (Option Value)} {oc_number_text kV_number_text dc_number_text pm_number_text cd_number_text ct_number_text : Value} {f_row_text : Addr} {od_row_text an_row_text : Option Addr} {sl_row_text : Array (Option Value)} {oc_row_text kV_row_text dc_row_text pm_row_text cd_row_text ct_row_text : Value} {f_number_in : Addr} {od_number_in an_number_in : Option Addr} {sl_number_in : Array (Option Value)} {oc_number_in kV_number_in dc_number_in pm_number_in cd_number_in ct_number_in : Value} {f_read_row : Addr} {od_read_row an_read_row : Option Addr} {sl_read_row : Array (Option Value)} {oc_read_row kV_read_row dc_read_row pm_read_row cd_read_row ct_read_row : Value} {f__law_figures : Addr} {od__law_figures an__law_figures : Option Addr} {sl__law_figures : Array (Option Value)} {oc__law_figures kV__law_figures dc__law_figures pm__law_figures cd__law_figures ct__law_figures : Value} {f__law_same : Addr} {od__law_same an__law_same : Option Addr} {sl__law_same : Array (Option Value)} {oc__law_same kV__law_same dc__law_same pm__law_same cd__law_same ct__law_same : Value} {f__law_row_right : Addr} {od__law_row_right an__law_row_right : Option Addr} {sl__law_row_right : Array (Option Value)} {oc__law_row_right kV__law_row_right dc__law_row_right pm__law_row_right cd__law_row_right ct__law_row_right : Value} {f__law_holds_written : Addr} {od__law_holds_written an__law_holds_written : Option Addr} {sl__law_holds_written : Array (Option Value)} {oc__law_holds_written kV__law_holds_written dc__law_holds_written pm__law_holds_written cd__law_holds_written ct__law_holds_written : Value} {f__law_holds_right : Addr} {od__law_holds_right an__law_holds_right : Option Addr} {sl__law_holds_right : Array (Option Value)} {oc__law_holds_right kV__law_holds_right dc__law_holds_right pm__law_holds_right cd__law_holds_right ct__law_holds_right : Value} {f__law_row : Addr} {od__law_row an__law_row : Option Addr} {sl__law_row : Array (Option Value)} {oc__law_row kV__law_row dc__law_row pm__law_row cd__law_row ct__law_row : Value} {f_law : Addr} {od_law an_law : Option Addr} {sl_law : Array (Option Value)} {oc_law kV_law dc_law pm_law cd_law ct_law : Value}
    (z_abs : PySem.W.nsIn K mainGlobals "abs" = some none)
    (z_bool : PySem.W.nsIn K mainGlobals "bool" = some none)
    (z_enumerate : PySem.W.nsIn K mainGlobals "enumerate" = some none)
    (z_int : PySem.W.nsIn K mainGlobals "int" = some none)
    (z_isinstance : PySem.W.nsIn K mainGlobals "isinstance" = some none)
    (z_len : PySem.W.nsIn K mainGlobals "len" = some none)
    (z_list : PySem.W.nsIn K mainGlobals "list" = some none)
    (z_range : PySem.W.nsIn K mainGlobals "range" = some none)
    (z_str : PySem.W.nsIn K mainGlobals "str" = some none)
    (z_tuple : PySem.W.nsIn K mainGlobals "tuple" = some none)
    (g_MOST_NUMBERS_ways : PySem.W.nsIn K mainGlobals "MOST_NUMBERS_ways" = some (some (.int 9 t_MOST_NUMBERS_ways)))
    (g_MOST_STRETCHES : PySem.W.nsIn K mainGlobals "MOST_STRETCHES" = some (some (.int 40 t_MOST_STRETCHES)))
    (g_MOST_NUMBERS_held : PySem.W.nsIn K mainGlobals "MOST_NUMBERS_held" = some (some (.int 9 t_MOST_NUMBERS_held)))
    (g_FIGURES : PySem.W.nsIn K mainGlobals "FIGURES" = some (some (.str (Str.ofString "0123456789") t_FIGURES)))
    (g_MOST_NUMBERS_texts : PySem.W.nsIn K mainGlobals "MOST_NUMBERS_texts" = some (some (.int 9 t_MOST_NUMBERS_texts)))
    (x1_NoRow : PySem.W.nsIn K mainGlobals "NoRow" = some (some (.ref C_NoRow)))
    (x2_NoRow : PySem.W.excIn K C_NoRow [.type "ValueError", .type "Exception", .type "BaseException", .type "object"] "ValueError.__new__" = true)
    (x3_NoRow : PySem.W.keepIn K (.ref C_NoRow) = true)
    (x4_NoRow : PySem.W.subIn K (.ref C_NoRow) (.type "BaseException") = some true)
    (x5_NoRow : PySem.W.typeIn K (.ref C_NoRow) = some (.type "type"))
    (x1_NoHolds : PySem.W.nsIn K mainGlobals "NoHolds" = some (some (.ref C_NoHolds)))
    (x2_NoHolds : PySem.W.excIn K C_NoHolds [.type "ValueError", .type "Exception", .type "BaseException", .type "object"] "ValueError.__new__" = true)
    (x3_NoHolds : PySem.W.keepIn K (.ref C_NoHolds) = true)
    (x4_NoHolds : PySem.W.subIn K (.ref C_NoHolds) (.type "BaseException") = some true)
    (x5_NoHolds : PySem.W.typeIn K (.ref C_NoHolds) = some (.type "type"))
    (x1_NoText : PySem.W.nsIn K mainGlobals "NoText" = some (some (.ref C_NoText)))
    (x2_NoText : PySem.W.excIn K C_NoText [.type "ValueError", .type "Exception", .type "BaseException", .type "object"] "ValueError.__new__" = true)
    (x3_NoText : PySem.W.keepIn K (.ref C_NoText) = true)
    (x4_NoText : PySem.W.subIn K (.ref C_NoText) (.type "BaseException") = some true)
    (x5_NoText : PySem.W.typeIn K (.ref C_NoText) = some (.type "type"))
    (a__law_well : PySem.W.nsIn K mainGlobals "_law_well" = some (some (.ref f__law_well)))
    (l__law_well : K.lookup f__law_well = some ⟨oc__law_well, od__law_well, .func (PySem.W.fnOf "_law_well" "_law_well" (defArgs (top 27)) (defBody (top 27)) (defScope (top 27)) .none kV__law_well dc__law_well pm__law_well an__law_well cd__law_well ct__law_well), sl__law_well⟩)
    (c__law_well : PySem.W.codeIn K cd__law_well "_law_well" = true)
    (k__law_well : PySem.W.keepIn K (.ref f__law_well) = true)
    (a__law_draw : PySem.W.nsIn K mainGlobals "_law_draw" = some (some (.ref f__law_draw)))
    (l__law_draw : K.lookup f__law_draw = some ⟨oc__law_draw, od__law_draw, .func (PySem.W.fnOf "_law_draw" "_law_draw" (defArgs (top 28)) (defBody (top 28)) (defScope (top 28)) .none kV__law_draw dc__law_draw pm__law_draw an__law_draw cd__law_draw ct__law_draw), sl__law_draw⟩)
    (c__law_draw : PySem.W.codeIn K cd__law_draw "_law_draw" = true)
    (k__law_draw : PySem.W.keepIn K (.ref f__law_draw) = true)
    (a__law_stretch : PySem.W.nsIn K mainGlobals "_law_stretch" = some (some (.ref f__law_stretch)))
    (l__law_stretch : K.lookup f__law_stretch = some ⟨oc__law_stretch, od__law_stretch, .func (PySem.W.fnOf "_law_stretch" "_law_stretch" (defArgs (top 31)) (defBody (top 31)) (defScope (top 31)) .none kV__law_stretch dc__law_stretch pm__law_stretch an__law_stretch cd__law_stretch ct__law_stretch), sl__law_stretch⟩)
    (c__law_stretch : PySem.W.codeIn K cd__law_stretch "_law_stretch" = true)
    (k__law_stretch : PySem.W.keepIn K (.ref f__law_stretch) = true)
    (a__law_holds : PySem.W.nsIn K mainGlobals "_law_holds" = some (some (.ref f__law_holds)))
    (l__law_holds : K.lookup f__law_holds = some ⟨oc__law_holds, od__law_holds, .func (PySem.W.fnOf "_law_holds" "_law_holds" (defArgs (top 32)) (defBody (top 32)) (defScope (top 32)) .none kV__law_holds dc__law_holds pm__law_holds an__law_holds cd__law_holds ct__law_holds), sl__law_holds⟩)
    (c__law_holds : PySem.W.codeIn K cd__law_holds "_law_holds" = true)
    (k__law_holds : PySem.W.keepIn K (.ref f__law_holds) = true)
    (a_is_whole : PySem.W.nsIn K mainGlobals "is_whole" = some (some (.ref f_is_whole)))
    (l_is_whole : K.lookup f_is_whole = some ⟨oc_is_whole, od_is_whole, .func (PySem.W.fnOf "is_whole" "is_whole" (defArgs (top 7)) (defBody (top 7)) (defScope (top 7)) .none kV_is_whole dc_is_whole pm_is_whole an_is_whole cd_is_whole ct_is_whole), sl_is_whole⟩)
    (c_is_whole : PySem.W.codeIn K cd_is_whole "is_whole" = true)
    (k_is_whole : PySem.W.keepIn K (.ref f_is_whole) = true)
    (a_is_stretch : PySem.W.nsIn K mainGlobals "is_stretch" = some (some (.ref f_is_stretch)))
    (l_is_stretch : K.lookup f_is_stretch = some ⟨oc_is_stretch, od_is_stretch, .func (PySem.W.fnOf "is_stretch" "is_stretch" (defArgs (top 13)) (defBody (top 13)) (defScope (top 13)) .none kV_is_stretch dc_is_stretch pm_is_stretch an_is_stretch cd_is_stretch ct_is_stretch), sl_is_stretch⟩)
    (c_is_stretch : PySem.W.codeIn K cd_is_stretch "is_stretch" = true)
    (k_is_stretch : PySem.W.keepIn K (.ref f_is_stretch) = true)
    (a_is_holds : PySem.W.nsIn K mainGlobals "is_holds" = some (some (.ref f_is_holds)))
    (l_is_holds : K.lookup f_is_holds = some ⟨oc_is_holds, od_is_holds, .func (PySem.W.fnOf "is_holds" "is_holds" (defArgs (top 14)) (defBody (top 14)) (defScope (top 14)) .none kV_is_holds dc_is_holds pm_is_holds an_is_holds cd_is_holds ct_is_holds), sl_is_holds⟩)
    (c_is_holds : PySem.W.codeIn K cd_is_holds "is_holds" = true)
    (k_is_holds : PySem.W.keepIn K (.ref f_is_holds) = true)
    (a_holds_text : PySem.W.nsIn K mainGlobals "holds_text" = some (some (.ref f_holds_text)))
    (l_holds_text : K.lookup f_holds_text = some ⟨oc_holds_text, od_holds_text, .func (PySem.W.fnOf "holds_text" "holds_text" (defArgs (top 20)) (defBody (top 20)) (defScope (top 20)) .none kV_holds_text dc_holds_text pm_holds_text an_holds_text cd_holds_text ct_holds_text), sl_holds_text⟩)
    (c_holds_text : PySem.W.codeIn K cd_holds_text "holds_text" = true)
    (k_holds_text : PySem.W.keepIn K (.ref f_holds_text) = true)
    (a_need_text : PySem.W.nsIn K mainGlobals "need_text" = some (some (.ref f_need_text)))
    (l_need_text : K.lookup f_need_text = some ⟨oc_need_text, od_need_text, .func (PySem.W.fnOf "need_text" "need_text" (defArgs (top 22)) (defBody (top 22)) (defScope (top 22)) .none kV_need_text dc_need_text pm_need_text an_need_text cd_need_text ct_need_text), sl_need_text⟩)
    (c_need_text : PySem.W.codeIn K cd_need_text "need_text" = true)
    (k_need_text : PySem.W.keepIn K (.ref f_need_text) = true)
    (a_stretch_in : PySem.W.nsIn K mainGlobals "stretch_in" = some (some (.ref f_stretch_in)))
    (l_stretch_in : K.lookup f_stretch_in = some ⟨oc_stretch_in, od_stretch_in, .func (PySem.W.fnOf "stretch_in" "stretch_in" (defArgs (top 24)) (defBody (top 24)) (defScope (top 24)) .none kV_stretch_in dc_stretch_in pm_stretch_in an_stretch_in cd_stretch_in ct_stretch_in), sl_stretch_in⟩)
    (c_stretch_in : PySem.W.codeIn K cd_stretch_in "stretch_in" = true)
    (k_stretch_in : PySem.W.keepIn K (.ref f_stretch_in) = true)
    (a_read_holds : PySem.W.nsIn K mainGlobals "read_holds" = some (some (.ref f_read_holds)))
    (l_read_holds : K.lookup f_read_holds = some ⟨oc_read_holds, od_read_holds, .func (PySem.W.fnOf "read_holds" "read_holds" (defArgs (top 25)) (defBody (top 25)) (defScope (top 25)) .none kV_read_holds dc_read_holds pm_read_holds an_read_holds cd_read_holds ct_read_holds), sl_read_holds⟩)
    (c_read_holds : PySem.W.codeIn K cd_read_holds "read_holds" = true)
    (k_read_holds : PySem.W.keepIn K (.ref f_read_holds) = true)
    (a_is_row : PySem.W.nsIn K mainGlobals "is_row" = some (some (.ref f_is_row)))
    (l_is_row : K.lookup f_is_row = some ⟨oc_is_row, od_is_row, .func (PySem.W.fnOf "is_row" "is_row" (defArgs (top 8)) (defBody (top 8)) (defScope (top 8)) .none kV_is_row dc_is_row pm_is_row an_is_row cd_is_row ct_is_row), sl_is_row⟩)
    (c_is_row : PySem.W.codeIn K cd_is_row "is_row" = true)
    (k_is_row : PySem.W.keepIn K (.ref f_is_row) = true)
    (a_need_row : PySem.W.nsIn K mainGlobals "need_row" = some (some (.ref f_need_row)))
    (l_need_row : K.lookup f_need_row = some ⟨oc_need_row, od_need_row, .func (PySem.W.fnOf "need_row" "need_row" (defArgs (top 9)) (defBody (top 9)) (defScope (top 9)) .none kV_need_row dc_need_row pm_need_row an_need_row cd_need_row ct_need_row), sl_need_row⟩)
    (c_need_row : PySem.W.codeIn K cd_need_row "need_row" = true)
    (k_need_row : PySem.W.keepIn K (.ref f_need_row) = true)
    (a_number_text : PySem.W.nsIn K mainGlobals "number_text" = some (some (.ref f_number_text)))
    (l_number_text : K.lookup f_number_text = some ⟨oc_number_text, od_number_text, .func (PySem.W.fnOf "number_text" "number_text" (defArgs (top 18)) (defBody (top 18)) (defScope (top 18)) .none kV_number_text dc_number_text pm_number_text an_number_text cd_number_text ct_number_text), sl_number_text⟩)
    (c_number_text : PySem.W.codeIn K cd_number_text "number_text" = true)
    (k_number_text : PySem.W.keepIn K (.ref f_number_text) = true)
    (a_row_text : PySem.W.nsIn K mainGlobals "row_text" = some (some (.ref f_row_text)))
    (l_row_text : K.lookup f_row_text = some ⟨oc_row_text, od_row_text, .func (PySem.W.fnOf "row_text" "row_text" (defArgs (top 19)) (defBody (top 19)) (defScope (top 19)) .none kV_row_text dc_row_text pm_row_text an_row_text cd_row_text ct_row_text), sl_row_text⟩)
    (c_row_text : PySem.W.codeIn K cd_row_text "row_text" = true)
    (k_row_text : PySem.W.keepIn K (.ref f_row_text) = true)
    (a_number_in : PySem.W.nsIn K mainGlobals "number_in" = some (some (.ref f_number_in)))
    (l_number_in : K.lookup f_number_in = some ⟨oc_number_in, od_number_in, .func (PySem.W.fnOf "number_in" "number_in" (defArgs (top 21)) (defBody (top 21)) (defScope (top 21)) .none kV_number_in dc_number_in pm_number_in an_number_in cd_number_in ct_number_in), sl_number_in⟩)
    (c_number_in : PySem.W.codeIn K cd_number_in "number_in" = true)
    (k_number_in : PySem.W.keepIn K (.ref f_number_in) = true)
    (a_read_row : PySem.W.nsIn K mainGlobals "read_row" = some (some (.ref f_read_row)))
    (l_read_row : K.lookup f_read_row = some ⟨oc_read_row, od_read_row, .func (PySem.W.fnOf "read_row" "read_row" (defArgs (top 23)) (defBody (top 23)) (defScope (top 23)) .none kV_read_row dc_read_row pm_read_row an_read_row cd_read_row ct_read_row), sl_read_row⟩)
    (c_read_row : PySem.W.codeIn K cd_read_row "read_row" = true)
    (k_read_row : PySem.W.keepIn K (.ref f_read_row) = true)
    (a__law_figures : PySem.W.nsIn K mainGlobals "_law_figures" = some (some (.ref f__law_figures)))
    (l__law_figures : K.lookup f__law_figures = some ⟨oc__law_figures, od__law_figures, .func (PySem.W.fnOf "_law_figures" "_law_figures" (defArgs (top 33)) (defBody (top 33)) (defScope (top 33)) .none kV__law_figures dc__law_figures pm__law_figures an__law_figures cd__law_figures ct__law_figures), sl__law_figures⟩)
    (c__law_figures : PySem.W.codeIn K cd__law_figures "_law_figures" = true)
    (k__law_figures : PySem.W.keepIn K (.ref f__law_figures) = true)
    (a__law_same : PySem.W.nsIn K mainGlobals "_law_same" = some (some (.ref f__law_same)))
    (l__law_same : K.lookup f__law_same = some ⟨oc__law_same, od__law_same, .func (PySem.W.fnOf "_law_same" "_law_same" (defArgs (top 35)) (defBody (top 35)) (defScope (top 35)) .none kV__law_same dc__law_same pm__law_same an__law_same cd__law_same ct__law_same), sl__law_same⟩)
    (c__law_same : PySem.W.codeIn K cd__law_same "_law_same" = true)
    (k__law_same : PySem.W.keepIn K (.ref f__law_same) = true)
    (a__law_row_right : PySem.W.nsIn K mainGlobals "_law_row_right" = some (some (.ref f__law_row_right)))
    (l__law_row_right : K.lookup f__law_row_right = some ⟨oc__law_row_right, od__law_row_right, .func (PySem.W.fnOf "_law_row_right" "_law_row_right" (defArgs (top 36)) (defBody (top 36)) (defScope (top 36)) .none kV__law_row_right dc__law_row_right pm__law_row_right an__law_row_right cd__law_row_right ct__law_row_right), sl__law_row_right⟩)
    (c__law_row_right : PySem.W.codeIn K cd__law_row_right "_law_row_right" = true)
    (k__law_row_right : PySem.W.keepIn K (.ref f__law_row_right) = true)
    (a__law_holds_written : PySem.W.nsIn K mainGlobals "_law_holds_written" = some (some (.ref f__law_holds_written)))
    (l__law_holds_written : K.lookup f__law_holds_written = some ⟨oc__law_holds_written, od__law_holds_written, .func (PySem.W.fnOf "_law_holds_written" "_law_holds_written" (defArgs (top 34)) (defBody (top 34)) (defScope (top 34)) .none kV__law_holds_written dc__law_holds_written pm__law_holds_written an__law_holds_written cd__law_holds_written ct__law_holds_written), sl__law_holds_written⟩)
    (c__law_holds_written : PySem.W.codeIn K cd__law_holds_written "_law_holds_written" = true)
    (k__law_holds_written : PySem.W.keepIn K (.ref f__law_holds_written) = true)
    (a__law_holds_right : PySem.W.nsIn K mainGlobals "_law_holds_right" = some (some (.ref f__law_holds_right)))
    (l__law_holds_right : K.lookup f__law_holds_right = some ⟨oc__law_holds_right, od__law_holds_right, .func (PySem.W.fnOf "_law_holds_right" "_law_holds_right" (defArgs (top 37)) (defBody (top 37)) (defScope (top 37)) .none kV__law_holds_right dc__law_holds_right pm__law_holds_right an__law_holds_right cd__law_holds_right ct__law_holds_right), sl__law_holds_right⟩)
    (c__law_holds_right : PySem.W.codeIn K cd__law_holds_right "_law_holds_right" = true)
    (k__law_holds_right : PySem.W.keepIn K (.ref f__law_holds_right) = true)
    (a__law_row : PySem.W.nsIn K mainGlobals "_law_row" = some (some (.ref f__law_row)))
    (l__law_row : K.lookup f__law_row = some ⟨oc__law_row, od__law_row, .func (PySem.W.fnOf "_law_row" "_law_row" (defArgs (top 29)) (defBody (top 29)) (defScope (top 29)) .none kV__law_row dc__law_row pm__law_row an__law_row cd__law_row ct__law_row), sl__law_row⟩)
    (c__law_row : PySem.W.codeIn K cd__law_row "_law_row" = true)
    (k__law_row : PySem.W.keepIn K (.ref f__law_row) = true)
    (a_law : PySem.W.nsIn K mainGlobals "law" = some (some (.ref f_law)))
    (l_law : K.lookup f_law = some ⟨oc_law, od_law, .func (PySem.W.fnOf "law" "law" (defArgs (top 38)) (defBody (top 38)) (defScope (top 38)) .none kV_law dc_law pm_law an_law cd_law ct_law), sl_law⟩)
    (c_law : PySem.W.codeIn K cd_law "law" = true)
    (k_law : PySem.W.keepIn K (.ref f_law) = true) : Gx K mg where
  z_abs := PySem.W.mg_none_of X Gm z_abs
  z_bool := PySem.W.mg_none_of X Gm z_bool
  z_enumerate := PySem.W.mg_none_of X Gm z_enumerate
  z_int := PySem.W.mg_none_of X Gm z_int
  z_isinstance := PySem.W.mg_none_of X Gm z_isinstance
  z_len := PySem.W.mg_none_of X Gm z_len
  z_list := PySem.W.mg_none_of X Gm z_list
  z_range := PySem.W.mg_none_of X Gm z_range
  z_str := PySem.W.mg_none_of X Gm z_str
  z_tuple := PySem.W.mg_none_of X Gm z_tuple
  g_MOST_NUMBERS_ways := ⟨_, PySem.W.mg_of X Gm g_MOST_NUMBERS_ways, _, rfl⟩
  g_MOST_STRETCHES := ⟨_, PySem.W.mg_of X Gm g_MOST_STRETCHES, _, rfl⟩
  g_MOST_NUMBERS_held := ⟨_, PySem.W.mg_of X Gm g_MOST_NUMBERS_held, _, rfl⟩
  g_FIGURES := ⟨_, PySem.W.mg_of X Gm g_FIGURES, _, rfl⟩
  g_MOST_NUMBERS_texts := ⟨_, PySem.W.mg_of X Gm g_MOST_NUMBERS_texts, _, rfl⟩
  e_NoRow := ⟨C_NoRow, PySem.W.mg_of X Gm x1_NoRow, x2_NoRow, x3_NoRow, x4_NoRow, x5_NoRow⟩
  e_NoHolds := ⟨C_NoHolds, PySem.W.mg_of X Gm x1_NoHolds, x2_NoHolds, x3_NoHolds, x4_NoHolds, x5_NoHolds⟩
  e_NoText := ⟨C_NoText, PySem.W.mg_of X Gm x1_NoText, x2_NoText, x3_NoText, x4_NoText, x5_NoText⟩
  d__law_well := ⟨f__law_well, _, fun_mk (st := top 27) l__law_well c__law_well k__law_well, PySem.W.mg_of X Gm a__law_well, (fun_mk (st := top 27) l__law_well c__law_well k__law_well).binds (ps := ["cell"]) fun _ _ _ _ _ _ us hl => match us, hl with | [_], _ => rfl⟩
  d__law_draw := ⟨f__law_draw, _, fun_mk (st := top 28) l__law_draw c__law_draw k__law_draw, PySem.W.mg_of X Gm a__law_draw, (fun_mk (st := top 28) l__law_draw c__law_draw k__law_draw).binds (ps := ["well", "many"]) fun _ _ _ _ _ _ us hl => match us, hl with | [_, _], _ => rfl⟩
  d__law_stretch := ⟨f__law_stretch, _, fun_mk (st := top 31) l__law_stretch c__law_stretch k__law_stretch, PySem.W.mg_of X Gm a__law_stretch, (fun_mk (st := top 31) l__law_stretch c__law_stretch k__law_stretch).binds (ps := ["well", "many"]) fun _ _ _ _ _ _ us hl => match us, hl with | [_, _], _ => rfl⟩
  d__law_holds := ⟨f__law_holds, _, fun_mk (st := top 32) l__law_holds c__law_holds k__law_holds, PySem.W.mg_of X Gm a__law_holds, (fun_mk (st := top 32) l__law_holds c__law_holds k__law_holds).binds (ps := ["well", "many"]) fun _ _ _ _ _ _ us hl => match us, hl with | [_, _], _ => rfl⟩
  d_is_whole := ⟨f_is_whole, _, fun_mk (st := top 7) l_is_whole c_is_whole k_is_whole, PySem.W.mg_of X Gm a_is_whole, (fun_mk (st := top 7) l_is_whole c_is_whole k_is_whole).binds (ps := ["thing"]) fun _ _ _ _ _ _ us hl => match us, hl with | [_], _ => rfl⟩
  d_is_stretch := ⟨f_is_stretch, _, fun_mk (st := top 13) l_is_stretch c_is_stretch k_is_stretch, PySem.W.mg_of X Gm a_is_stretch, (fun_mk (st := top 13) l_is_stretch c_is_stretch k_is_stretch).binds (ps := ["thing", "many"]) fun _ _ _ _ _ _ us hl => match us, hl with | [_, _], _ => rfl⟩
  d_is_holds := ⟨f_is_holds, _, fun_mk (st := top 14) l_is_holds c_is_holds k_is_holds, PySem.W.mg_of X Gm a_is_holds, (fun_mk (st := top 14) l_is_holds c_is_holds k_is_holds).binds (ps := ["thing", "many"]) fun _ _ _ _ _ _ us hl => match us, hl with | [_, _], _ => rfl⟩
  d_holds_text := ⟨f_holds_text, _, fun_mk (st := top 20) l_holds_text c_holds_text k_holds_text, PySem.W.mg_of X Gm a_holds_text, (fun_mk (st := top 20) l_holds_text c_holds_text k_holds_text).binds (ps := ["holds"]) fun _ _ _ _ _ _ us hl => match us, hl with | [_], _ => rfl⟩
  d_need_text := ⟨f_need_text, _, fun_mk (st := top 22) l_need_text c_need_text k_need_text, PySem.W.mg_of X Gm a_need_text, (fun_mk (st := top 22) l_need_text c_need_text k_need_text).binds (ps := ["thing"]) fun _ _ _ _ _ _ us hl => match us, hl with | [_], _ => rfl⟩
  d_stretch_in := ⟨f_stretch_in, _, fun_mk (st := top 24) l_stretch_in c_stretch_in k_stretch_in, PySem.W.mg_of X Gm a_stretch_in, (fun_mk (st := top 24) l_stretch_in c_stretch_in k_stretch_in).binds (ps := ["word"]) fun _ _ _ _ _ _ us hl => match us, hl with | [_], _ => rfl⟩
  d_read_holds := ⟨f_read_holds, _, fun_mk (st := top 25) l_read_holds c_read_holds k_read_holds, PySem.W.mg_of X Gm a_read_holds, (fun_mk (st := top 25) l_read_holds c_read_holds k_read_holds).binds (ps := ["text"]) fun _ _ _ _ _ _ us hl => match us, hl with | [_], _ => rfl⟩
  d_is_row := ⟨f_is_row, _, fun_mk (st := top 8) l_is_row c_is_row k_is_row, PySem.W.mg_of X Gm a_is_row, (fun_mk (st := top 8) l_is_row c_is_row k_is_row).binds (ps := ["thing"]) fun _ _ _ _ _ _ us hl => match us, hl with | [_], _ => rfl⟩
  d_need_row := ⟨f_need_row, _, fun_mk (st := top 9) l_need_row c_need_row k_need_row, PySem.W.mg_of X Gm a_need_row, (fun_mk (st := top 9) l_need_row c_need_row k_need_row).binds (ps := ["thing"]) fun _ _ _ _ _ _ us hl => match us, hl with | [_], _ => rfl⟩
  d_number_text := ⟨f_number_text, _, fun_mk (st := top 18) l_number_text c_number_text k_number_text, PySem.W.mg_of X Gm a_number_text, (fun_mk (st := top 18) l_number_text c_number_text k_number_text).binds (ps := ["number"]) fun _ _ _ _ _ _ us hl => match us, hl with | [_], _ => rfl⟩
  d_row_text := ⟨f_row_text, _, fun_mk (st := top 19) l_row_text c_row_text k_row_text, PySem.W.mg_of X Gm a_row_text, (fun_mk (st := top 19) l_row_text c_row_text k_row_text).binds (ps := ["row"]) fun _ _ _ _ _ _ us hl => match us, hl with | [_], _ => rfl⟩
  d_number_in := ⟨f_number_in, _, fun_mk (st := top 21) l_number_in c_number_in k_number_in, PySem.W.mg_of X Gm a_number_in, (fun_mk (st := top 21) l_number_in c_number_in k_number_in).binds (ps := ["word"]) fun _ _ _ _ _ _ us hl => match us, hl with | [_], _ => rfl⟩
  d_read_row := ⟨f_read_row, _, fun_mk (st := top 23) l_read_row c_read_row k_read_row, PySem.W.mg_of X Gm a_read_row, (fun_mk (st := top 23) l_read_row c_read_row k_read_row).binds (ps := ["text"]) fun _ _ _ _ _ _ us hl => match us, hl with | [_], _ => rfl⟩
  d__law_figures := ⟨f__law_figures, _, fun_mk (st := top 33) l__law_figures c__law_figures k__law_figures, PySem.W.mg_of X Gm a__law_figures, (fun_mk (st := top 33) l__law_figures c__law_figures k__law_figures).binds (ps := ["number"]) fun _ _ _ _ _ _ us hl => match us, hl with | [_], _ => rfl⟩
  d__law_same := ⟨f__law_same, _, fun_mk (st := top 35) l__law_same c__law_same k__law_same, PySem.W.mg_of X Gm a__law_same, (fun_mk (st := top 35) l__law_same c__law_same k__law_same).binds (ps := ["found", "due"]) fun _ _ _ _ _ _ us hl => match us, hl with | [_, _], _ => rfl⟩
  d__law_row_right := ⟨f__law_row_right, _, fun_mk (st := top 36) l__law_row_right c__law_row_right k__law_row_right, PySem.W.mg_of X Gm a__law_row_right, (fun_mk (st := top 36) l__law_row_right c__law_row_right k__law_row_right).binds (ps := ["row"]) fun _ _ _ _ _ _ us hl => match us, hl with | [_], _ => rfl⟩
  d__law_holds_written := ⟨f__law_holds_written, _, fun_mk (st := top 34) l__law_holds_written c__law_holds_written k__law_holds_written, PySem.W.mg_of X Gm a__law_holds_written, (fun_mk (st := top 34) l__law_holds_written c__law_holds_written k__law_holds_written).binds (ps := ["holds"]) fun _ _ _ _ _ _ us hl => match us, hl with | [_], _ => rfl⟩
  d__law_holds_right := ⟨f__law_holds_right, _, fun_mk (st := top 37) l__law_holds_right c__law_holds_right k__law_holds_right, PySem.W.mg_of X Gm a__law_holds_right, (fun_mk (st := top 37) l__law_holds_right c__law_holds_right k__law_holds_right).binds (ps := ["holds"]) fun _ _ _ _ _ _ us hl => match us, hl with | [_], _ => rfl⟩
  d__law_row := ⟨f__law_row, _, fun_mk (st := top 29) l__law_row c__law_row k__law_row, PySem.W.mg_of X Gm a__law_row, (fun_mk (st := top 29) l__law_row c__law_row k__law_row).binds (ps := ["well", "many"]) fun _ _ _ _ _ _ us hl => match us, hl with | [_, _], _ => rfl⟩
  d_law := ⟨f_law, _, fun_mk (st := top 38) l_law c_law k_law, PySem.W.mg_of X Gm a_law, (fun_mk (st := top 38) l_law c_law k_law).binds (ps := ["script"]) fun _ _ _ _ _ _ us hl => match us, hl with | [_], _ => rfl⟩
theorem all_mk {P : Program} {w : World} {K : PySem.W.Frag} {h : Heap} {mg : Str → Option Value} {fa : Addr} (hpl : ∀ l : List Int, l.length ≤ 63 → ∃ δ, f_law [.sh (.rol (l.map D.int))] = .ok (.sh (.bl true)) δ) (X : K.In h) (Gm : h.Ns mainGlobals mg) (hfa : mg "law" = some (.ref fa))
    {t_MOST_NUMBERS_ways : Tok} {t_MOST_STRETCHES : Tok} {t_MOST_NUMBERS_held : Tok} {t_FIGURES : Tok} {t_MOST_NUMBERS_texts : Tok} {C_NoRow : Addr} {C_NoHolds : Addr} {C_NoText : Addr} {f__law_well : Addr} {od__law_well an__law_well : Option Addr} {sl__law_well : Array (Option Value)} {oc__law_well kV__law_well dc__law_well pm__law_well cd__law_well ct__law_well : Value} {f__law_draw : Addr} {od__law_draw an__law_draw : Option Addr} {sl__law_draw : Array (Option Value)} {oc__law_draw kV__law_draw dc__law_draw pm__law_draw cd__law_draw ct__law_draw : Value} {f__law_stretch : Addr} {od__law_stretch an__law_stretch : Option Addr} {sl__law_stretch : Array (Option Value)} {oc__law_stretch kV__law_stretch dc__law_stretch pm__law_stretch cd__law_stretch ct__law_stretch : Value} {f__law_holds : Addr} {od__law_holds an__law_holds : Option Addr} {sl__law_holds : Array (Option Value)} {oc__law_holds kV__law_holds dc__law_holds pm__law_holds cd__law_holds ct__law_holds : Value} {f_is_whole : Addr} {od_is_whole an_is_whole : Option Addr} {sl_is_whole : Array (Option Value)} {oc_is_whole kV_is_whole dc_is_whole pm_is_whole cd_is_whole ct_is_whole : Value} {f_is_stretch : Addr} {od_is_stretch an_is_stretch : Option Addr} {sl_is_stretch : Array (Option Value)} {oc_is_stretch kV_is_stretch dc_is_stretch pm_is_stretch cd_is_stretch ct_is_stretch : Value} {f_is_holds : Addr} {od_is_holds an_is_holds : Option Addr} {sl_is_holds : Array (Option Value)} {oc_is_holds kV_is_holds dc_is_holds pm_is_holds cd_is_holds ct_is_holds : Value} {f_holds_text : Addr} {od_holds_text an_holds_text : Option Addr} {sl_holds_text : Array (Option Value)} {oc_holds_text kV_holds_text dc_holds_text pm_holds_text cd_holds_text ct_holds_text : Value} {f_need_text : Addr} {od_need_text an_need_text : Option Addr} {sl_need_text : Array (Option Value)} {oc_need_text kV_need_text dc_need_text pm_need_text cd_need_text ct_need_text : Value} {f_stretch_in : Addr} {od_stretch_in an_stretch_in : Option Addr} {sl_stretch_in : Array (Option Value)} {oc_stretch_in kV_stretch_in dc_stretch_in pm_stretch_in cd_stretch_in ct_stretch_in : Value} {f_read_holds : Addr} {od_read_holds an_read_holds : Option Addr} {sl_read_holds : Array (Option Value)} {oc_read_holds kV_read_holds dc_read_holds pm_read_holds cd_read_holds ct_read_holds : Value} {f_is_row : Addr} {od_is_row an_is_row : Option Addr} {sl_is_row : Array (Option Value)} {oc_is_row kV_is_row dc_is_row pm_is_row cd_is_row ct_is_row : Value} {f_need_row : Addr} {od_need_row an_need_row : Option Addr} {sl_need_row : Array (Option Value)} {oc_need_row kV_need_row dc_need_row pm_need_row cd_need_row ct_need_row : Value} {f_number_text : Addr} {od_number_text an_number_text : Option Addr} {sl_number_text : Array (Option Value)} {oc_number_text kV_number_text dc_number_text pm_number_text cd_number_text ct_number_text : Value} {f_row_text : Addr} {od_row_text an_row_text : Option Addr} {sl_row_text : Array (Option Value)} {oc_row_text kV_row_text dc_row_text pm_row_text cd_row_text ct_row_text : Value} {f_number_in : Addr} {od_number_in an_number_in : Option Addr} {sl_number_in : Array (Option Value)} {oc_number_in kV_number_in dc_number_in pm_number_in cd_number_in ct_number_in : Value} {f_read_row : Addr} {od_read_row an_read_row : Option Addr} {sl_read_row : Array (Option Value)} {oc_read_row kV_read_row dc_read_row pm_read_row cd_read_row ct_read_row : Value} {f__law_figures : Addr} {od__law_figures an__law_figures : Option Addr} {sl__law_figures : Array (Option Value)} {oc__law_figures kV__law_figures dc__law_figures pm__law_figures cd__law_figures ct__law_figures : Value} {f__law_same : Addr} {od__law_same an__law_same : Option Addr} {sl__law_same : Array (Option Value)} {oc__law_same kV__law_same dc__law_same pm__law_same cd__law_same ct__law_same : Value} {f__law_row_right : Addr} {od__law_row_right an__law_row_right : Option Addr} {sl__law_row_right : Array (Option Value)} {oc__law_row_right kV__law_row_right dc__law_row_right pm__law_row_right cd__law_row_right ct__law_row_right : Value} {f__law_holds_written : Addr} {od__law_holds_written an__law_holds_written : Option Addr} {sl__law_holds_written : Array (Option Value)} {oc__law_holds_written kV__law_holds_written dc__law_holds_written pm__law_holds_written cd__law_holds_written ct__law_holds_written : Value} {f__law_holds_right : Addr} {od__law_holds_right an__law_holds_right : Option Addr} {sl__law_holds_right : Array (Option Value)} {oc__law_holds_right kV__law_holds_right dc__law_holds_right pm__law_holds_right cd__law_holds_right ct__law_holds_right : Value} {f__law_row : Addr} {od__law_row an__law_row : Option Addr} {sl__law_row : Array (Option Value)} {oc__law_row kV__law_row dc__law_row pm__law_row cd__law_row ct__law_row : Value} {f_law : Addr} {od_law an_law : Option Addr} {sl_law : Array (Option Value)} {oc_law kV_law dc_law pm_law cd_law ct_law : Value}
    (z_abs : PySem.W.nsIn K mainGlobals "abs" = some none)
    (z_bool : PySem.W.nsIn K mainGlobals "bool" = some none)
    (z_enumerate : PySem.W.nsIn K mainGlobals "enumerate" = some none)
    (z_int : PySem.W.nsIn K mainGlobals "int" = some none)
    (z_isinstance : PySem.W.nsIn K mainGlobals "isinstance" = some none)
    (z_len : PySem.W.nsIn K mainGlobals "len" = some none)
    (z_list : PySem.W.nsIn K mainGlobals "list" = some none)
    (z_range : PySem.W.nsIn K mainGlobals "range" = some none)
    (z_str : PySem.W.nsIn K mainGlobals "str" = some none)
    (z_tuple : PySem.W.nsIn K mainGlobals "tuple" = some none)
    (g_MOST_NUMBERS_ways : PySem.W.nsIn K mainGlobals "MOST_NUMBERS_ways" = some (some (.int 9 t_MOST_NUMBERS_ways)))
    (g_MOST_STRETCHES : PySem.W.nsIn K mainGlobals "MOST_STRETCHES" = some (some (.int 40 t_MOST_STRETCHES)))
    (g_MOST_NUMBERS_held : PySem.W.nsIn K mainGlobals "MOST_NUMBERS_held" = some (some (.int 9 t_MOST_NUMBERS_held)))
    (g_FIGURES : PySem.W.nsIn K mainGlobals "FIGURES" = some (some (.str (Str.ofString "0123456789") t_FIGURES)))
    (g_MOST_NUMBERS_texts : PySem.W.nsIn K mainGlobals "MOST_NUMBERS_texts" = some (some (.int 9 t_MOST_NUMBERS_texts)))
    (x1_NoRow : PySem.W.nsIn K mainGlobals "NoRow" = some (some (.ref C_NoRow)))
    (x2_NoRow : PySem.W.excIn K C_NoRow [.type "ValueError", .type "Exception", .type "BaseException", .type "object"] "ValueError.__new__" = true)
    (x3_NoRow : PySem.W.keepIn K (.ref C_NoRow) = true)
    (x4_NoRow : PySem.W.subIn K (.ref C_NoRow) (.type "BaseException") = some true)
    (x5_NoRow : PySem.W.typeIn K (.ref C_NoRow) = some (.type "type"))
    (x1_NoHolds : PySem.W.nsIn K mainGlobals "NoHolds" = some (some (.ref C_NoHolds)))
    (x2_NoHolds : PySem.W.excIn K C_NoHolds [.type "ValueError", .type "Exception", .type "BaseException", .type "object"] "ValueError.__new__" = true)
    (x3_NoHolds : PySem.W.keepIn K (.ref C_NoHolds) = true)
    (x4_NoHolds : PySem.W.subIn K (.ref C_NoHolds) (.type "BaseException") = some true)
    (x5_NoHolds : PySem.W.typeIn K (.ref C_NoHolds) = some (.type "type"))
    (x1_NoText : PySem.W.nsIn K mainGlobals "NoText" = some (some (.ref C_NoText)))
    (x2_NoText : PySem.W.excIn K C_NoText [.type "ValueError", .type "Exception", .type "BaseException", .type "object"] "ValueError.__new__" = true)
    (x3_NoText : PySem.W.keepIn K (.ref C_NoText) = true)
    (x4_NoText : PySem.W.subIn K (.ref C_NoText) (.type "BaseException") = some true)
    (x5_NoText : PySem.W.typeIn K (.ref C_NoText) = some (.type "type"))
    (a__law_well : PySem.W.nsIn K mainGlobals "_law_well" = some (some (.ref f__law_well)))
    (l__law_well : K.lookup f__law_well = some ⟨oc__law_well, od__law_well, .func (PySem.W.fnOf "_law_well" "_law_well" (defArgs (top 27)) (defBody (top 27)) (defScope (top 27)) .none kV__law_well dc__law_well pm__law_well an__law_well cd__law_well ct__law_well), sl__law_well⟩)
    (c__law_well : PySem.W.codeIn K cd__law_well "_law_well" = true)
    (k__law_well : PySem.W.keepIn K (.ref f__law_well) = true)
    (a__law_draw : PySem.W.nsIn K mainGlobals "_law_draw" = some (some (.ref f__law_draw)))
    (l__law_draw : K.lookup f__law_draw = some ⟨oc__law_draw, od__law_draw, .func (PySem.W.fnOf "_law_draw" "_law_draw" (defArgs (top 28)) (defBody (top 28)) (defScope (top 28)) .none kV__law_draw dc__law_draw pm__law_draw an__law_draw cd__law_draw ct__law_draw), sl__law_draw⟩)
    (c__law_draw : PySem.W.codeIn K cd__law_draw "_law_draw" = true)
    (k__law_draw : PySem.W.keepIn K (.ref f__law_draw) = true)
    (a__law_stretch : PySem.W.nsIn K mainGlobals "_law_stretch" = some (some (.ref f__law_stretch)))
    (l__law_stretch : K.lookup f__law_stretch = some ⟨oc__law_stretch, od__law_stretch, .func (PySem.W.fnOf "_law_stretch" "_law_stretch" (defArgs (top 31)) (defBody (top 31)) (defScope (top 31)) .none kV__law_stretch dc__law_stretch pm__law_stretch an__law_stretch cd__law_stretch ct__law_stretch), sl__law_stretch⟩)
    (c__law_stretch : PySem.W.codeIn K cd__law_stretch "_law_stretch" = true)
    (k__law_stretch : PySem.W.keepIn K (.ref f__law_stretch) = true)
    (a__law_holds : PySem.W.nsIn K mainGlobals "_law_holds" = some (some (.ref f__law_holds)))
    (l__law_holds : K.lookup f__law_holds = some ⟨oc__law_holds, od__law_holds, .func (PySem.W.fnOf "_law_holds" "_law_holds" (defArgs (top 32)) (defBody (top 32)) (defScope (top 32)) .none kV__law_holds dc__law_holds pm__law_holds an__law_holds cd__law_holds ct__law_holds), sl__law_holds⟩)
    (c__law_holds : PySem.W.codeIn K cd__law_holds "_law_holds" = true)
    (k__law_holds : PySem.W.keepIn K (.ref f__law_holds) = true)
    (a_is_whole : PySem.W.nsIn K mainGlobals "is_whole" = some (some (.ref f_is_whole)))
    (l_is_whole : K.lookup f_is_whole = some ⟨oc_is_whole, od_is_whole, .func (PySem.W.fnOf "is_whole" "is_whole" (defArgs (top 7)) (defBody (top 7)) (defScope (top 7)) .none kV_is_whole dc_is_whole pm_is_whole an_is_whole cd_is_whole ct_is_whole), sl_is_whole⟩)
    (c_is_whole : PySem.W.codeIn K cd_is_whole "is_whole" = true)
    (k_is_whole : PySem.W.keepIn K (.ref f_is_whole) = true)
    (a_is_stretch : PySem.W.nsIn K mainGlobals "is_stretch" = some (some (.ref f_is_stretch)))
    (l_is_stretch : K.lookup f_is_stretch = some ⟨oc_is_stretch, od_is_stretch, .func (PySem.W.fnOf "is_stretch" "is_stretch" (defArgs (top 13)) (defBody (top 13)) (defScope (top 13)) .none kV_is_stretch dc_is_stretch pm_is_stretch an_is_stretch cd_is_stretch ct_is_stretch), sl_is_stretch⟩)
    (c_is_stretch : PySem.W.codeIn K cd_is_stretch "is_stretch" = true)
    (k_is_stretch : PySem.W.keepIn K (.ref f_is_stretch) = true)
    (a_is_holds : PySem.W.nsIn K mainGlobals "is_holds" = some (some (.ref f_is_holds)))
    (l_is_holds : K.lookup f_is_holds = some ⟨oc_is_holds, od_is_holds, .func (PySem.W.fnOf "is_holds" "is_holds" (defArgs (top 14)) (defBody (top 14)) (defScope (top 14)) .none kV_is_holds dc_is_holds pm_is_holds an_is_holds cd_is_holds ct_is_holds), sl_is_holds⟩)
    (c_is_holds : PySem.W.codeIn K cd_is_holds "is_holds" = true)
    (k_is_holds : PySem.W.keepIn K (.ref f_is_holds) = true)
    (a_holds_text : PySem.W.nsIn K mainGlobals "holds_text" = some (some (.ref f_holds_text)))
    (l_holds_text : K.lookup f_holds_text = some ⟨oc_holds_text, od_holds_text, .func (PySem.W.fnOf "holds_text" "holds_text" (defArgs (top 20)) (defBody (top 20)) (defScope (top 20)) .none kV_holds_text dc_holds_text pm_holds_text an_holds_text cd_holds_text ct_holds_text), sl_holds_text⟩)
    (c_holds_text : PySem.W.codeIn K cd_holds_text "holds_text" = true)
    (k_holds_text : PySem.W.keepIn K (.ref f_holds_text) = true)
    (a_need_text : PySem.W.nsIn K mainGlobals "need_text" = some (some (.ref f_need_text)))
    (l_need_text : K.lookup f_need_text = some ⟨oc_need_text, od_need_text, .func (PySem.W.fnOf "need_text" "need_text" (defArgs (top 22)) (defBody (top 22)) (defScope (top 22)) .none kV_need_text dc_need_text pm_need_text an_need_text cd_need_text ct_need_text), sl_need_text⟩)
    (c_need_text : PySem.W.codeIn K cd_need_text "need_text" = true)
    (k_need_text : PySem.W.keepIn K (.ref f_need_text) = true)
    (a_stretch_in : PySem.W.nsIn K mainGlobals "stretch_in" = some (some (.ref f_stretch_in)))
    (l_stretch_in : K.lookup f_stretch_in = some ⟨oc_stretch_in, od_stretch_in, .func (PySem.W.fnOf "stretch_in" "stretch_in" (defArgs (top 24)) (defBody (top 24)) (defScope (top 24)) .none kV_stretch_in dc_stretch_in pm_stretch_in an_stretch_in cd_stretch_in ct_stretch_in), sl_stretch_in⟩)
    (c_stretch_in : PySem.W.codeIn K cd_stretch_in "stretch_in" = true)
    (k_stretch_in : PySem.W.keepIn K (.ref f_stretch_in) = true)
    (a_read_holds : PySem.W.nsIn K mainGlobals "read_holds" = some (some (.ref f_read_holds)))
    (l_read_holds : K.lookup f_read_holds = some ⟨oc_read_holds, od_read_holds, .func (PySem.W.fnOf "read_holds" "read_holds" (defArgs (top 25)) (defBody (top 25)) (defScope (top 25)) .none kV_read_holds dc_read_holds pm_read_holds an_read_holds cd_read_holds ct_read_holds), sl_read_holds⟩)
    (c_read_holds : PySem.W.codeIn K cd_read_holds "read_holds" = true)
    (k_read_holds : PySem.W.keepIn K (.ref f_read_holds) = true)
    (a_is_row : PySem.W.nsIn K mainGlobals "is_row" = some (some (.ref f_is_row)))
    (l_is_row : K.lookup f_is_row = some ⟨oc_is_row, od_is_row, .func (PySem.W.fnOf "is_row" "is_row" (defArgs (top 8)) (defBody (top 8)) (defScope (top 8)) .none kV_is_row dc_is_row pm_is_row an_is_row cd_is_row ct_is_row), sl_is_row⟩)
    (c_is_row : PySem.W.codeIn K cd_is_row "is_row" = true)
    (k_is_row : PySem.W.keepIn K (.ref f_is_row) = true)
    (a_need_row : PySem.W.nsIn K mainGlobals "need_row" = some (some (.ref f_need_row)))
    (l_need_row : K.lookup f_need_row = some ⟨oc_need_row, od_need_row, .func (PySem.W.fnOf "need_row" "need_row" (defArgs (top 9)) (defBody (top 9)) (defScope (top 9)) .none kV_need_row dc_need_row pm_need_row an_need_row cd_need_row ct_need_row), sl_need_row⟩)
    (c_need_row : PySem.W.codeIn K cd_need_row "need_row" = true)
    (k_need_row : PySem.W.keepIn K (.ref f_need_row) = true)
    (a_number_text : PySem.W.nsIn K mainGlobals "number_text" = some (some (.ref f_number_text)))
    (l_number_text : K.lookup f_number_text = some ⟨oc_number_text, od_number_text, .func (PySem.W.fnOf "number_text" "number_text" (defArgs (top 18)) (defBody (top 18)) (defScope (top 18)) .none kV_number_text dc_number_text pm_number_text an_number_text cd_number_text ct_number_text), sl_number_text⟩)
    (c_number_text : PySem.W.codeIn K cd_number_text "number_text" = true)
    (k_number_text : PySem.W.keepIn K (.ref f_number_text) = true)
    (a_row_text : PySem.W.nsIn K mainGlobals "row_text" = some (some (.ref f_row_text)))
    (l_row_text : K.lookup f_row_text = some ⟨oc_row_text, od_row_text, .func (PySem.W.fnOf "row_text" "row_text" (defArgs (top 19)) (defBody (top 19)) (defScope (top 19)) .none kV_row_text dc_row_text pm_row_text an_row_text cd_row_text ct_row_text), sl_row_text⟩)
    (c_row_text : PySem.W.codeIn K cd_row_text "row_text" = true)
    (k_row_text : PySem.W.keepIn K (.ref f_row_text) = true)
    (a_number_in : PySem.W.nsIn K mainGlobals "number_in" = some (some (.ref f_number_in)))
    (l_number_in : K.lookup f_number_in = some ⟨oc_number_in, od_number_in, .func (PySem.W.fnOf "number_in" "number_in" (defArgs (top 21)) (defBody (top 21)) (defScope (top 21)) .none kV_number_in dc_number_in pm_number_in an_number_in cd_number_in ct_number_in), sl_number_in⟩)
    (c_number_in : PySem.W.codeIn K cd_number_in "number_in" = true)
    (k_number_in : PySem.W.keepIn K (.ref f_number_in) = true)
    (a_read_row : PySem.W.nsIn K mainGlobals "read_row" = some (some (.ref f_read_row)))
    (l_read_row : K.lookup f_read_row = some ⟨oc_read_row, od_read_row, .func (PySem.W.fnOf "read_row" "read_row" (defArgs (top 23)) (defBody (top 23)) (defScope (top 23)) .none kV_read_row dc_read_row pm_read_row an_read_row cd_read_row ct_read_row), sl_read_row⟩)
    (c_read_row : PySem.W.codeIn K cd_read_row "read_row" = true)
    (k_read_row : PySem.W.keepIn K (.ref f_read_row) = true)
    (a__law_figures : PySem.W.nsIn K mainGlobals "_law_figures" = some (some (.ref f__law_figures)))
    (l__law_figures : K.lookup f__law_figures = some ⟨oc__law_figures, od__law_figures, .func (PySem.W.fnOf "_law_figures" "_law_figures" (defArgs (top 33)) (defBody (top 33)) (defScope (top 33)) .none kV__law_figures dc__law_figures pm__law_figures an__law_figures cd__law_figures ct__law_figures), sl__law_figures⟩)
    (c__law_figures : PySem.W.codeIn K cd__law_figures "_law_figures" = true)
    (k__law_figures : PySem.W.keepIn K (.ref f__law_figures) = true)
    (a__law_same : PySem.W.nsIn K mainGlobals "_law_same" = some (some (.ref f__law_same)))
    (l__law_same : K.lookup f__law_same = some ⟨oc__law_same, od__law_same, .func (PySem.W.fnOf "_law_same" "_law_same" (defArgs (top 35)) (defBody (top 35)) (defScope (top 35)) .none kV__law_same dc__law_same pm__law_same an__law_same cd__law_same ct__law_same), sl__law_same⟩)
    (c__law_same : PySem.W.codeIn K cd__law_same "_law_same" = true)
    (k__law_same : PySem.W.keepIn K (.ref f__law_same) = true)
    (a__law_row_right : PySem.W.nsIn K mainGlobals "_law_row_right" = some (some (.ref f__law_row_right)))
    (l__law_row_right : K.lookup f__law_row_right = some ⟨oc__law_row_right, od__law_row_right, .func (PySem.W.fnOf "_law_row_right" "_law_row_right" (defArgs (top 36)) (defBody (top 36)) (defScope (top 36)) .none kV__law_row_right dc__law_row_right pm__law_row_right an__law_row_right cd__law_row_right ct__law_row_right), sl__law_row_right⟩)
    (c__law_row_right : PySem.W.codeIn K cd__law_row_right "_law_row_right" = true)
    (k__law_row_right : PySem.W.keepIn K (.ref f__law_row_right) = true)
    (a__law_holds_written : PySem.W.nsIn K mainGlobals "_law_holds_written" = some (some (.ref f__law_holds_written)))
    (l__law_holds_written : K.lookup f__law_holds_written = some ⟨oc__law_holds_written, od__law_holds_written, .func (PySem.W.fnOf "_law_holds_written" "_law_holds_written" (defArgs (top 34)) (defBody (top 34)) (defScope (top 34)) .none kV__law_holds_written dc__law_holds_written pm__law_holds_written an__law_holds_written cd__law_holds_written ct__law_holds_written), sl__law_holds_written⟩)
    (c__law_holds_written : PySem.W.codeIn K cd__law_holds_written "_law_holds_written" = true)
    (k__law_holds_written : PySem.W.keepIn K (.ref f__law_holds_written) = true)
    (a__law_holds_right : PySem.W.nsIn K mainGlobals "_law_holds_right" = some (some (.ref f__law_holds_right)))
    (l__law_holds_right : K.lookup f__law_holds_right = some ⟨oc__law_holds_right, od__law_holds_right, .func (PySem.W.fnOf "_law_holds_right" "_law_holds_right" (defArgs (top 37)) (defBody (top 37)) (defScope (top 37)) .none kV__law_holds_right dc__law_holds_right pm__law_holds_right an__law_holds_right cd__law_holds_right ct__law_holds_right), sl__law_holds_right⟩)
    (c__law_holds_right : PySem.W.codeIn K cd__law_holds_right "_law_holds_right" = true)
    (k__law_holds_right : PySem.W.keepIn K (.ref f__law_holds_right) = true)
    (a__law_row : PySem.W.nsIn K mainGlobals "_law_row" = some (some (.ref f__law_row)))
    (l__law_row : K.lookup f__law_row = some ⟨oc__law_row, od__law_row, .func (PySem.W.fnOf "_law_row" "_law_row" (defArgs (top 29)) (defBody (top 29)) (defScope (top 29)) .none kV__law_row dc__law_row pm__law_row an__law_row cd__law_row ct__law_row), sl__law_row⟩)
    (c__law_row : PySem.W.codeIn K cd__law_row "_law_row" = true)
    (k__law_row : PySem.W.keepIn K (.ref f__law_row) = true)
    (a_law : PySem.W.nsIn K mainGlobals "law" = some (some (.ref f_law)))
    (l_law : K.lookup f_law = some ⟨oc_law, od_law, .func (PySem.W.fnOf "law" "law" (defArgs (top 38)) (defBody (top 38)) (defScope (top 38)) .none kV_law dc_law pm_law an_law cd_law ct_law), sl_law⟩)
    (c_law : PySem.W.codeIn K cd_law "law" = true)
    (k_law : PySem.W.keepIn K (.ref f_law) = true) :
    ∃ fd : FuncData, (∀ (s : Shared) (v : Value), BindsTo s fd ⟨[v], []⟩ [("script", v)]) ∧ ∀ base : Heap, K.In base → base.Ns mainGlobals mg → FnOk P w K mg base (L2.CX P w) 14 fa fd ["script"] (spLaw K) := by
  have e := hfa.symm.trans (PySem.W.mg_of X Gm a_law)
  cases e
  have G : Gx K mg := gx_mk X Gm z_abs z_bool z_enumerate z_int z_isinstance z_len z_list z_range z_str z_tuple g_MOST_NUMBERS_ways g_MOST_STRETCHES g_MOST_NUMBERS_held g_FIGURES g_MOST_NUMBERS_texts x1_NoRow x2_NoRow x3_NoRow x4_NoRow x5_NoRow x1_NoHolds x2_NoHolds x3_NoHolds x4_NoHolds x5_NoHolds x1_NoText x2_NoText x3_NoText x4_NoText x5_NoText a__law_well l__law_well c__law_well k__law_well a__law_draw l__law_draw c__law_draw k__law_draw a__law_stretch l__law_stretch c__law_stretch k__law_stretch a__law_holds l__law_holds c__law_holds k__law_holds a_is_whole l_is_whole c_is_whole k_is_whole a_is_stretch l_is_stretch c_is_stretch k_is_stretch a_is_holds l_is_holds c_is_holds k_is_holds a_holds_text l_holds_text c_holds_text k_holds_text a_need_text l_need_text c_need_text k_need_text a_stretch_in l_stretch_in c_stretch_in k_stretch_in a_read_holds l_read_holds c_read_holds k_read_holds a_is_row l_is_row c_is_row k_is_row a_need_row l_need_row c_need_row k_need_row a_number_text l_number_text c_number_text k_number_text a_row_text l_row_text c_row_text k_row_text a_number_in l_number_in c_number_in k_number_in a_read_row l_read_row c_read_row k_read_row a__law_figures l__law_figures c__law_figures k__law_figures a__law_same l__law_same c__law_same k__law_same a__law_row_right l__law_row_right c__law_row_right k__law_row_right a__law_holds_written l__law_holds_written c__law_holds_written k__law_holds_written a__law_holds_right l__law_holds_right c__law_holds_right k__law_holds_right a__law_row l__law_row c__law_row k__law_row a_law l_law c_law k_law
  exact ⟨PySem.W.fnOf "law" "law" (defArgs (top 38)) (defBody (top 38)) (defScope (top 38)) .none kV_law dc_law pm_law an_law cd_law ct_law, fun s v => .of_eq rfl, fun base _ _ => law_of (c_all G) hpl hfa l_law⟩
end K49
open PySem PySem.W PyProof.Rows
set_option maxRecDepth 100000 in
set_option maxHeartbeats 0 in
theorem PySem.Challenge.cw_putsigns_k49_rows_and_holds_written_holds : PySem.Challenge.rw_putsigns_k49_rows_and_holds_written.Holds := by
  w_on; o_law; k_head; (case hw => w_witness2)
  k_fill
  refine PV.walk_law (l := PySem.Challenge.rw_putsigns_k49_rows_and_holds_written) (k := 14) rfl rfl (by decide) (fun w h Y => PySem.W.kIn_of Y) ?F
  case F =>
    intro w mg fa h KX G hmg
    refine' K49.all_mk K49.plain KX G hmg ?z_abs ?z_bool ?z_enumerate ?z_int ?z_isinstance ?z_len ?z_list ?z_range ?z_str ?z_tuple ?g_MOST_NUMBERS_ways ?g_MOST_STRETCHES ?g_MOST_NUMBERS_held ?g_FIGURES ?g_MOST_NUMBERS_texts ?x1_NoRow ?x2_NoRow ?x3_NoRow ?x4_NoRow ?x5_NoRow ?x1_NoHolds ?x2_NoHolds ?x3_NoHolds ?x4_NoHolds ?x5_NoHolds ?x1_NoText ?x2_NoText ?x3_NoText ?x4_NoText ?x5_NoText ?a__law_well ?l__law_well ?c__law_well ?k__law_well ?a__law_draw ?l__law_draw ?c__law_draw ?k__law_draw ?a__law_stretch ?l__law_stretch ?c__law_stretch ?k__law_stretch ?a__law_holds ?l__law_holds ?c__law_holds ?k__law_holds ?a_is_whole ?l_is_whole ?c_is_whole ?k_is_whole ?a_is_stretch ?l_is_stretch ?c_is_stretch ?k_is_stretch ?a_is_holds ?l_is_holds ?c_is_holds ?k_is_holds ?a_holds_text ?l_holds_text ?c_holds_text ?k_holds_text ?a_need_text ?l_need_text ?c_need_text ?k_need_text ?a_stretch_in ?l_stretch_in ?c_stretch_in ?k_stretch_in ?a_read_holds ?l_read_holds ?c_read_holds ?k_read_holds ?a_is_row ?l_is_row ?c_is_row ?k_is_row ?a_need_row ?l_need_row ?c_need_row ?k_need_row ?a_number_text ?l_number_text ?c_number_text ?k_number_text ?a_row_text ?l_row_text ?c_row_text ?k_row_text ?a_number_in ?l_number_in ?c_number_in ?k_number_in ?a_read_row ?l_read_row ?c_read_row ?k_read_row ?a__law_figures ?l__law_figures ?c__law_figures ?k__law_figures ?a__law_same ?l__law_same ?c__law_same ?k__law_same ?a__law_row_right ?l__law_row_right ?c__law_row_right ?k__law_row_right ?a__law_holds_written ?l__law_holds_written ?c__law_holds_written ?k__law_holds_written ?a__law_holds_right ?l__law_holds_right ?c__law_holds_right ?k__law_holds_right ?a__law_row ?l__law_row ?c__law_row ?k__law_row ?a_law ?l_law ?c_law ?k_law
    (case z_abs => k_is)
    (case z_bool => k_is)
    (case z_enumerate => k_is)
    (case z_int => k_is)
    (case z_isinstance => k_is)
    (case z_len => k_is)
    (case z_list => k_is)
    (case z_range => k_is)
    (case z_str => k_is)
    (case z_tuple => k_is)
    (case g_MOST_NUMBERS_ways => k_is)
    (case g_MOST_STRETCHES => k_is)
    (case g_MOST_NUMBERS_held => k_is)
    (case g_FIGURES => k_is)
    (case g_MOST_NUMBERS_texts => k_is)
    (case x1_NoRow => k_is)
    (case x2_NoRow => k_exc)
    (case x3_NoRow => k_is)
    (case x4_NoRow => k_is)
    (case x5_NoRow => k_is)
    (case x1_NoHolds => k_is)
    (case x2_NoHolds => k_exc)
    (case x3_NoHolds => k_is)
    (case x4_NoHolds => k_is)
    (case x5_NoHolds => k_is)
    (case x1_NoText => k_is)
    (case x2_NoText => k_exc)
    (case x3_NoText => k_is)
    (case x4_NoText => k_is)
    (case x5_NoText => k_is)
    (case a__law_well => k_is)
    (case l__law_well => k_is)
    (case c__law_well => k_is)
    (case k__law_well => k_is)
    (case a__law_draw => k_is)
    (case l__law_draw => k_is)
    (case c__law_draw => k_is)
    (case k__law_draw => k_is)
    (case a__law_stretch => k_is)
    (case l__law_stretch => k_is)
    (case c__law_stretch => k_is)
    (case k__law_stretch => k_is)
    (case a__law_holds => k_is)
    (case l__law_holds => k_is)
    (case c__law_holds => k_is)
    (case k__law_holds => k_is)
    (case a_is_whole => k_is)
    (case l_is_whole => k_is)
    (case c_is_whole => k_is)
    (case k_is_whole => k_is)
    (case a_is_stretch => k_is)
    (case l_is_stretch => k_is)
    (case c_is_stretch => k_is)
    (case k_is_stretch => k_is)
    (case a_is_holds => k_is)
    (case l_is_holds => k_is)
    (case c_is_holds => k_is)
    (case k_is_holds => k_is)
    (case a_holds_text => k_is)
    (case l_holds_text => k_is)
    (case c_holds_text => k_is)
    (case k_holds_text => k_is)
    (case a_need_text => k_is)
    (case l_need_text => k_is)
    (case c_need_text => k_is)
    (case k_need_text => k_is)
    (case a_stretch_in => k_is)
    (case l_stretch_in => k_is)
    (case c_stretch_in => k_is)
    (case k_stretch_in => k_is)
    (case a_read_holds => k_is)
    (case l_read_holds => k_is)
    (case c_read_holds => k_is)
    (case k_read_holds => k_is)
    (case a_is_row => k_is)
    (case l_is_row => k_is)
    (case c_is_row => k_is)
    (case k_is_row => k_is)
    (case a_need_row => k_is)
    (case l_need_row => k_is)
    (case c_need_row => k_is)
    (case k_need_row => k_is)
    (case a_number_text => k_is)
    (case l_number_text => k_is)
    (case c_number_text => k_is)
    (case k_number_text => k_is)
    (case a_row_text => k_is)
    (case l_row_text => k_is)
    (case c_row_text => k_is)
    (case k_row_text => k_is)
    (case a_number_in => k_is)
    (case l_number_in => k_is)
    (case c_number_in => k_is)
    (case k_number_in => k_is)
    (case a_read_row => k_is)
    (case l_read_row => k_is)
    (case c_read_row => k_is)
    (case k_read_row => k_is)
    (case a__law_figures => k_is)
    (case l__law_figures => k_is)
    (case c__law_figures => k_is)
    (case k__law_figures => k_is)
    (case a__law_same => k_is)
    (case l__law_same => k_is)
    (case c__law_same => k_is)
    (case k__law_same => k_is)
    (case a__law_row_right => k_is)
    (case l__law_row_right => k_is)
    (case c__law_row_right => k_is)
    (case k__law_row_right => k_is)
    (case a__law_holds_written => k_is)
    (case l__law_holds_written => k_is)
    (case c__law_holds_written => k_is)
    (case k__law_holds_written => k_is)
    (case a__law_holds_right => k_is)
    (case l__law_holds_right => k_is)
    (case c__law_holds_right => k_is)
    (case k__law_holds_right => k_is)
    (case a__law_row => k_is)
    (case l__law_row => k_is)
    (case c__law_row => k_is)
    (case k__law_row => k_is)
    (case a_law => k_is)
    (case l_law => k_is)
    (case c_law => k_is)
    (case k_law => k_is)
