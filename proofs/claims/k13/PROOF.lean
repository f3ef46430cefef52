import PyProof.Rows.All
import Wide.All
import OpenK.AllK
import Wide.FinOn
import HandS.ForMost
import HandS.Exc
import HandS.TryOnly
import HandS.ExcOwn
import HandS.WordsExc
import HandS.ExcValue
import HandS.IsInst
import HandS.ExcIs
import HandS.Wide
import HandS.Walk
import HandS.TupAny
import HandS.Conv
import HandS.Style
import HandS.Rev
import HandS.RevRange
import HandS.Defaults
import HandS.Head0
import HandS.Head1
import HandS.Head2
import HandS.HeadEnd
import HandS.HeadHook1
import HandS.HeadHook2
import HandS.SortInts
import HandS.TupLen
import HandS.CallLocal
import HandS.Zip
import KE.KTupSum
import KE.GoesMore
import KE.GoesZip
import HandS.Codes
import PyProof.CompFree
import HandS.Text
import HandS.StrMore
import HandS.Flow
import HandS.ReplaceLit
import KE.DataFind
import PySem.Challenge.RW_doorpicks_k13_written_and_read
set_option Elab.async false
set_option linter.all false
set_option maxRecDepth 100000
set_option maxHeartbeats 0
/-! DL: a calculus of data over the hand layer: no heap in sight. -/
namespace DL
open PySem PySem.Spec PyProof.Rows L2

/-- data: what a value is, with all that hangs on it; it stands still -/
inductive Da where
  | non | bl (b : Bool) | int (i : Int) | str (x : Str)
  | tup (ds : List Da) | lst (ds : List Da)
  | ob (C : Addr) (ns : List Str) (ds : List Da)
  | obw (C : Addr) (ns : List Str) (ds : List Da)
  | exc (C : Addr) | fn (a : Addr) | ty (n : String) | dic | scr (ns : List Int)

/-- an exception object of the class C, caught, whatever it notes of its way -/
def ExW (C : Addr) (a : Addr) : HO := .ext fun h => ∃ oe : Obj, h.get? a = some oe ∧ Zc (.ref C) none oe ∧ ∃ vs, oe.data = .fields vs
mutual
def At (K : PySem.W.Frag) (H : Hp) : Da → V → Prop
  | .non, v => v = .non
  | .bl b, v => v = .bl b
  | .int i, v => v = .int i
  | .str x, v => v = .str x
  | .tup ds, v => ∃ a vs, v = .ref a ∧ H a = some (.tup vs) ∧ Ats K H ds vs
  | .lst ds, v => ∃ a vs, v = .ref a ∧ H a = some (.lst vs) ∧ Ats K H ds vs
  | .ob C ns ds, v => ∃ a dx vs, v = .ref a ∧ H a = some (.ins C dx (ns.zip vs)) ∧ ns.length = ds.length ∧ Ats K H ds vs
  | .obw C ns ds, v => ∃ a dx fs vs, v = .ref a ∧ H a = some (.ins C dx fs) ∧ (∀ f w, (ns.zip vs).lookup f = some w → fs.lookup f = some w) ∧ ns.length = ds.length ∧ Ats K H ds vs
  | .exc C, v => ∃ a, v = .ref a ∧ H a = some (ExW C a)
  | .fn a, v => v = .ref a
  | .ty n, v => v = .ty n
  | .dic, v => ∃ a, v = .ref a ∧ H a = some (.dK [])
  | .scr ns, v => ∃ a, v = .ref a ∧ SqL K H a (ns.map V.int)
def Ats (K : PySem.W.Frag) (H : Hp) : List Da → List V → Prop
  | [], vs => vs = []
  | d :: ds, vs => ∃ v r, vs = v :: r ∧ At K H d v ∧ Ats K H ds r
end

section
variable {K : PySem.W.Frag} {H H' : Hp}
mutual
theorem At.mono (e : Same H H') : ∀ (d : Da) (v : V), At K H d v → At K H' d v
  | .non, _, h => h
  | .bl _, _, h => h
  | .int _, _, h => h
  | .str _, _, h => h
  | .tup ds, _, ⟨a, vs, h1, h2, h3⟩ => ⟨a, vs, h1, e _ _ h2, Ats.mono e ds vs h3⟩
  | .lst ds, _, ⟨a, vs, h1, h2, h3⟩ => ⟨a, vs, h1, e _ _ h2, Ats.mono e ds vs h3⟩
  | .ob _ _ ds, _, ⟨a, dx, vs, h1, h2, h4, h3⟩ => ⟨a, dx, vs, h1, e _ _ h2, h4, Ats.mono e ds vs h3⟩
  | .obw _ _ ds, _, ⟨a, dx, fs, vs, h1, h2, h5, h4, h3⟩ => ⟨a, dx, fs, vs, h1, e _ _ h2, h5, h4, Ats.mono e ds vs h3⟩
  | .exc _, _, ⟨a, h1, h2⟩ => ⟨a, h1, e _ _ h2⟩
  | .fn _, _, h => h
  | .ty _, _, h => h
  | .dic, _, ⟨a, h1, h2⟩ => ⟨a, h1, e _ _ h2⟩
  | .scr _, _, ⟨a, h1, h2⟩ => ⟨a, h1, e.seq h2⟩
theorem Ats.mono (e : Same H H') : ∀ (ds : List Da) (vs : List V), Ats K H ds vs → Ats K H' ds vs
  | [], _, h => h
  | d :: ds, _, ⟨v, r, h1, h2, h3⟩ => ⟨v, r, h1, At.mono e d v h2, Ats.mono e ds r h3⟩
end
theorem Ats.length : ∀ {ds : List Da} {vs : List V}, Ats K H ds vs → vs.length = ds.length
  | [], _, h => by rw [show _ = [] from h]; rfl
  | d :: ds, _, ⟨v, r, h1, _, h3⟩ => by rw [h1, List.length_cons, List.length_cons, Ats.length h3]
theorem Ats.get : ∀ {ds : List Da} {vs : List V} {i : Nat} {d : Da}, Ats K H ds vs → ds[i]? = some d → ∃ v, vs[i]? = some v ∧ At K H d v
  | d :: ds, _, 0, d', ⟨v, r, h1, h2, h3⟩, e => by
    cases e
    subst h1
    exact ⟨v, rfl, h2⟩
  | d :: ds, _, i + 1, d', ⟨v, r, h1, h2, h3⟩, e => by
    subst h1
    exact Ats.get (i := i) h3 e
theorem Ats.get' : ∀ {ds : List Da} {vs : List V} {i : Nat} {v : V}, Ats K H ds vs → vs[i]? = some v → ∃ d, ds[i]? = some d ∧ At K H d v
  | [], _, i, v, h, e => by
    rw [show _ = [] from h] at e
    cases e
  | d :: ds, _, 0, v', ⟨v, r, h1, h2, h3⟩, e => by
    subst h1
    cases e
    exact ⟨d, rfl, h2⟩
  | d :: ds, _, i + 1, v', ⟨v, r, h1, h2, h3⟩, e => by
    subst h1
    exact Ats.get' (i := i) h3 e
theorem Ats.append : ∀ {ds es : List Da} {vs ws : List V}, Ats K H ds vs → Ats K H es ws → Ats K H (ds ++ es) (vs ++ ws)
  | [], _, _, _, h, g => by
    rw [show _ = [] from h]
    exact g
  | d :: ds, _, _, _, ⟨v, r, h1, h2, h3⟩, g => by
    subst h1
    exact ⟨v, _, rfl, h2, Ats.append h3 g⟩
theorem Ats.take : ∀ {ds : List Da} {vs : List V} (n : Nat), Ats K H ds vs → Ats K H (ds.take n) (vs.take n)
  | _, _, 0, _ => rfl
  | [], _, n + 1, h => by
    rw [show _ = [] from h]
    rfl
  | d :: ds, _, n + 1, ⟨v, r, h1, h2, h3⟩ => by
    subst h1
    exact ⟨v, _, rfl, h2, Ats.take n h3⟩
theorem Ats.drop : ∀ {ds : List Da} {vs : List V} (n : Nat), Ats K H ds vs → Ats K H (ds.drop n) (vs.drop n)
  | _, _, 0, h => h
  | [], _, n + 1, h => by
    rw [show _ = [] from h]
    rfl
  | d :: ds, _, n + 1, ⟨v, r, h1, h2, h3⟩ => by
    subst h1
    exact Ats.drop n h3
theorem Ats.one {d : Da} {v : V} (h : At K H d v) : Ats K H [d] [v] := ⟨v, [], rfl, h, rfl⟩
theorem Ats.reverse : ∀ {ds : List Da} {vs : List V}, Ats K H ds vs → Ats K H ds.reverse vs.reverse
  | [], _, h => by
    rw [show _ = [] from h]
    rfl
  | d :: ds, _, ⟨v, r, h1, h2, h3⟩ => by
    subst h1
    rw [List.reverse_cons, List.reverse_cons]
    exact Ats.append (Ats.reverse h3) (Ats.one h2)
theorem Ats.rep {d : Da} {v : V} (h : At K H d v) : ∀ n : Nat, Ats K H (List.replicate n d) (List.replicate n v)
  | 0 => rfl
  | n + 1 => ⟨v, _, rfl, h, Ats.rep h n⟩
theorem Ats.set : ∀ {ds : List Da} {vs : List V} (i : Nat) {d : Da} {v : V}, Ats K H ds vs → At K H d v → Ats K H (ds.set i d) (vs.set i v)
  | [], _, _, _, _, h, _ => by
    rw [show _ = [] from h]
    rfl
  | e :: ds, _, 0, d, v, ⟨w, r, h1, h2, h3⟩, g => by
    subst h1
    exact ⟨v, r, rfl, g, h3⟩
  | e :: ds, _, i + 1, d, v, ⟨w, r, h1, h2, h3⟩, g => by
    subst h1
    exact ⟨w, _, rfl, h2, Ats.set i h3 g⟩
theorem ats_int : ∀ {ns : List Int} {vs : List V}, Ats K H (ns.map Da.int) vs → vs = ns.map V.int
  | [], _, h => h
  | n :: ns, _, ⟨v, r, h1, h2, h3⟩ => by
    subst h1
    rw [show v = V.int n from h2, ats_int h3]
    rfl
theorem ats_int' : ∀ (ns : List Int), Ats K H (ns.map Da.int) (ns.map V.int)
  | [] => rfl
  | n :: ns => ⟨_, _, rfl, rfl, ats_int' ns⟩
theorem ats_bl : ∀ {bs : List Bool} {vs : List V}, Ats K H (bs.map Da.bl) vs → vs = bs.map V.bl
  | [], _, h => h
  | n :: ns, _, ⟨v, r, h1, h2, h3⟩ => by
    subst h1
    rw [show v = V.bl n from h2, ats_bl h3]
    rfl
theorem ats_str : ∀ {bs : List Str} {vs : List V}, Ats K H (bs.map Da.str) vs → vs = bs.map V.str
  | [], _, h => h
  | n :: ns, _, ⟨v, r, h1, h2, h3⟩ => by
    subst h1
    rw [show v = V.str n from h2, ats_str h3]
    rfl
theorem ats_str' : ∀ (ns : List Str), Ats K H (ns.map Da.str) (ns.map V.str)
  | [] => rfl
  | n :: ns => ⟨_, _, rfl, rfl, ats_str' ns⟩
end

/-- the context of a judgement: the hand layer's, the entry's frame and heap, what is wished of exceptions -/
structure J where
  X : Cx
  F0 : Hp
  H0 : Hp
  xk : XK
  tk : Takes X (fun c d _ H => xk c d H)
  po : PassesOwn (model X.prog X.w) X.A X.env X.xe
  EX : Addr → Prop
  ex : ∀ C, EX C → ∀ H', Same H0 H' → xk (.ref C) none H'

/-- a step: the frame grows by what is new, what was tracked stands -/
structure Stp (F H F' H' : Hp) : Prop where
  f : Same F F'
  e : Same F' H'
  h : Same H H'
  new : ∀ a o, F' a = some o → F a = some o ∨ H a = none
theorem Stp.refl {F H : Hp} (e : Same F H) : Stp F H F H := ⟨fun _ _ h => h, e, fun _ _ h => h, fun _ _ h => .inl h⟩
theorem Stp.trans {F H F1 H1 F2 H2 : Hp} (a : Stp F H F1 H1) (b : Stp F1 H1 F2 H2) : Stp F H F2 H2 :=
  ⟨a.f.trans b.f, b.e, a.h.trans b.h, fun x o q => by
    rcases b.new x o q with q | q
    · exact a.new x o q
    · exact .inr (a.h.free q)⟩
theorem Stp.alloc {F H : Hp} (e : Same F H) {p : Addr} (hp : H p = none) (o : HO) : Stp F H (upd F p o) (upd H p o) := by
  have hF : F p = none := e.free hp
  refine ⟨fun a u q => ?_, fun a u q => ?_, fun a u q => ?_, fun a u q => ?_⟩
  · rw [upd_ne (ne_of_none q hF)]
    exact q
  · by_cases h : a = p
    · subst h
      rw [upd_same] at q ⊢
      exact q
    · rw [upd_ne h] at q ⊢
      exact e _ _ q
  · rw [upd_ne (ne_of_none q hp)]
    exact q
  · by_cases h : a = p
    · subst h
      exact .inr hp
    · rw [upd_ne h] at q
      exact .inl q

/-- a slot: nothing known, a datum, a list of one's own (no one else holds it) -/
inductive Sl where
  | un | da (d : Da) | ow (ds : List Da) | owd (ks : List (List Int))

/-- a dict whose keys are rows of numbers, each with True -/
def dTO (ks : List (List Int)) : HO := .dT (ks.map fun k => (k.map Sum.inl, V.bl true))

def SlOk (j : J) (F H : Hp) : Sl → Option V → Prop
  | .un, _ => True
  | .da d, o => ∃ v, o = some v ∧ At j.X.K F d v
  | .ow ds, o => ∃ l vs, o = some (.ref l) ∧ H l = some (.lst vs) ∧ Ats j.X.K F ds vs ∧ F l = none ∧ j.H0 l = none
  | .owd ks, o => ∃ l, o = some (.ref l) ∧ H l = some (dTO ks) ∧ F l = none ∧ j.H0 l = none

structure Frm (j : J) (F H : Hp) : Prop where
  ext : Same F H
  f0 : Same j.F0 F
  h0 : Same j.H0 H
  new : ∀ a o, F a = some o → j.F0 a = some o ∨ j.H0 a = none
structure Rp (j : J) (S : List Sl) (σ : L2.St) (F H : Hp) : Prop extends Frm j F H where
  len : S.length = σ.length
  sl : ∀ (i : Nat) (s : Sl) (o : Option V), S[i]? = some s → σ[i]? = some o → SlOk j F H s o
  ap : ∀ (i k : Nat) (ds es : List Da) (l : Addr), i ≠ k → S[i]? = some (.ow ds) → S[k]? = some (.ow es) → σ[i]? = some (some (.ref l)) → σ[k]? = some (some (.ref l)) → False
section
variable {j : J} {S : List Sl} {σ : L2.St} {F H F' H' : Hp}
theorem Frm.step (r : Frm j F H) (s : Stp F H F' H') : Frm j F' H' :=
  ⟨s.e, r.f0.trans s.f, r.h0.trans s.h, fun a o q => by
    rcases s.new a o q with q | q
    · exact r.new a o q
    · exact .inr (r.h0.free q)⟩
theorem SlOk.step {sl : Sl} {o : Option V} (h : SlOk j F H sl o) (s : Stp F H F' H') : SlOk j F' H' sl o := by
  cases sl with
  | un => trivial
  | da d =>
    obtain ⟨v, e, h⟩ := h
    exact ⟨v, e, At.mono s.f d v h⟩
  | ow ds =>
    obtain ⟨l, vs, e, h1, h2, h3, h4⟩ := h
    refine ⟨l, vs, e, s.h _ _ h1, Ats.mono s.f ds vs h2, ?_, h4⟩
    cases q : F' l with
    | none => rfl
    | some o =>
      rcases s.new l o q with z | z
      · rw [h3] at z; cases z
      · rw [h1] at z; cases z
  | owd ks =>
    obtain ⟨l, e, h1, h3, h4⟩ := h
    refine ⟨l, e, s.h _ _ h1, ?_, h4⟩
    cases q : F' l with
    | none => rfl
    | some o =>
      rcases s.new l o q with z | z
      · rw [h3] at z; cases z
      · rw [h1] at z; cases z
theorem Rp.step (r : Rp j S σ F H) (s : Stp F H F' H') : Rp j S σ F' H' :=
  ⟨r.toFrm.step s, r.len, fun i sl o h1 h2 => (r.sl i sl o h1 h2).step s, r.ap⟩
theorem Rp.get {i : Nat} {d : Da} (r : Rp j S σ F H) (h : S[i]? = some (.da d)) : ∃ v, σ[i]? = some (some v) ∧ At j.X.K F d v := by
  have hi : i < σ.length := by rw [← r.len]; exact (List.getElem?_eq_some_iff.mp h).1
  obtain ⟨v, e, a⟩ := r.sl i _ _ h (List.getElem?_eq_getElem hi)
  exact ⟨v, by rw [List.getElem?_eq_getElem hi, e], a⟩
theorem Rp.own {i : Nat} {ds : List Da} (r : Rp j S σ F H) (h : S[i]? = some (.ow ds)) : ∃ l vs, σ[i]? = some (some (.ref l)) ∧ H l = some (.lst vs) ∧ Ats j.X.K F ds vs ∧ F l = none ∧ j.H0 l = none := by
  have hi : i < σ.length := by rw [← r.len]; exact (List.getElem?_eq_some_iff.mp h).1
  obtain ⟨l, vs, e, a⟩ := r.sl i _ _ h (List.getElem?_eq_getElem hi)
  exact ⟨l, vs, by rw [List.getElem?_eq_getElem hi, e], a⟩
/-- a slot is stored -/
theorem Rp.set {i : Nat} {s : Sl} {o : Option V} (r : Rp j S σ F H) (h : SlOk j F H s o)
    (hap : ∀ (k : Nat) (ds es : List Da) (l : Addr), k ≠ i → s = .ow ds → S[k]? = some (.ow es) → o = some (.ref l) → σ[k]? = some (some (.ref l)) → False) : Rp j (S.set i s) (σ.set i o) F H := by
  refine ⟨r.toFrm, by rw [List.length_set, List.length_set, r.len], fun k s' o' h1 h2 => ?_, fun k m ds es l hne h1 h2 h3 h4 => ?_⟩
  · by_cases e : i = k
    · subst e
      rw [List.getElem?_set] at h1 h2
      simp only [if_true] at h1 h2
      split at h1
      · split at h2
        · cases h1; cases h2; exact h
        · cases h2
      · cases h1
    · rw [List.getElem?_set_ne e] at h1 h2
      exact r.sl k s' o' h1 h2
  · by_cases e : i = k
    · subst e
      rw [List.getElem?_set_ne hne] at h2 h4
      rw [List.getElem?_set] at h1 h3
      simp only [if_true] at h1 h3
      split at h1
      · split at h3
        · cases h1; cases h3
          exact hap m ds es l (Ne.symm hne) rfl h2 rfl h4
        · cases h3
      · cases h1
    · by_cases e2 : i = m
      · subst e2
        rw [List.getElem?_set_ne e] at h1 h3
        rw [List.getElem?_set] at h2 h4
        simp only [if_true] at h2 h4
        split at h2
        · split at h4
          · cases h2; cases h4
            exact hap k es ds l hne rfl h1 rfl h3
          · cases h4
        · cases h2
      · rw [List.getElem?_set_ne e] at h1 h3
        rw [List.getElem?_set_ne e2] at h2 h4
        exact r.ap k m ds es l hne h1 h2 h3 h4
theorem Rp.setDa {i : Nat} {d : Da} {v : V} (r : Rp j S σ F H) (h : At j.X.K F d v) : Rp j (S.set i (.da d)) (σ.set i (some v)) F H :=
  r.set ⟨v, rfl, h⟩ fun _ _ _ _ _ e => by cases e
theorem Rp.setUn {i : Nat} {o : Option V} (r : Rp j S σ F H) : Rp j (S.set i .un) (σ.set i o) F H :=
  r.set trivial fun _ _ _ _ _ e => by cases e
theorem Rp.setOw {i : Nat} {ds : List Da} {l : Addr} {vs : List V} (r : Rp j S σ F H) (h1 : H l = some (.lst vs)) (h2 : Ats j.X.K F ds vs) (h3 : F l = none) (h4 : j.H0 l = none)
    (hap : ∀ (k : Nat) (es : List Da), k ≠ i → S[k]? = some (.ow es) → σ[k]? ≠ some (some (.ref l))) : Rp j (S.set i (.ow ds)) (σ.set i (some (.ref l))) F H :=
  r.set ⟨l, vs, rfl, h1, h2, h3, h4⟩ fun k _ es l' hk _ h5 e h6 => by
    cases e
    exact hap k es hk h5 h6
/-- forgetting a slot -/
theorem Rp.forget {i : Nat} (r : Rp j S σ F H) : Rp j (S.set i .un) σ F H := by
  refine ⟨r.toFrm, by rw [List.length_set, r.len], fun k s' o' h1 h2 => ?_, fun k m ds es l hne h1 h2 h3 h4 => ?_⟩
  · by_cases e : i = k
    · subst e
      rw [List.getElem?_set] at h1
      simp only [if_true] at h1
      split at h1
      · cases h1; trivial
      · cases h1
    · rw [List.getElem?_set_ne e] at h1
      exact r.sl k s' o' h1 h2
  · have a1 : i ≠ k := fun e => by
      subst e
      rw [List.getElem?_set] at h1
      simp only [if_true] at h1
      split at h1 <;> cases h1
    have a2 : i ≠ m := fun e => by
      subst e
      rw [List.getElem?_set] at h2
      simp only [if_true] at h2
      split at h2 <;> cases h2
    rw [List.getElem?_set_ne a1] at h1
    rw [List.getElem?_set_ne a2] at h2
    exact r.ap k m ds es l hne h1 h2 h3 h4
/-- an own list becomes a datum -/
theorem Rp.freeze' {i : Nat} {ds : List Da} (r : Rp j S σ F H) (h : S[i]? = some (.ow ds)) : ∃ l vs, H l = some (.lst vs) ∧ F l = none ∧ Same F (upd F l (.lst vs)) ∧ Rp j (S.set i (.da (.lst ds))) σ (upd F l (.lst vs)) H := by
  obtain ⟨l, vs, e, h1, h2, h3, h4⟩ := r.own h
  have sF : Same F (upd F l (.lst vs)) := fun a o q => by
    rw [upd_ne (ne_of_none q h3)]
    exact q
  refine ⟨l, vs, h1, h3, sF, ⟨⟨fun a o q => ?_, r.f0.trans sF, r.h0, fun a o q => ?_⟩, by rw [List.length_set, r.len], fun k s' o' q1 q2 => ?_, fun k m es fs l' hne q1 q2 q3 q4 => ?_⟩⟩
  · by_cases z : a = l
    · subst z
      rw [upd_same] at q
      cases q
      exact h1
    · rw [upd_ne z] at q
      exact r.ext _ _ q
  · by_cases z : a = l
    · subst z
      exact .inr h4
    · rw [upd_ne z] at q
      exact r.new _ _ q
  · by_cases z : i = k
    · subst z
      rw [List.getElem?_set] at q1
      simp only [if_true] at q1
      split at q1
      · cases q1
        rw [e] at q2
        cases q2
        exact ⟨_, rfl, l, vs, rfl, upd_same, Ats.mono sF ds vs h2⟩
      · cases q1
    · rw [List.getElem?_set_ne z] at q1
      have g := r.sl k s' o' q1 q2
      cases s' with
      | un => trivial
      | da d =>
        obtain ⟨v, e1, g⟩ := g
        exact ⟨v, e1, At.mono sF d v g⟩
      | ow es =>
        obtain ⟨l2, vs2, e1, g1, g2, g3, g4⟩ := g
        refine ⟨l2, vs2, e1, g1, Ats.mono sF es vs2 g2, ?_, g4⟩
        rw [upd_ne ?_]
        · exact g3
        · rintro rfl
          rw [e1] at q2
          exact r.ap i k ds es l2 z h q1 e q2
      | owd es =>
        obtain ⟨l2, e1, g1, g3, g4⟩ := g
        refine ⟨l2, e1, g1, ?_, g4⟩
        rw [upd_ne (fun z2 => by subst z2; rw [h1] at g1; cases g1)]
        exact g3
  · have a1 : i ≠ k := fun z => by
      subst z
      rw [List.getElem?_set] at q1
      simp only [if_true] at q1
      split at q1 <;> cases q1
    have a2 : i ≠ m := fun z => by
      subst z
      rw [List.getElem?_set] at q2
      simp only [if_true] at q2
      split at q2 <;> cases q2
    rw [List.getElem?_set_ne a1] at q1
    rw [List.getElem?_set_ne a2] at q2
    exact r.ap k m es fs l' hne q1 q2 q3 q4
theorem Rp.freeze {i : Nat} {ds : List Da} (r : Rp j S σ F H) (h : S[i]? = some (.ow ds)) : ∃ F', Same F F' ∧ Rp j (S.set i (.da (.lst ds))) σ F' H := by
  obtain ⟨l, vs, _, _, h1, h2⟩ := r.freeze' h
  exact ⟨_, h1, h2⟩
/-- an own list is changed in place -/
theorem Rp.change {i : Nat} {ds es : List Da} {l : Addr} {ws : List V} (r : Rp j S σ F H) (h : S[i]? = some (.ow ds)) (e : σ[i]? = some (some (.ref l))) (a : Ats j.X.K F es ws) : Rp j (S.set i (.ow es)) σ F (upd H l (.lst ws)) := by
  obtain ⟨l', vs, e', h1, h2, h3, h4⟩ := r.own h
  rw [e] at e'
  cases e'
  refine ⟨⟨fun a o q => ?_, r.f0, fun a o q => ?_, r.new⟩, by rw [List.length_set, r.len], fun k s' o' q1 q2 => ?_, fun k m fs gs l' hne q1 q2 q3 q4 => ?_⟩
  · rw [upd_ne (ne_of_none q h3)]
    exact r.ext _ _ q
  · rw [upd_ne (ne_of_none q h4)]
    exact r.h0 _ _ q
  · by_cases z : i = k
    · subst z
      rw [List.getElem?_set] at q1
      simp only [if_true] at q1
      split at q1
      · cases q1
        rw [e] at q2
        cases q2
        exact ⟨l, ws, rfl, upd_same, a, h3, h4⟩
      · cases q1
    · rw [List.getElem?_set_ne z] at q1
      have g := r.sl k s' o' q1 q2
      cases s' with
      | un => trivial
      | da d => exact g
      | ow fs =>
        obtain ⟨l2, vs2, e1, g1, g2, g3, g4⟩ := g
        refine ⟨l2, vs2, e1, ?_, g2, g3, g4⟩
        rw [upd_ne ?_]
        · exact g1
        · rintro rfl
          rw [e1] at q2
          exact r.ap i k ds fs l2 z h q1 e q2
      | owd es =>
        obtain ⟨l2, e1, g1, g3, g4⟩ := g
        refine ⟨l2, e1, ?_, g3, g4⟩
        rw [upd_ne (fun z2 => by subst z2; rw [h1] at g1; cases g1)]
        exact g1
  · have ow : ∀ (k : Nat) (fs : List Da), (S.set i (.ow es))[k]? = some (.ow fs) → ∃ gs, S[k]? = some (.ow gs) := fun k fs q => by
      by_cases z : i = k
      · subst z
        exact ⟨_, h⟩
      · rw [List.getElem?_set_ne z] at q
        exact ⟨_, q⟩
    obtain ⟨_, q1'⟩ := ow k fs q1
    obtain ⟨_, q2'⟩ := ow m gs q2
    exact r.ap k m _ _ l' hne q1' q2' q3 q4
end

/-! ### the weakest conditions, as readings -/
def wpE (X : Cx) (e : Expr) : TE := fun σ H Q => ∀ (pins : List (Addr × Obj)) (s : Shared), Inv X pins σ H s → wpAny (model X.prog X.w) X.A (eval e X.env) (EP X pins σ Q) X.xe s
def wpA (X : Cx) (es : List Expr) : TA := fun σ H Q => ∀ (pos : Pos) (pins : List (Addr × Obj)) (s : Shared), Inv X pins σ H s → wpAny (model X.prog X.w) X.A (spliced (backTo pos (starEach es X.env))) (AP X pins σ Q) X.xe s
def wpT (X : Cx) (e : Expr) : TT := fun σ H Q => ∀ (pins : List (Addr × Obj)) (s : Shared), Inv X pins σ H s → wpAny (model X.prog X.w) X.A (isTrue e X.env (eval e X.env)) (TP X pins σ Q) X.xe s
def wpW (X : Cx) (e : Expr) : TT := fun σ H Q => ∀ (whole : Sem Value) (pins : List (Addr × Obj)) (s : Shared), Inv X pins σ H s → wpAny (model X.prog X.w) X.A (isTrue e X.env whole) (TP X pins σ Q) X.xe s
def wpS (X : Cx) (st : Stmt) : TS := fun D σ H => ∀ (pins : List (Addr × Obj)) (s : Shared), Inv X pins σ H s → wpAny (model X.prog X.w) X.A (exec st X.env) (SP X pins D) X.xe s
def wpB (X : Cx) (sts : List Stmt) : TS := fun D σ H => ∀ (pins : List (Addr × Obj)) (s : Shared), Inv X pins σ H s → wpAny (model X.prog X.w) X.A (execs sts X.env) (SP X pins D) X.xe s
def wpI (X : Cx) (tg iter : Expr) : TI := fun σ H R => ∀ (pins : List (Addr × Obj)) (s : Shared), Inv X pins σ H s →
    wpAny (model X.prog X.w) X.A (eval iter X.env) (fun v s1 => wpAny (model X.prog X.w) X.A (pyIter v) (PIE X pins σ tg R) X.xe s1) X.xe s
def wpG (X : Cx) (tg : Expr) : TG := fun v σ H Q => ∀ (pins : List (Addr × Obj)) (s : Shared) (u : Value), Inv X pins σ H s → RelV v u →
    wpAny (model X.prog X.w) X.A (assign tg X.env u) (fun _ s' => ∃ σ' H', Inv X pins σ' H' s' ∧ Q σ' H') X.xe s
def wpO (X : Cx) (f : Value → Value → Sem Value) : R2 := fun x y H Q => ∀ (pins : List (Addr × Obj)) (s : Shared) (σ : L2.St) (v u : Value), Inv X pins σ H s → RelV x v → RelV y u →
    wpAny (model X.prog X.w) X.A (f v u) (EP X pins σ Q) X.xe s
def wpU (X : Cx) (f : Value → Sem Value) : V → Hp → VK → Prop := fun x H Q => ∀ (pins : List (Addr × Obj)) (s : Shared) (σ : L2.St) (v : Value), Inv X pins σ H s → RelV x v →
    wpAny (model X.prog X.w) X.A (f v) (EP X pins σ Q) X.xe s
def wpC (X : Cx) (f : Value) : List V → Hp → VK → Prop := fun xs H Q => ∀ (pins : List (Addr × Obj)) (s : Shared) (σ : L2.St) (us : List Value), Inv X pins σ H s → Vals xs us →
    wpAny (model X.prog X.w) X.A (call f us) (EP X pins σ Q) X.xe s
def wpM (X : Cx) (id : String) : V → List V → Hp → VK → Prop := fun x xs H Q => ∀ (pins : List (Addr × Obj)) (s : Shared) (σ : L2.St) (v : Value) (us : List Value), Inv X pins σ H s → RelV x v → Vals xs us →
    wpAny (model X.prog X.w) X.A (call (.builtin id) (v :: us)) (EP X pins σ Q) X.xe s
def wpX (X : Cx) : R2 := fun x y H Q => ∀ (value slice : Expr) (pins : List (Addr × Obj)) (s : Shared) (σ : L2.St) (v u : Value), Inv X pins σ H s → RelV x v → RelV y u →
    subscripted slice false v u = operate [v, u] (getItem v u) → wpAny (model X.prog X.w) X.A (subscriptTail value slice v u) (EP X pins σ Q) X.xe s
section
variable {X : Cx}
theorem pe_wp {e : Expr} : PE X e (wpE X e) := ⟨fun pins s σ H Q I h => h pins s I⟩
theorem pa_wp {es : List Expr} : PA X es (wpA X es) := ⟨fun pos pins s σ H Q I h => h pos pins s I⟩
theorem pt_wp {e : Expr} : PT X e (wpT X e) := ⟨fun pins s σ H Q I h => h pins s I⟩
theorem pw_wp {e : Expr} : PW X e (wpW X e) := ⟨fun w pins s σ H Q I h => h w pins s I⟩
theorem ps_wp {e : Stmt} : PS X e (wpS X e) := ⟨fun pins s σ H D I h => h pins s I⟩
theorem pss_wp {e : List Stmt} : PSs X e (wpB X e) := ⟨fun pins s σ H D I h => h pins s I⟩
theorem pi_wp {tg e : Expr} : PI X tg e (wpI X tg e) := ⟨fun pins s σ H R I h => h pins s I⟩
theorem pg_wp {tg : Expr} : PG X tg (wpG X tg) := ⟨fun pins s σ H v u Q I r h => h pins s u I r⟩
theorem op_wp {f : Value → Value → Sem Value} : OpR X f (wpO X f) := fun pins s σ H x y v u Q I r1 r2 h => h pins s σ v u I r1 r2
theorem un_wp {f : Value → Sem Value} : UnR X f (wpU X f) := fun pins s σ H x v Q I r1 h => h pins s σ v I r1
theorem call_wp {f : Value} : CallR X f (wpC X f) := fun pins s σ H xs us Q I r h => h pins s σ us I r
theorem mt_wp {id : String} : MtR X id (wpM X id) := fun pins s σ H x xs v us Q I r1 r h => h pins s σ v us I r1 r
theorem ix_wp : IxR X (wpX X) := fun value slice pins s σ H x y v u Q I r1 r2 h hs => h value slice pins s σ v u I r1 r2 hs
variable {σ : L2.St} {H : Hp}
theorem wp_pe {e : Expr} {t : TE} {Q : VK} (h : PE X e t) (q : t σ H Q) : wpE X e σ H Q := fun pins s I => h.run pins s σ H Q I q
theorem wp_pa {e : List Expr} {t : TA} {Q} (h : PA X e t) (q : t σ H Q) : wpA X e σ H Q := fun pos pins s I => h.run pos pins s σ H Q I q
theorem wp_pt {e : Expr} {t : TT} {Q} (h : PT X e t) (q : t σ H Q) : wpT X e σ H Q := fun pins s I => h.run pins s σ H Q I q
theorem wp_pw {e : Expr} {t : TT} {Q} (h : PW X e t) (q : t σ H Q) : wpW X e σ H Q := fun w pins s I => h.run w pins s σ H Q I q
theorem wp_ps {e : Stmt} {t : TS} {D} (h : PS X e t) (q : t D σ H) : wpS X e D σ H := fun pins s I => h.run pins s σ H D I q
theorem wp_pss {e : List Stmt} {t : TS} {D} (h : PSs X e t) (q : t D σ H) : wpB X e D σ H := fun pins s I => h.run pins s σ H D I q
theorem wp_pi {tg e : Expr} {t : TI} {R} (h : PI X tg e t) (q : t σ H R) : wpI X tg e σ H R := fun pins s I => h.run pins s σ H R I q
theorem wp_pg {tg : Expr} {t : TG} {v : V} {Q} (h : PG X tg t) (q : t v σ H Q) : wpG X tg v σ H Q := fun pins s u I r => h.run pins s σ H v u Q I r q
theorem wp_op {f : Value → Value → Sem Value} {r : R2} {x y : V} {Q : VK} (h : OpR X f r) (q : r x y H Q) : wpO X f x y H Q := fun pins s σ v u I r1 r2 => h pins s σ H x y v u Q I r1 r2 q
theorem wp_un {f : Value → Sem Value} {r} {x : V} {Q : VK} (h : UnR X f r) (q : r x H Q) : wpU X f x H Q := fun pins s σ v I r1 => h pins s σ H x v Q I r1 q
theorem wp_call {f : Value} {r} {xs : List V} {Q : VK} (h : CallR X f r) (q : r xs H Q) : wpC X f xs H Q := fun pins s σ us I r1 => h pins s σ H xs us Q I r1 q
theorem wp_mt {id : String} {r} {x : V} {xs : List V} {Q : VK} (h : MtR X id r) (q : r x xs H Q) : wpM X id x xs H Q := fun pins s σ v us I r1 r2 => h pins s σ H x xs v us Q I r1 r2 q
theorem wp_ix {r : R2} {x y : V} {Q : VK} (h : IxR X r) (q : r x y H Q) : wpX X x y H Q := fun value slice pins s σ v u I r1 r2 hs => h value slice pins s σ H x y v u Q I r1 r2 q hs
end
end DL
/-! DL2: expressions. -/
namespace DL
open PySem PySem.Spec PyProof.Rows L2
section
variable {j : J} {S : List Sl}
/-- e gives the datum d -/
def DE (j : J) (S : List Sl) (e : Expr) (d : Da) : Prop :=
  ∀ (σ : L2.St) (F H : Hp), Rp j S σ F H → ∀ QQ : VK, (∀ (v : V) (F' H' : Hp), Stp F H F' H' → At j.X.K F' d v → QQ v H') → wpE j.X e σ H QQ
/-- e lets out an exception that is wished for -/
def DN (j : J) (S : List Sl) (e : Expr) : Prop :=
  ∀ (σ : L2.St) (F H : Hp), Rp j S σ F H → ∀ QQ : VK, wpE j.X e σ H QQ
/-- arguments -/
def DA (j : J) (S : List Sl) (es : List Expr) (ds : List Da) : Prop :=
  ∀ (σ : L2.St) (F H : Hp), Rp j S σ F H → ∀ QQ : List V → Hp → Prop, (∀ (vs : List V) (F' H' : Hp), Stp F H F' H' → Ats j.X.K F' ds vs → QQ vs H') → wpA j.X es σ H QQ
def DAN (j : J) (S : List Sl) (es : List Expr) : Prop :=
  ∀ (σ : L2.St) (F H : Hp), Rp j S σ F H → ∀ QQ : List V → Hp → Prop, wpA j.X es σ H QQ
/-- a test -/
def DT (j : J) (S : List Sl) (e : Expr) (b : Bool) : Prop :=
  ∀ (σ : L2.St) (F H : Hp), Rp j S σ F H → ∀ QQ : Bool → Hp → Prop, (∀ (F' H' : Hp), Stp F H F' H' → QQ b H') → wpT j.X e σ H QQ
def DTw (j : J) (S : List Sl) (e : Expr) (b : Bool) : Prop :=
  ∀ (σ : L2.St) (F H : Hp), Rp j S σ F H → ∀ QQ : Bool → Hp → Prop, (∀ (F' H' : Hp), Stp F H F' H' → QQ b H') → wpW j.X e σ H QQ
/-- an operation on data -/
def OpD (j : J) (f : Value → Value → Sem Value) (x y z : Da) : Prop :=
  ∀ (F H : Hp), Same F H → ∀ (vx vy : V), At j.X.K F x vx → At j.X.K F y vy → ∀ QQ : VK, (∀ (v : V) (F' H' : Hp), Stp F H F' H' → At j.X.K F' z v → QQ v H') → wpO j.X f vx vy H QQ
def UnD (j : J) (f : Value → Sem Value) (x z : Da) : Prop :=
  ∀ (F H : Hp), Same F H → ∀ (vx : V), At j.X.K F x vx → ∀ QQ : VK, (∀ (v : V) (F' H' : Hp), Stp F H F' H' → At j.X.K F' z v → QQ v H') → wpU j.X f vx H QQ
def CallD (j : J) (f : Value) (ds : List Da) (z : Da) : Prop :=
  ∀ (F H : Hp), Same F H → ∀ (vs : List V), Ats j.X.K F ds vs → ∀ QQ : VK, (∀ (v : V) (F' H' : Hp), Stp F H F' H' → At j.X.K F' z v → QQ v H') → wpC j.X f vs H QQ
def IxD (j : J) (x y z : Da) : Prop :=
  ∀ (F H : Hp), Same F H → ∀ (vx vy : V), At j.X.K F x vx → At j.X.K F y vy → ∀ QQ : VK, (∀ (v : V) (F' H' : Hp), Stp F H F' H' → At j.X.K F' z v → QQ v H') → wpX j.X vx vy H QQ
def MtD (j : J) (id : String) (x : Da) (ds : List Da) (z : Da) : Prop :=
  ∀ (F H : Hp), Same F H → ∀ (vx : V) (vs : List V), At j.X.K F x vx → Ats j.X.K F ds vs → ∀ QQ : VK, (∀ (v : V) (F' H' : Hp), Stp F H F' H' → At j.X.K F' z v → QQ v H') → wpM j.X id vx vs H QQ

theorem de_is {e : Expr} {d d' : Da} (h : DE j S e d) (q : d = d') : DE j S e d' := q ▸ h
theorem dt_is {e : Expr} {b b' : Bool} (h : DT j S e b) (q : b = b') : DT j S e b' := q ▸ h

/-! names, constants -/
structure NM (X : Cx) (x : Str) (i : Nat) : Prop where
  N : X.N[i]? = some x
  v : Vis X.env.scope x
  d : (x == ("__debug__" : Str)) = false
  c : (x == ("__classdict__" : Str)) = false
theorem de_nm {x : Str} {i : Nat} {d : Da} {pos : Pos} (h : NM j.X x i) (hs : S[i]? = some (.da d)) : DE j S (.Name x pos) d := fun σ F H rp QQ k => by
  obtain ⟨v, e, a⟩ := rp.get hs
  exact wp_pe (pe_var h.N h.v h.d h.c) ⟨v, e, k v F H (.refl rp.ext) a⟩
theorem de_int {i : Int} {k : Nat} {pos : Pos} : DE j S (.Constant (.int i) k pos) (.int i) := fun σ F H rp QQ k => wp_pe pe_int (k _ F H (.refl rp.ext) rfl)
theorem de_bl {i : Bool} {k : Nat} {pos : Pos} : DE j S (.Constant (.bool i) k pos) (.bl i) := fun σ F H rp QQ k => wp_pe pe_bl (k _ F H (.refl rp.ext) rfl)
theorem de_str {i : String} {k : Nat} {pos : Pos} : DE j S (.Constant (.str i) k pos) (.str i) := fun σ F H rp QQ k => wp_pe pe_str (k _ F H (.refl rp.ext) rfl)
theorem de_non {k : Nat} {pos : Pos} : DE j S (.Constant .none k pos) .non := fun σ F H rp QQ k => wp_pe pe_non (k _ F H (.refl rp.ext) rfl)
/-- a constant of the module -/
structure GlobD (K : PySem.W.Frag) (mg : Str → Option Value) (x : Str) (d : Da) : Prop where
  ex : ∃ v u, mg x = some u ∧ RelV v u ∧ ∀ F, At K F d v
  db : (x == ("__debug__" : Str)) = false
theorem de_glob {K : PySem.W.Frag} {mg : Str → Option Value} {x : Str} {d : Da} {pos : Pos} (h : GlobD K mg x d) (hg : Gl j.X x := by rfl) (eK : j.X.K = K := by rfl) (em : j.X.mg = mg := by rfl) : DE j S (.Name x pos) d := fun σ F H rp QQ k => by
  subst eK em
  obtain ⟨v, u, hm, r, a⟩ := h.ex
  exact wp_pe (pe_glob hg hm r h.db) (k v F H (.refl rp.ext) (a F))
/-- a name that the module leaves to the built-ins -/
structure FreeN (mg : Str → Option Value) (x : Str) : Prop where
  m : mg x = none
  n : x ≠ "__name__"
  db : (x == ("__debug__" : Str)) = false
theorem de_ty {mg : Str → Option Value} {x : Str} {n : String} {pos : Pos} (h : FreeN mg x) (hv : bootBuiltins x = some (.type n)) (hg : Gl j.X x := by rfl) (em : j.X.mg = mg := by rfl) : DE j S (.Name x pos) (.ty n) := fun σ F H rp QQ k => by
  subst em
  exact wp_pe (pe_bltn (v := .ty n) hg h.m hv rfl h.n h.db) (k _ F H (.refl rp.ext) rfl)

/-! operations -/
theorem de_bin {a b : Expr} {op : Operator} {x y z : Da} {pos : Pos} (ha : DE j S a x) (hb : DE j S b y) (ho : OpD j (binaryOp op) x y z) : DE j S (.BinOp a op b pos) z := fun σ F H rp QQ k =>
  wp_pe (pe_op op_wp pe_wp pe_wp) (ha σ F H rp _ fun v F1 H1 s1 a1 => hb σ F1 H1 (rp.step s1) _ fun u F2 H2 s2 a2 =>
    ho F2 H2 s2.e v u (At.mono s2.f _ _ a1) a2 _ fun w F3 H3 s3 a3 => k w F3 H3 ((s1.trans s2).trans s3) a3)
theorem dn_bin1 {a b : Expr} {op : Operator} {pos : Pos} (ha : DN j S a) : DN j S (.BinOp a op b pos) := fun σ F H rp QQ => wp_pe (pe_op op_wp pe_wp pe_wp) (ha σ F H rp _)
theorem dn_bin2 {a b : Expr} {op : Operator} {x : Da} {pos : Pos} (ha : DE j S a x) (hb : DN j S b) : DN j S (.BinOp a op b pos) := fun σ F H rp QQ =>
  wp_pe (pe_op op_wp pe_wp pe_wp) (ha σ F H rp _ fun v F1 H1 s1 a1 => hb σ F1 H1 (rp.step s1) _)
theorem de_un {a : Expr} {op : UnaryOp} {x z : Da} {pos : Pos} (ha : DE j S a x) (ho : UnD j (unaryOp op) x z) : DE j S (.UnaryOp op a pos) z := fun σ F H rp QQ k =>
  wp_pe (pe_un un_wp pe_wp) (ha σ F H rp _ fun v F1 H1 s1 a1 => ho F1 H1 s1.e v a1 _ fun w F3 H3 s3 a3 => k w F3 H3 (s1.trans s3) a3)
theorem de_cmp {a b : Expr} {op : CmpOp} {x y z : Da} {pos : Pos} (ha : DE j S a x) (hb : DE j S b y) (ho : OpD j (compareOp op) x y z) (hm : behindInMarks op b = false := by first | exact nomark _ | rfl) : DE j S (.Compare a [op] [b] pos) z := fun σ F H rp QQ k =>
  wp_pe (pe_cmpR op_wp pe_wp pe_wp hm) (ha σ F H rp _ fun v F1 H1 s1 a1 => hb σ F1 H1 (rp.step s1) _ fun u F2 H2 s2 a2 =>
    ho F2 H2 s2.e v u (At.mono s2.f _ _ a1) a2 _ fun w F3 H3 s3 a3 => k w F3 H3 ((s1.trans s2).trans s3) a3)
theorem dt_cmp {a b : Expr} {op : CmpOp} {x y : Da} {c : Bool} {pos : Pos} (ha : DE j S a x) (hb : DE j S b y) (ho : OpD j (compareOp op) x y (.bl c)) (hm : behindInMarks op b = false := by first | exact nomark _ | rfl) : DT j S (.Compare a [op] [b] pos) c := fun σ F H rp QQ k =>
  wp_pt (pt_cmpR op_wp pe_wp pe_wp hm) (ha σ F H rp _ fun v F1 H1 s1 a1 => hb σ F1 H1 (rp.step s1) _ fun u F2 H2 s2 a2 =>
    ho F2 H2 s2.e v u (At.mono s2.f _ _ a1) a2 _ fun w F3 H3 s3 a3 => ⟨c, a3, k F3 H3 ((s1.trans s2).trans s3)⟩)
/-- a test whose left side lets out an exception -/
def DTN (j : J) (S : List Sl) (e : Expr) : Prop := ∀ (σ : L2.St) (F H : Hp), Rp j S σ F H → ∀ QQ : Bool → Hp → Prop, wpT j.X e σ H QQ
theorem de_chain {a b c : Expr} {op op' : CmpOp} {x y z : Da} {k k' : Bool} {pos : Pos} (ha : DE j S a x) (hb : DE j S b y) (ho : OpD j (compareOp op) x y (.bl k)) (hc : k = true → DE j S c z) (ho' : k = true → OpD j (compareOp op') y z (.bl k'))
    (hm : lastMarks [op, op'] [b, c] = false := by with_unfolding_all rfl) : DE j S (.Compare a [op, op'] [b, c] pos) (.bl (k && k')) := fun σ F H rp QQ kk =>
  wp_pe (pe_chain op_wp op_wp pe_wp pe_wp pe_wp hm) (ha σ F H rp _ fun v F1 H1 s1 a1 => hb σ F1 H1 (rp.step s1) _ fun u F2 H2 s2 a2 =>
    ho F2 H2 s2.e v u (At.mono s2.f _ _ a1) a2 _ fun w F3 H3 s3 a3 => ⟨k, a3, by
      cases k with
      | false => exact iteF (kk _ F3 H3 ((s1.trans s2).trans s3) rfl)
      | true =>
        exact iteT (hc rfl σ F3 H3 (((rp.step s1).step s2).step s3) _ fun t F4 H4 s4 a4 => ho' rfl F4 H4 s4.e u t (At.mono (s3.f.trans s4.f) _ _ a2) a4 _ fun r F5 H5 s5 a5 => kk r F5 H5 (((s1.trans s2).trans s3).trans (s4.trans s5)) a5)⟩)
theorem dt_chain {a b c : Expr} {op op' : CmpOp} {x y z : Da} {k k' : Bool} {pos : Pos} (ha : DE j S a x) (hb : DE j S b y) (ho : OpD j (compareOp op) x y (.bl k)) (hc : k = true → DE j S c z) (ho' : k = true → OpD j (compareOp op') y z (.bl k'))
    (hm : lastMarks [op, op'] [b, c] = false := by with_unfolding_all rfl) : DT j S (.Compare a [op, op'] [b, c] pos) (k && k') := fun σ F H rp QQ kk =>
  wp_pt (pt_chain op_wp op_wp pe_wp pe_wp pe_wp hm) (ha σ F H rp _ fun v F1 H1 s1 a1 => hb σ F1 H1 (rp.step s1) _ fun u F2 H2 s2 a2 =>
    ho F2 H2 s2.e v u (At.mono s2.f _ _ a1) a2 _ fun w F3 H3 s3 a3 => ⟨k, a3, by
      cases k with
      | false => exact iteF ⟨false, rfl, kk F3 H3 ((s1.trans s2).trans s3)⟩
      | true =>
        exact iteT (hc rfl σ F3 H3 (((rp.step s1).step s2).step s3) _ fun t F4 H4 s4 a4 => ho' rfl F4 H4 s4.e u t (At.mono (s3.f.trans s4.f) _ _ a2) a4 _ fun r F5 H5 s5 a5 => ⟨k', a5, kk F5 H5 (((s1.trans s2).trans s3).trans (s4.trans s5))⟩)⟩)
/-! tests -/
theorem dt_val {e : Expr} {b : Bool} (h : DE j S e (.bl b)) (he : ∀ whole, isTrue e j.X.env whole = (do let v ← whole; standAt e.pos; holding [v] (truthy v)) := by intro _; rfl) : DT j S e b := fun σ F H rp QQ k =>
  wp_pt (pt_val pe_wp he) (h σ F H rp _ fun v F1 H1 s1 a1 => ⟨b, a1, k F1 H1 s1⟩)
theorem dt_w {e : Expr} {b : Bool} (h : DTw j S e b) : DT j S e b := fun σ F H rp QQ k => wp_pt (PW.pt pw_wp) (h σ F H rp _ k)
theorem dw_and1 {a : Expr} {b : Bool} {pos : Pos} (h : DT j S a b) : DTw j S (.BoolOp .And [a] pos) b := fun σ F H rp QQ k => wp_pw (pw_and1 pt_wp) (h σ F H rp _ k)
theorem dw_or1 {a : Expr} {b : Bool} {pos : Pos} (h : DT j S a b) : DTw j S (.BoolOp .Or [a] pos) b := fun σ F H rp QQ k => wp_pw (pw_or1 pt_wp) (h σ F H rp _ k)
theorem dw_and {a b : Expr} {rest : List Expr} {x y : Bool} {pos : Pos} (ha : DT j S a x) (hb : x = true → DTw j S (.BoolOp .And (b :: rest) pos) y) : DTw j S (.BoolOp .And (a :: b :: rest) pos) (x && y) := fun σ F H rp QQ k =>
  wp_pw (pw_and pt_wp pw_wp) (ha σ F H rp _ fun F1 H1 s1 => by
    cases x with
    | false => exact iteF (k F1 H1 s1)
    | true => exact iteT (hb rfl σ F1 H1 (rp.step s1) _ fun F2 H2 s2 => k F2 H2 (s1.trans s2)))
theorem dw_or {a b : Expr} {rest : List Expr} {x y : Bool} {pos : Pos} (ha : DT j S a x) (hb : x = false → DTw j S (.BoolOp .Or (b :: rest) pos) y) : DTw j S (.BoolOp .Or (a :: b :: rest) pos) (x || y) := fun σ F H rp QQ k =>
  wp_pw (pw_or pt_wp pw_wp) (ha σ F H rp _ fun F1 H1 s1 => by
    cases x with
    | true => exact iteT (k F1 H1 s1)
    | false => exact iteF (hb rfl σ F1 H1 (rp.step s1) _ fun F2 H2 s2 => k F2 H2 (s1.trans s2)))
theorem dt_not {a : Expr} {b : Bool} {pos : Pos} (h : DT j S a b) : DT j S (.UnaryOp .Not a pos) (!b) := fun σ F H rp QQ k => wp_pt (pt_not pt_wp) (h σ F H rp _ fun F1 H1 s1 => k F1 H1 s1)
theorem de_one {op : BoolOp} {a : Expr} {d : Da} {pos : Pos} (h : DE j S a d) : DE j S (.BoolOp op [a] pos) d := fun σ F H rp QQ k => wp_pe (pe_one pe_wp) (h σ F H rp _ k)
theorem de_and {a b : Expr} {rest : List Expr} {x y : Bool} {pos : Pos} (ha : DE j S a (.bl x)) (hb : x = true → DE j S (.BoolOp .And (b :: rest) pos) (.bl y)) : DE j S (.BoolOp .And (a :: b :: rest) pos) (.bl (x && y)) := fun σ F H rp QQ k =>
  wp_pe (pe_and pe_wp pe_wp) (ha σ F H rp _ fun v F1 H1 s1 a1 => ⟨x, a1, by
    cases x with
    | false => exact iteF (k _ F1 H1 s1 rfl)
    | true => exact iteT (hb rfl σ F1 H1 (rp.step s1) _ fun w F2 H2 s2 a2 => k w F2 H2 (s1.trans s2) a2)⟩)
theorem de_or {a b : Expr} {rest : List Expr} {x y : Bool} {pos : Pos} (ha : DE j S a (.bl x)) (hb : x = false → DE j S (.BoolOp .Or (b :: rest) pos) (.bl y)) : DE j S (.BoolOp .Or (a :: b :: rest) pos) (.bl (x || y)) := fun σ F H rp QQ k =>
  wp_pe (pe_or pe_wp pe_wp) (ha σ F H rp _ fun v F1 H1 s1 a1 => ⟨x, a1, by
    cases x with
    | true => exact iteT (k _ F1 H1 s1 rfl)
    | false => exact iteF (hb rfl σ F1 H1 (rp.step s1) _ fun w F2 H2 s2 a2 => k w F2 H2 (s1.trans s2) a2)⟩)
theorem de_not {a : Expr} {b : Bool} {pos : Pos} (h : DE j S a (.bl b)) : DE j S (.UnaryOp .Not a pos) (.bl (!b)) := fun σ F H rp QQ k => wp_pe (pe_not pe_wp) (h σ F H rp _ fun v F1 H1 s1 a1 => ⟨b, a1, k _ F1 H1 s1 rfl⟩)
theorem de_ife {c a b : Expr} {t : Bool} {d : Da} {pos : Pos} (hc : DT j S c t) (ha : t = true → DE j S a d) (hb : t = false → DE j S b d) : DE j S (.IfExp c a b pos) d := fun σ F H rp QQ k =>
  wp_pe (pe_ifExp pt_wp pe_wp pe_wp) (hc σ F H rp _ fun F1 H1 s1 => by
    cases t with
    | true => exact iteT (ha rfl σ F1 H1 (rp.step s1) _ fun w F2 H2 s2 a2 => k w F2 H2 (s1.trans s2) a2)
    | false => exact iteF (hb rfl σ F1 H1 (rp.step s1) _ fun w F2 H2 s2 a2 => k w F2 H2 (s1.trans s2) a2))
/-! displays -/
theorem da_nil : DA j S [] [] := fun σ F H rp QQ k => wp_pa pa_nil (k _ F H (.refl rp.ext) rfl)
theorem da_cons {e : Expr} {es : List Expr} {d : Da} {ds : List Da} (h : DE j S e d) (hr : DA j S es ds) (hs : starEach (e :: es) j.X.env = (false, eval e j.X.env) :: starEach es j.X.env := by rfl) : DA j S (e :: es) (d :: ds) := fun σ F H rp QQ k =>
  wp_pa (pa_cons pe_wp pa_wp hs) (h σ F H rp _ fun v F1 H1 s1 a1 => hr σ F1 H1 (rp.step s1) _ fun vs F2 H2 s2 a2 => k _ F2 H2 (s1.trans s2) ⟨v, vs, rfl, At.mono s2.f _ _ a1, a2⟩)
theorem dan_1 {e : Expr} {es : List Expr} (h : DN j S e) (hs : starEach (e :: es) j.X.env = (false, eval e j.X.env) :: starEach es j.X.env := by rfl) : DAN j S (e :: es) := fun σ F H rp QQ => wp_pa (pa_cons pe_wp pa_wp hs) (h σ F H rp _)
theorem sz_le {n : Nat} (h : n ≤ 1000000) : n ≤ sizeLine := Nat.le_trans h (by decide)
theorem sz_lt {n : Nat} (h : n < 1000000) : n < sizeLine := Nat.lt_of_lt_of_le h (by decide)
theorem de_tup {es : List Expr} {ds : List Da} {k : Nat} {pos : Pos} (h : DA j S es ds) (hz : ds.length ≤ 1000000 := by simp) : DE j S (.Tuple es k pos) (.tup ds) := fun σ F H rp QQ k =>
  wp_pe (pe_tup pa_wp) (h σ F H rp _ fun vs F1 H1 s1 a1 => ⟨by rw [a1.length]; exact sz_le hz, fun p hp =>
    have st := Stp.alloc s1.e hp (.tup vs)
    k _ _ _ (s1.trans st) ⟨p, vs, rfl, upd_same, Ats.mono st.f _ _ a1⟩⟩)
theorem de_lst {es : List Expr} {ds : List Da} {pos : Pos} (h : DA j S es ds) (hz : ds.length ≤ 1000000 := by simp) : DE j S (.List es pos) (.lst ds) := fun σ F H rp QQ k =>
  wp_pe (pe_lst pa_wp) (h σ F H rp _ fun vs F1 H1 s1 a1 => ⟨by rw [a1.length]; exact sz_le hz, fun p hp =>
    have st := Stp.alloc s1.e hp (.lst vs)
    k _ _ _ (s1.trans st) ⟨p, vs, rfl, upd_same, Ats.mono st.f _ _ a1⟩⟩)
theorem de_dic {pos : Pos} : DE j S (.Dict [] [] pos) .dic := fun σ F H rp QQ k =>
  wp_pe pe_dnewK (fun p hp =>
    have st := Stp.alloc rp.ext hp (.dK [])
    k _ _ _ st ⟨p, rfl, upd_same⟩)
/-! calls of built-ins -/
theorem de_callB {mg : Str → Option Value} {x : Str} {id : String} {p pos : Pos} {e : Expr} {es : List Expr} {ds : List Da} {z : Da} (h : FreeN mg x) (hv : bootBuiltins x = some (.builtin id)) (ha : DA j S (e :: es) ds) (hc : CallD j (.builtin id) ds z)
    (hg : Gl j.X x := by rfl) (em : j.X.mg = mg := by rfl) (he : starEach (e :: es) j.X.env = (false, eval e j.X.env) :: starEach es j.X.env := by rfl) (hpl : (backTo pos (starEach es j.X.env)).any (·.1) = false := by rfl) : DE j S (.Call (.Name x p) (e :: es) [] pos) z := fun σ F H rp QQ k => by
  subst em
  exact wp_pe (pe_callB call_wp hg h.m hv pa_wp h.n h.db he hpl) (ha σ F H rp _ fun vs F1 H1 s1 a1 => hc F1 H1 s1.e vs a1 _ fun v F2 H2 s2 a2 => k v F2 H2 (s1.trans s2) a2)
theorem de_callTy {mg : Str → Option Value} {x : Str} {T : String} {p pos : Pos} {e : Expr} {es : List Expr} {ds : List Da} {z : Da} (h : FreeN mg x) (hv : bootBuiltins x = some (.type T)) (ha : DA j S (e :: es) ds) (hc : CallD j (.type T) ds z)
    (hg : Gl j.X x := by rfl) (em : j.X.mg = mg := by rfl) (he : starEach (e :: es) j.X.env = (false, eval e j.X.env) :: starEach es j.X.env := by rfl) (hpl : (backTo pos (starEach es j.X.env)).any (·.1) = false := by rfl) : DE j S (.Call (.Name x p) (e :: es) [] pos) z := fun σ F H rp QQ k => by
  subst em
  exact wp_pe (pe_callTy call_wp hg h.m hv pa_wp h.n h.db he hpl) (ha σ F H rp _ fun vs F1 H1 s1 a1 => hc F1 H1 s1.e vs a1 _ fun v F2 H2 s2 a2 => k v F2 H2 (s1.trans s2) a2)
/-! subscripts, slices, fields, methods of built-in types -/
theorem de_ix {a b : Expr} {x y z : Da} {pos : Pos} (ha : DE j S a x) (hb : DE j S b y) (ho : IxD j x y z) (hs : PlainIx b := by exact fun _ _ => rfl) : DE j S (.Subscript a b pos) z := fun σ F H rp QQ k =>
  wp_pe (pe_ix ix_wp pe_wp pe_wp hs) (ha σ F H rp _ fun v F1 H1 s1 a1 => hb σ F1 H1 (rp.step s1) _ fun u F2 H2 s2 a2 =>
    ho F2 H2 s2.e v u (At.mono s2.f _ _ a1) a2 _ fun w F3 H3 s3 a3 => k w F3 H3 ((s1.trans s2).trans s3) a3)
/-- a part of a slice -/
def DP (j : J) (S : List Sl) (e : Option Expr) (o : Option Int) : Prop := match e, o with
  | none, none => True
  | some e, some i => DE j S e (.int i)
  | _, _ => False
def wpP (X : Cx) (e : Option Expr) : TO := fun σ H Q => ∀ (pins : List (Addr × Obj)) (s : Shared), Inv X pins σ H s → wpAny (model X.prog X.w) X.A (evalPart e X.env) (fun u s' => ∃ o H', Inv X pins σ H' s' ∧ IsPart u o ∧ Q o H') X.xe s
theorem po_wp {X : Cx} {e : Option Expr} : PO X e (wpP X e) := ⟨fun pins s σ H Q I h => h pins s I⟩
theorem wp_po {X : Cx} {e : Option Expr} {t : TO} {σ : L2.St} {H : Hp} {Q} (h : PO X e t) (q : t σ H Q) : wpP X e σ H Q := fun pins s I => h.run pins s σ H Q I q
theorem DP.run {e : Option Expr} {o : Option Int} (h : DP j S e o) {σ : L2.St} {F H : Hp} (rp : Rp j S σ F H) {QQ : Option Int → Hp → Prop} (k : ∀ (F' H' : Hp), Stp F H F' H' → QQ o H') : wpP j.X e σ H QQ := by
  cases e with
  | none =>
    cases o with
    | none => exact wp_po po_none (k F H (.refl rp.ext))
    | some i => exact h.elim
  | some e =>
    cases o with
    | none => exact h.elim
    | some i => exact wp_po (po_some pe_wp) ((show DE j S e (.int i) from h) σ F H rp _ fun v F1 H1 s1 a1 => ⟨i, a1, k F1 H1 s1⟩)
def SlD (j : J) (x : Da) (lo hi : Option Int) (z : Da) : Prop :=
  ∃ r, SlR j.X r ∧ ∀ (F H : Hp), Same F H → ∀ (vx : V), At j.X.K F x vx → ∀ QQ : VK, (∀ (v : V) (F' H' : Hp), Stp F H F' H' → At j.X.K F' z v → QQ v H') → r vx lo hi H QQ
theorem de_slice {e : Expr} {lo hi : Option Expr} {l h : Option Int} {x z : Da} {p2 pos : Pos} (he : DE j S e x) (hl : DP j S lo l) (hh : DP j S hi h) (hs : SlD j x l h z) : DE j S (.Subscript e (.Slice lo hi none p2) pos) z := fun σ F H rp QQ k => by
  obtain ⟨r, hr, hq⟩ := hs
  exact wp_pe (pe_slice hr pe_wp po_wp po_wp) (he σ F H rp _ fun v F1 H1 s1 a1 => hl.run (rp.step s1) fun F2 H2 s2 => hh.run ((rp.step s1).step s2) fun F3 H3 s3 =>
    hq F3 H3 s3.e v (At.mono (s2.f.trans s3.f) _ _ a1) _ fun w F4 H4 s4 a4 => k w F4 H4 ((s1.trans s2).trans (s3.trans s4)) a4)
/-- xs[::-1] of a list -/
theorem de_revL {e : Expr} {ds : List Da} {k : Nat} {p1 p2 p3 pos : Pos} (he : DE j S e (.lst ds)) : DE j S (.Subscript e (.Slice none none (some (.UnaryOp .USub (.Constant (.int 1) k p1) p2)) p3) pos) (.lst ds.reverse) := fun σ F H rp QQ k =>
  wp_pe (pe_revL pe_wp) (he σ F H rp _ fun v F1 H1 s1 ⟨a, vs, e1, e2, a1⟩ => ⟨a, vs, e1, .of (s1.e _ _ e2), fun p hp =>
    have st := Stp.alloc s1.e hp (.lst vs.reverse)
    k _ _ _ (s1.trans st) ⟨p, _, rfl, upd_same, Ats.mono st.f _ _ a1.reverse⟩⟩)
theorem lookup_zip {f : Str} : ∀ {ns : List Str} {vs : List V} {i : Nat} {v : V}, ns.idxOf f = i → ns[i]? = some f → vs[i]? = some v → (ns.zip vs).lookup f = some v
  | [], _, i, _, _, h, _ => by simp at h
  | n :: ns, [], i, _, _, _, h => by simp at h
  | n :: ns, w :: vs, i, v, hi, h1, h2 => by
    rw [List.zip_cons_cons, List.lookup_cons]
    by_cases e : n = f
    · subst e
      rw [List.idxOf_cons_self] at hi
      subst hi
      simp only [beq_self_eq_true]
      simpa using h2
    · rw [List.idxOf_cons, show (n == f) = false from beq_eq_false_iff_ne.mpr e] at hi
      rw [show (f == n) = false from beq_eq_false_iff_ne.mpr (Ne.symm e)]
      simp only [cond_false] at hi
      subst hi
      exact lookup_zip rfl (by simpa using h1) (by simpa using h2)
theorem lookup_zip_none {f : Str} : ∀ {ns : List Str} {vs : List V}, f ∉ ns → (ns.zip vs).lookup f = none
  | [], _, _ => rfl
  | n :: ns, [], _ => by simp
  | n :: ns, w :: vs, h => by
    rw [List.zip_cons_cons, List.lookup_cons, show (f == n) = false from beq_eq_false_iff_ne.mpr fun e => h (e ▸ List.mem_cons_self)]
    exact lookup_zip_none fun q => h (List.mem_cons_of_mem _ q)
/-- what is known of a field of a class's instances -/
structure FldD (K : PySem.W.Frag) (C : Addr) (ns : List Str) (f : Str) (i : Nat) : Prop where
  cl : Cls K C
  no : NoAttr K C f
  ix : ns.idxOf f = i
  at_ : ns[i]? = some f
theorem de_fld {K : PySem.W.Frag} {e : Expr} {C : Addr} {ns : List Str} {ds : List Da} {f : Str} {i : Nat} {d : Da} {pos : Pos} (he : DE j S e (.ob C ns ds)) (hf : FldD K C ns f i) (hd : ds[i]? = some d)
    (hb : attributeBase e f j.X.env (eval e j.X.env) = eval e j.X.env := by rfl) (eK : j.X.K = K := by rfl) : DE j S (.Attribute e f pos) d := fun σ F H rp QQ k => by
  subst eK
  refine wp_pe (pe_fld pe_wp hb) (he σ F H rp _ fun v F1 H1 s1 ⟨a, dx, vs, e1, e2, hl, a1⟩ => ?_)
  obtain ⟨w, h1, h2⟩ := a1.get hd
  exact ⟨a, C, dx, _, w, e1, s1.e _ _ e2, hf.cl, hf.no, lookup_zip hf.ix hf.at_ h1, k w F1 H1 s1 h2⟩
theorem de_bm {T id : String} {name : Str} {o e : Expr} {es : List Expr} {x : Da} {ds : List Da} {z : Da} {apos cpos : Pos} (pa : PlainAttrs T) (slot : Slot T name id) (hty : typeOf (.builtin id) = pure (.type "method_descriptor"))
    (ho : DE j S o x) (ha : DA j S (e :: es) ds) (hm : MtD j id x ds z) (ty : ∀ F v, At j.X.K F x v → tyV j.X.K T v F)
    (hbase : attributeBase o name j.X.env (eval o j.X.env) = eval o j.X.env := by rfl)
    (hfew : ((backTo cpos (starEach (e :: es) j.X.env)).all (fun x => !x.1) && (backToKw cpos (keywordEach [] j.X.env)).all (fun x => x.1.isSome)
      && decide ((e :: es).length + ([] : List Keyword).length + (if ([] : List Keyword).isEmpty then 0 else 1) < 30)) = true := by rfl)
    (hline : (apos.endLine == cpos.line) = true := by rfl) (hs : starEach (e :: es) j.X.env = (false, eval e j.X.env) :: starEach es j.X.env := by rfl) (hplain : (backTo cpos (starEach es j.X.env)).any (·.1) = false := by rfl) :
    DE j S (.Call (.Attribute o name apos) (e :: es) [] cpos) z := fun σ F H rp QQ k =>
  wp_pe (pe_bm pa slot hty mt_wp pe_wp pa_wp hbase hfew hline hs hplain) (ho σ F H rp _ fun v F1 H1 s1 a1 => ⟨ty H1 v (At.mono s1.e _ _ a1), ha σ F1 H1 (rp.step s1) _ fun vs F2 H2 s2 a2 =>
    hm F2 H2 s2.e v vs (At.mono s2.f _ _ a1) a2 _ fun w F3 H3 s3 a3 => k w F3 H3 ((s1.trans s2).trans s3) a3⟩)
end
end DL
/-! DL3: defs, calls, statements. -/
namespace DL
open PySem PySem.Spec PyProof.Rows L2
/-- the promise of a def that lets nothing out: G args result -/
def sp0 (K : PySem.W.Frag) (G : List Da → Da → Prop) : Sp := fun vs H Q _ => ∃ F ds d, Same F H ∧ Ats K F ds vs ∧ G ds d ∧ ∀ v F' H', Stp F H F' H' → At K F' d v → Q v H'
/-- .. of one that may raise: Xc args class -/
def spX (K : PySem.W.Frag) (G : List Da → Da → Prop) (Xc : List Da → Addr → Prop) : Sp := fun vs H Q E => ∃ F ds, Same F H ∧ Ats K F ds vs ∧
  ((∃ d, G ds d ∧ ∀ v F' H', Stp F H F' H' → At K F' d v → Q v H') ∨ ∃ C, Xc ds C ∧ ∀ H', Same H H' → E (.ref C) none H')
/-- .. of an __init__ of the class at C -/
def spI (K : PySem.W.Frag) (C : Addr) (G : List Da → Da → Prop) (Xc : List Da → Addr → Prop) : Sp := fun vs H Q E => ∃ F ds p dx vs', vs = .ref p :: vs' ∧ H p = some (.ins C dx []) ∧ F p = none ∧ Same F H ∧ Ats K F ds vs' ∧
  ((∃ d, G ds d ∧ ∀ F' H', Same F F' → Same F' H' → (∀ b o, b ≠ p → H b = some o → H' b = some o) → (∀ a o, F' a = some o → F a = some o ∨ a = p ∨ H a = none) → At K F' d (.ref p) → Q .non H') ∨
    ∃ C', Xc ds C' ∧ ∀ H', (∀ b o, b ≠ p → H b = some o → H' b = some o) → E (.ref C') none H')
/-- one row's world -/
structure On (X : Cx) (P : Program) (w : World) (K : PySem.W.Frag) (mg : Str → Option Value) (base : Heap) : Prop where
  p : X.prog = P
  w : X.w = w
  k : X.K = K
  m : X.mg = mg
  b : X.base = base
section
variable (P : Program) (w : World) (K : PySem.W.Frag) (mg : Str → Option Value) (base : Heap)
structure Fn0 (k : Nat) (x : Str) (G : List Da → Da → Prop) : Prop where
  ex : ∃ f fd ps, FnOk P w K mg base CX0 k f fd ps (sp0 K G) ∧ mg x = some (.ref f) ∧ PySem.W.keepIn K (.ref f) = true ∧ Binds K fd ps []
  db : (x == ("__debug__" : Str)) = false
structure FnX (k : Nat) (x : Str) (G : List Da → Da → Prop) (Xc : List Da → Addr → Prop) : Prop where
  ex : ∃ f fd ps, FnOk P w K mg base (L2.CX P w) k f fd ps (spX K G Xc) ∧ mg x = some (.ref f) ∧ PySem.W.keepIn K (.ref f) = true ∧ Binds K fd ps []
  db : (x == ("__debug__" : Str)) = false
structure Me0 (k : Nat) (C : Addr) (m : Str) (G : List Da → Da → Prop) : Prop where
  ex : ∃ f fd ps, FnOk P w K mg base CX0 k f fd ps (sp0 K G) ∧ Meth K C m f ∧ Binds K fd ps []
  cl : Cls K C
structure MeX (k : Nat) (C : Addr) (m : Str) (G : List Da → Da → Prop) (Xc : List Da → Addr → Prop) : Prop where
  ex : ∃ f fd ps, FnOk P w K mg base (L2.CX P w) k f fd ps (spX K G Xc) ∧ Meth K C m f ∧ Binds K fd ps []
  cl : Cls K C
structure MkX (k : Nat) (x : Str) (C : Addr) (G : List Da → Da → Prop) (Xc : List Da → Addr → Prop) : Prop where
  ex : ∃ f fd ps, FnOk P w K mg base (L2.CX P w) k f fd ps (spI K C G Xc) ∧ Mk K C f ∧ Binds K fd ps []
  m : mg x = some (.ref C)
  db : (x == ("__debug__" : Str)) = false
end
section
variable {P : Program} {w : World} {K : PySem.W.Frag} {mg : Str → Option Value} {base : Heap} {j : J} {S : List Sl} {k n : Nat} {x : Str} {G : List Da → Da → Prop} {Xc : List Da → Addr → Prop} {p pos apos : Pos} {e o : Expr} {es : List Expr} {ds : List Da} {d : Da} {C : Addr}
theorem de_call0 (h : Fn0 P w K mg base k x G) (hr : Room n j.X.A) (hk : k ≤ n) (ha : DA j S (e :: es) ds) (g : G ds d) (on : On j.X P w K mg base := by exact ⟨rfl, rfl, rfl, rfl, rfl⟩) (hg : Gl j.X x := by rfl)
    (he : starEach (e :: es) j.X.env = (false, eval e j.X.env) :: starEach es j.X.env := by rfl) (hpl : (backTo pos (starEach es j.X.env)).any (·.1) = false := by rfl) : DE j S (.Call (.Name x p) (e :: es) [] pos) d := fun σ F H rp QQ kk => by
  obtain ⟨rfl, rfl, rfl, rfl, rfl⟩ := on
  obtain ⟨f, fd, ps, ok, hm, hkp, hb⟩ := h.ex
  exact wp_pe (pe_call ok (hr.mono hk) hg hm hkp hb .nil pass0 pa_wp h.db he hpl) (ha σ F H rp _ fun vs F1 H1 s1 a1 => by
    rw [List.append_nil]
    exact ⟨F1, ds, d, s1.e, a1, g, fun v F' H' s2 a2 => kk v F' H' (s1.trans s2) a2⟩)
theorem de_callX (h : FnX P w K mg base k x G Xc) (hr : Room n j.X.A) (hk : k ≤ n) (ha : DA j S (e :: es) ds) (g : G ds d) (on : On j.X P w K mg base := by exact ⟨rfl, rfl, rfl, rfl, rfl⟩) (hg : Gl j.X x := by rfl)
    (he : starEach (e :: es) j.X.env = (false, eval e j.X.env) :: starEach es j.X.env := by rfl) (hpl : (backTo pos (starEach es j.X.env)).any (·.1) = false := by rfl) : DE j S (.Call (.Name x p) (e :: es) [] pos) d := fun σ F H rp QQ kk => by
  obtain ⟨rfl, rfl, rfl, rfl, rfl⟩ := on
  obtain ⟨f, fd, ps, ok, hm, hkp, hb⟩ := h.ex
  exact wp_pe (pe_call ok (hr.mono hk) hg hm hkp hb .nil (passL (X := j.X)) pa_wp h.db he hpl) (ha σ F H rp _ fun vs F1 H1 s1 a1 => by
    rw [List.append_nil]
    exact ⟨F1, ds, s1.e, a1, .inl ⟨d, g, fun v F' H' s2 a2 => kk v F' H' (s1.trans s2) a2⟩⟩)
theorem dn_callX (h : FnX P w K mg base k x G Xc) (hr : Room n j.X.A) (hk : k ≤ n) (ha : DA j S (e :: es) ds) (g : Xc ds C) (hC : j.EX C) (on : On j.X P w K mg base := by exact ⟨rfl, rfl, rfl, rfl, rfl⟩) (hg : Gl j.X x := by rfl)
    (he : starEach (e :: es) j.X.env = (false, eval e j.X.env) :: starEach es j.X.env := by rfl) (hpl : (backTo pos (starEach es j.X.env)).any (·.1) = false := by rfl) : DN j S (.Call (.Name x p) (e :: es) [] pos) := fun σ F H rp QQ => by
  obtain ⟨rfl, rfl, rfl, rfl, rfl⟩ := on
  obtain ⟨f, fd, ps, ok, hm, hkp, hb⟩ := h.ex
  exact wp_pe (pe_call ok (hr.mono hk) hg hm hkp hb .nil (passes_call (E := j.xk) j.tk fun _ _ _ _ h => h) pa_wp h.db he hpl) (ha σ F H rp _ fun vs F1 H1 s1 a1 => by
    rw [List.append_nil]
    exact ⟨F1, ds, s1.e, a1, .inr ⟨C, g, fun H' s2 => j.ex C hC H' ((rp.h0.trans s1.h).trans s2)⟩⟩)
theorem dn_callA (h : FnX P w K mg base k x G Xc) (hr : Room n j.X.A) (hk : k ≤ n) (ha : DAN j S (e :: es)) (on : On j.X P w K mg base := by exact ⟨rfl, rfl, rfl, rfl, rfl⟩) (hg : Gl j.X x := by rfl)
    (he : starEach (e :: es) j.X.env = (false, eval e j.X.env) :: starEach es j.X.env := by rfl) (hpl : (backTo pos (starEach es j.X.env)).any (·.1) = false := by rfl) : DN j S (.Call (.Name x p) (e :: es) [] pos) := fun σ F H rp QQ => by
  obtain ⟨rfl, rfl, rfl, rfl, rfl⟩ := on
  obtain ⟨f, fd, ps, ok, hm, hkp, hb⟩ := h.ex
  exact wp_pe (pe_call ok (hr.mono hk) hg hm hkp hb .nil (passL (X := j.X)) pa_wp h.db he hpl) (ha σ F H rp _)
/-! methods of one's own -/
variable {ns : List Str} {fs : List Da} {m : Str} {pl : Sem Bool}
theorem de_meth0 (h : Me0 P w K mg base k C m G) (hr : Room n j.X.A) (hk : k ≤ n) (ho : DE j S o (.ob C ns fs)) (hm : m ∉ ns) (ha : DA j S (e :: es) ds) (g : G (.ob C ns fs :: ds) d) (on : On j.X P w K mg base := by exact ⟨rfl, rfl, rfl, rfl, rfl⟩)
    (hst : starEach (e :: es) j.X.env = (false, eval e j.X.env) :: starEach es j.X.env := by rfl) (hpl : (backTo pos (starEach es j.X.env)).any (·.1) = false := by rfl)
    (ht : eval (.Call (.Attribute o m apos) (e :: es) [] pos) j.X.env = (do
      let ov ← eval o j.X.env
      standAt apos.atName
      let (f, first) ← holding [ov] (getMethod ov m pl)
      callWith pos f first (backTo pos (starEach (e :: es) j.X.env)) (backToKw pos (keywordEach [] j.X.env))) := by rfl) : DE j S (.Call (.Attribute o m apos) (e :: es) [] pos) d := fun σ F H rp QQ kk => by
  obtain ⟨rfl, rfl, rfl, rfl, rfl⟩ := on
  obtain ⟨f, fd, ps, ok, hme, hb⟩ := h.ex
  refine wp_pe (pe_meth pe_wp h.cl hme ok (hr.mono hk) hb .nil pass0 pa_wp hst hpl ht) (ho σ F H rp _ fun v F1 H1 s1 ax => ?_)
  obtain ⟨a, dx, vs, e1, e2, hl, a1⟩ := id ax
  refine ⟨a, dx, _, e1, s1.e _ _ e2, lookup_zip_none hm, ha σ F1 H1 (rp.step s1) _ fun ws F2 H2 s2 a2 => ?_⟩
  rw [List.append_nil]
  exact ⟨F2, .ob C ns fs :: ds, d, s2.e, ⟨v, ws, rfl, At.mono s2.f _ _ ax, a2⟩, g, fun v F' H' s3 a3 => kk v F' H' ((s1.trans s2).trans s3) a3⟩
theorem de_methX (h : MeX P w K mg base k C m G Xc) (hr : Room n j.X.A) (hk : k ≤ n) (ho : DE j S o (.ob C ns fs)) (hm : m ∉ ns) (ha : DA j S (e :: es) ds) (g : G (.ob C ns fs :: ds) d) (on : On j.X P w K mg base := by exact ⟨rfl, rfl, rfl, rfl, rfl⟩)
    (hst : starEach (e :: es) j.X.env = (false, eval e j.X.env) :: starEach es j.X.env := by rfl) (hpl : (backTo pos (starEach es j.X.env)).any (·.1) = false := by rfl)
    (ht : eval (.Call (.Attribute o m apos) (e :: es) [] pos) j.X.env = (do
      let ov ← eval o j.X.env
      standAt apos.atName
      let (f, first) ← holding [ov] (getMethod ov m pl)
      callWith pos f first (backTo pos (starEach (e :: es) j.X.env)) (backToKw pos (keywordEach [] j.X.env))) := by rfl) : DE j S (.Call (.Attribute o m apos) (e :: es) [] pos) d := fun σ F H rp QQ kk => by
  obtain ⟨rfl, rfl, rfl, rfl, rfl⟩ := on
  obtain ⟨f, fd, ps, ok, hme, hb⟩ := h.ex
  refine wp_pe (pe_meth pe_wp h.cl hme ok (hr.mono hk) hb .nil (passL (X := j.X)) pa_wp hst hpl ht) (ho σ F H rp _ fun v F1 H1 s1 ax => ?_)
  obtain ⟨a, dx, vs, e1, e2, hl, a1⟩ := id ax
  refine ⟨a, dx, _, e1, s1.e _ _ e2, lookup_zip_none hm, ha σ F1 H1 (rp.step s1) _ fun ws F2 H2 s2 a2 => ?_⟩
  rw [List.append_nil]
  exact ⟨F2, .ob C ns fs :: ds, s2.e, ⟨v, ws, rfl, At.mono s2.f _ _ ax, a2⟩, .inl ⟨d, g, fun v F' H' s3 a3 => kk v F' H' ((s1.trans s2).trans s3) a3⟩⟩
theorem dn_methX {C' : Addr} (h : MeX P w K mg base k C m G Xc) (hr : Room n j.X.A) (hk : k ≤ n) (ho : DE j S o (.ob C ns fs)) (hm : m ∉ ns) (ha : DA j S (e :: es) ds) (g : Xc (.ob C ns fs :: ds) C') (hC : j.EX C') (on : On j.X P w K mg base := by exact ⟨rfl, rfl, rfl, rfl, rfl⟩)
    (hst : starEach (e :: es) j.X.env = (false, eval e j.X.env) :: starEach es j.X.env := by rfl) (hpl : (backTo pos (starEach es j.X.env)).any (·.1) = false := by rfl)
    (ht : eval (.Call (.Attribute o m apos) (e :: es) [] pos) j.X.env = (do
      let ov ← eval o j.X.env
      standAt apos.atName
      let (f, first) ← holding [ov] (getMethod ov m pl)
      callWith pos f first (backTo pos (starEach (e :: es) j.X.env)) (backToKw pos (keywordEach [] j.X.env))) := by rfl) : DN j S (.Call (.Attribute o m apos) (e :: es) [] pos) := fun σ F H rp QQ => by
  obtain ⟨rfl, rfl, rfl, rfl, rfl⟩ := on
  obtain ⟨f, fd, ps, ok, hme, hb⟩ := h.ex
  refine wp_pe (pe_meth pe_wp h.cl hme ok (hr.mono hk) hb .nil (passes_call (E := j.xk) j.tk fun _ _ _ _ h => h) pa_wp hst hpl ht) (ho σ F H rp _ fun v F1 H1 s1 ax => ?_)
  obtain ⟨a, dx, vs, e1, e2, hl, a1⟩ := id ax
  refine ⟨a, dx, _, e1, s1.e _ _ e2, lookup_zip_none hm, ha σ F1 H1 (rp.step s1) _ fun ws F2 H2 s2 a2 => ?_⟩
  rw [List.append_nil]
  exact ⟨F2, .ob C ns fs :: ds, s2.e, ⟨v, ws, rfl, At.mono s2.f _ _ ax, a2⟩, .inr ⟨C', g, fun H' s3 => j.ex C' hC H' (((rp.h0.trans s1.h).trans s2.h).trans s3)⟩⟩
theorem dn_methA (h : MeX P w K mg base k C m G Xc) (hr : Room n j.X.A) (hk : k ≤ n) (ho : DE j S o (.ob C ns fs)) (hm : m ∉ ns) (ha : DAN j S (e :: es)) (on : On j.X P w K mg base := by exact ⟨rfl, rfl, rfl, rfl, rfl⟩)
    (hst : starEach (e :: es) j.X.env = (false, eval e j.X.env) :: starEach es j.X.env := by rfl) (hpl : (backTo pos (starEach es j.X.env)).any (·.1) = false := by rfl)
    (ht : eval (.Call (.Attribute o m apos) (e :: es) [] pos) j.X.env = (do
      let ov ← eval o j.X.env
      standAt apos.atName
      let (f, first) ← holding [ov] (getMethod ov m pl)
      callWith pos f first (backTo pos (starEach (e :: es) j.X.env)) (backToKw pos (keywordEach [] j.X.env))) := by rfl) : DN j S (.Call (.Attribute o m apos) (e :: es) [] pos) := fun σ F H rp QQ => by
  obtain ⟨rfl, rfl, rfl, rfl, rfl⟩ := on
  obtain ⟨f, fd, ps, ok, hme, hb⟩ := h.ex
  refine wp_pe (pe_meth pe_wp h.cl hme ok (hr.mono hk) hb .nil (passL (X := j.X)) pa_wp hst hpl ht) (ho σ F H rp _ fun v F1 H1 s1 ax => ?_)
  obtain ⟨a, dx, vs, e1, e2, hl, a1⟩ := id ax
  exact ⟨a, dx, _, e1, s1.e _ _ e2, lookup_zip_none hm, ha σ F1 H1 (rp.step s1) _⟩
theorem de_meth00 (h : Me0 P w K mg base k C m G) (hr : Room n j.X.A) (hk : k ≤ n) (ho : DE j S o (.ob C ns fs)) (hm : m ∉ ns) (g : G [.ob C ns fs] d) (on : On j.X P w K mg base := by exact ⟨rfl, rfl, rfl, rfl, rfl⟩)
    (ht : eval (.Call (.Attribute o m apos) [] [] pos) j.X.env = (do
      let ov ← eval o j.X.env
      standAt apos.atName
      let (f, first) ← holding [ov] (getMethod ov m pl)
      callWith pos f first (backTo pos (starEach [] j.X.env)) (backToKw pos (keywordEach [] j.X.env))) := by rfl) : DE j S (.Call (.Attribute o m apos) [] [] pos) d := fun σ F H rp QQ kk => by
  obtain ⟨rfl, rfl, rfl, rfl, rfl⟩ := on
  obtain ⟨f, fd, ps, ok, hme, hb⟩ := h.ex
  refine wp_pe (pe_meth0 pe_wp h.cl hme ok (hr.mono hk) hb .nil pass0 ht) (ho σ F H rp _ fun v F1 H1 s1 ax => ?_)
  obtain ⟨a, dx, vs, e1, e2, hl, a1⟩ := id ax
  refine ⟨a, dx, _, e1, s1.e _ _ e2, lookup_zip_none hm, ?_⟩
  show sp0 j.X.K G (v :: ([] ++ [])) H1 QQ E0
  exact ⟨F1, _, d, s1.e, Ats.one ax, g, fun v F' H' s3 a3 => kk v F' H' (s1.trans s3) a3⟩
theorem de_make (h : MkX P w K mg base k x C G Xc) (hr : Room n j.X.A) (hk : k + 1 ≤ n) (ha : DA j S (e :: es) ds) (g : G ds d) (on : On j.X P w K mg base := by exact ⟨rfl, rfl, rfl, rfl, rfl⟩) (hg : Gl j.X x := by rfl)
    (he : starEach (e :: es) j.X.env = (false, eval e j.X.env) :: starEach es j.X.env := by rfl) (hpl : (backTo pos (starEach es j.X.env)).any (·.1) = false := by rfl) : DE j S (.Call (.Name x p) (e :: es) [] pos) d := fun σ F H rp QQ kk => by
  obtain ⟨rfl, rfl, rfl, rfl, rfl⟩ := on
  obtain ⟨f, fd, ps, ok, hM, hb⟩ := h.ex
  refine wp_pe (pe_make hM ok (hr.mono hk) hg h.m hb .nil (passL (X := j.X)) pa_wp h.db he hpl) (ha σ F H rp _ fun vs F1 H1 s1 a1 => fun q dx nq nd ne => ?_)
  rw [List.append_nil]
  have sm : Same H1 (upd (upd H1 dx (.own q)) q (.ins C dx [])) := fun b o z => by
    rw [upd_ne (ne_of_none z nq), upd_ne (ne_of_none z nd)]
    exact z
  refine ⟨F1, ds, q, dx, vs, rfl, upd_same, s1.e.free nq, s1.e.trans sm, a1, .inl ⟨d, g, fun F' H' f1 f2 f3 f4 f5 => ⟨rfl, kk _ F' H' (s1.trans ⟨f1, f2, fun b o z => ?_, fun a o z => ?_⟩) f5⟩⟩⟩
  · exact f3 b o (ne_of_none z nq) (sm b o z)
  · rcases f4 a o z with z | z | z
    · exact .inl z
    · exact .inr (z ▸ nq)
    · exact .inr (sm.free z)
end

/-! statements -/
structure DEnds where
  nx : List Sl → Prop
  rt : Da → Prop
  bk : List Sl → Prop := fun _ => False
  ct : List Sl → Prop := fun _ => False
def lift (j : J) (F : Hp) (D : DEnds) : Ends where
  nx := fun σ H => ∃ S' F', Rp j S' σ F' H ∧ Same F F' ∧ D.nx S'
  rt := fun v H => ∃ d F', Frm j F' H ∧ Same F F' ∧ At j.X.K F' d v ∧ D.rt d
  bk := fun σ H => ∃ S' F', Rp j S' σ F' H ∧ Same F F' ∧ D.bk S'
  ct := fun σ H => ∃ S' F', Rp j S' σ F' H ∧ Same F F' ∧ D.ct S'
structure ELe (D D' : Ends) : Prop where
  nx : ∀ σ H, D.nx σ H → D'.nx σ H
  rt : ∀ v H, D.rt v H → D'.rt v H
  bk : ∀ σ H, D.bk σ H → D'.bk σ H
  ct : ∀ σ H, D.ct σ H → D'.ct σ H
section
variable {X : Cx} {D D' : Ends} {σ : L2.St} {H : Hp}
theorem SP.mono (h : ELe D D') {pins : List (Addr × Obj)} {f : Flow} {s : Shared} (q : SP X pins D f s) : SP X pins D' f s := by
  cases f with
  | next => obtain ⟨a, b, c, d⟩ := q; exact ⟨a, b, c, h.nx _ _ d⟩
  | brk => obtain ⟨a, b, c, d⟩ := q; exact ⟨a, b, c, h.bk _ _ d⟩
  | cont => obtain ⟨a, b, c, d⟩ := q; exact ⟨a, b, c, h.ct _ _ d⟩
  | ret v => obtain ⟨a, b, c, d, e, f⟩ := q; exact ⟨a, b, c, d, e, h.rt _ _ f⟩
theorem wpS_mono (h : ELe D D') {st : Stmt} (q : wpS X st D σ H) : wpS X st D' σ H := fun pins s I => thn (q pins s I) fun _ _ z => SP.mono h z
theorem wpB_mono (h : ELe D D') {st : List Stmt} (q : wpB X st D σ H) : wpB X st D' σ H := fun pins s I => thn (q pins s I) fun _ _ z => SP.mono h z
theorem lift_le {j : J} {F F' : Hp} {D : DEnds} (h : Same F F') : ELe (lift j F' D) (lift j F D) :=
  ⟨fun σ H ⟨S', F2, a, b, c⟩ => ⟨S', F2, a, h.trans b, c⟩, fun σ H ⟨S', F2, a, b, c⟩ => ⟨S', F2, a, h.trans b, c⟩, fun σ H ⟨S', F2, a, b, c⟩ => ⟨S', F2, a, h.trans b, c⟩, fun σ H ⟨S', F2, a, b, c⟩ => ⟨S', F2, a, h.trans b, c⟩⟩
end
def DS (j : J) (S : List Sl) (st : Stmt) (D : DEnds) : Prop := ∀ (σ : L2.St) (F H : Hp), Rp j S σ F H → wpS j.X st (lift j F D) σ H
def DB (j : J) (S : List Sl) (st : List Stmt) (D : DEnds) : Prop := ∀ (σ : L2.St) (F H : Hp), Rp j S σ F H → wpB j.X st (lift j F D) σ H
section
variable {j : J} {S : List Sl} {D : DEnds} {pos : Pos} {e : Expr} {d : Da}
theorem db_nil (h : D.nx S) : DB j S [] D := fun σ F H rp => wp_pss pss_nil ⟨S, F, rp, fun _ _ h => h, h⟩
theorem db_cons {st : Stmt} {rest : List Stmt} (h : DS j S st { D with nx := fun S' => DB j S' rest D }) : DB j S (st :: rest) D := fun σ F H rp =>
  wp_pss (pss_cons ps_wp pss_wp) (wpS_mono (D := lift j F { D with nx := fun S' => DB j S' rest D }) (D' := { lift j F D with nx := wpB j.X rest (lift j F D) }) ⟨fun σ' H' ⟨S', F', a, b, c⟩ => wpB_mono (lift_le b) (c σ' F' H' a), fun _ _ z => z, fun _ _ z => z, fun _ _ z => z⟩ (h σ F H rp))
theorem db_one {st : Stmt} (h : DS j S st D) : DB j S [st] D := fun σ F H rp => wp_pss (pss_one ps_wp) (h σ F H rp)
/-- a local name that is stored -/
structure LM (X : Cx) (x : Str) (i : Nat) : Prop where
  nd : X.N.Nodup
  N : X.N[i]? = some x
  l : Loc X.env.scope x
  f : X.fn x = true ∨ X.env.scope.names.lookup x = some .local
theorem ds_set {x : Str} {i : Nat} {pos' : Pos} (l : LM j.X x i) (h : DE j S e d) (k : D.nx (S.set i (.da d))) (hs : swapsWith e (some (.Name x pos')) pos.line j.X.env = pure false := by rfl) : DS j S (.Assign [.Name x pos'] e pos) D := fun σ F H rp =>
  wp_ps (ps_set l.nd l.N l.l pe_wp hs l.f) (h σ F H rp _ fun v F1 H1 s1 a1 => ⟨_, F1, (rp.step s1).setDa a1, s1.f, k⟩)
/-- e gives a new list, no one else's -/
def DO (j : J) (S : List Sl) (e : Expr) (ds : List Da) : Prop :=
  ∀ (σ : L2.St) (F H : Hp), Rp j S σ F H → ∀ QQ : VK, (∀ (l : Addr) (vs : List V) (F' H' : Hp), Stp F H F' H' → H l = none → H' l = some (.lst vs) → F' l = none → Ats j.X.K F' ds vs → QQ (.ref l) H') → wpE j.X e σ H QQ
theorem Rp.newOw {i : Nat} {ds : List Da} {l : Addr} {vs : List V} {σ : L2.St} {F H F' H' : Hp} (rp : Rp j S σ F H) (s : Stp F H F' H') (h0 : H l = none) (h1 : H' l = some (.lst vs)) (h2 : F' l = none) (a : Ats j.X.K F' ds vs) :
    Rp j (S.set i (.ow ds)) (σ.set i (some (.ref l))) F' H' := by
  refine (rp.step s).setOw h1 a h2 (rp.h0.free h0) fun k es _ hS hσ => ?_
  obtain ⟨l', ws, e1, e2, _⟩ := rp.own hS
  rw [hσ] at e1
  cases e1
  rw [h0] at e2
  cases e2
theorem ds_setO {x : Str} {i : Nat} {pos' : Pos} {ds : List Da} (l : LM j.X x i) (h : DO j S e ds) (k : D.nx (S.set i (.ow ds))) (hs : swapsWith e (some (.Name x pos')) pos.line j.X.env = pure false := by rfl) : DS j S (.Assign [.Name x pos'] e pos) D := fun σ F H rp =>
  wp_ps (ps_set l.nd l.N l.l pe_wp hs l.f) (h σ F H rp _ fun l vs F1 H1 s1 h0 h1 h2 a1 => ⟨_, F1, rp.newOw s1 h0 h1 h2 a1, s1.f, k⟩)
theorem ds_setN {x : Str} {i : Nat} {pos' : Pos} (l : LM j.X x i) (h : DN j S e) (hs : swapsWith e (some (.Name x pos')) pos.line j.X.env = pure false := by rfl) : DS j S (.Assign [.Name x pos'] e pos) D := fun σ F H rp =>
  wp_ps (ps_set l.nd l.N l.l pe_wp hs l.f) (h σ F H rp _)
/-- an own list stands still from here on -/
theorem db_freeze {i : Nat} {ds : List Da} {sts : List Stmt} (h : S[i]? = some (.ow ds)) (k : DB j (S.set i (.da (.lst ds))) sts D) : DB j S sts D := fun σ F H rp => by
  obtain ⟨F', s, rp'⟩ := rp.freeze h
  exact wpB_mono (lift_le s) (k σ F' H rp')
theorem ds_freeze {i : Nat} {ds : List Da} {st : Stmt} (h : S[i]? = some (.ow ds)) (k : DS j (S.set i (.da (.lst ds))) st D) : DS j S st D := fun σ F H rp => by
  obtain ⟨F', s, rp'⟩ := rp.freeze h
  exact wpS_mono (lift_le s) (k σ F' H rp')
/-- slots forgotten -/
theorem db_forget (i : Nat) {sts : List Stmt} (k : DB j (S.set i .un) sts D) : DB j S sts D := fun σ F H rp => k σ F H rp.forget
theorem ds_forget (i : Nat) {st : Stmt} (k : DS j (S.set i .un) st D) : DS j S st D := fun σ F H rp => k σ F H rp.forget
theorem ds_expr (h : DE j S e d) (k : D.nx S) (hs : swapsWith e none pos.line j.X.env = pure false := by rfl) : DS j S (.Expr e pos) D := fun σ F H rp =>
  wp_ps (ps_expr pe_wp hs) (h σ F H rp _ fun v F1 H1 s1 a1 => ⟨S, F1, rp.step s1, s1.f, k⟩)
theorem ds_exprN (h : DN j S e) (hs : swapsWith e none pos.line j.X.env = pure false := by rfl) : DS j S (.Expr e pos) D := fun σ F H rp => wp_ps (ps_expr pe_wp hs) (h σ F H rp _)
theorem ds_doc {x : String} {k : Nat} {pos' : Pos} (h : D.nx S) : DS j S (.Expr (.Constant (.str x) k pos) pos') D := fun σ F H rp => wp_ps ps_doc ⟨S, F, rp, fun _ _ h => h, h⟩
theorem ds_pass (h : D.nx S) : DS j S (.Pass pos) D := fun σ F H rp => wp_ps ps_pass ⟨S, F, rp, fun _ _ h => h, h⟩
theorem ds_break (h : D.bk S) : DS j S (.Break pos) D := fun σ F H rp => wp_ps ps_break ⟨S, F, rp, fun _ _ h => h, h⟩
theorem ds_cont (h : D.ct S) : DS j S (.Continue pos) D := fun σ F H rp => wp_ps ps_continue ⟨S, F, rp, fun _ _ h => h, h⟩
theorem ds_ret (h : DE j S e d) (k : D.rt d) : DS j S (.Return (some e) pos) D := fun σ F H rp => wp_ps (ps_ret pe_wp) (h σ F H rp _ fun v F1 H1 s1 a1 => ⟨d, F1, rp.toFrm.step s1, s1.f, a1, k⟩)
theorem ds_retX (h : DN j S e) : DS j S (.Return (some e) pos) D := fun σ F H rp => wp_ps (ps_ret pe_wp) (h σ F H rp _)
theorem ds_retN (k : D.rt .non) : DS j S (.Return none pos) D := fun σ F H rp => wp_ps ps_retN ⟨.non, F, rp.toFrm, fun _ _ h => h, rfl, k⟩
theorem ds_if {c : Expr} {a b : List Stmt} {t : Bool} (hc : DT j S c t) (ha : t = true → DB j S a D) (hb : t = false → DB j S b D) : DS j S (.If c a b pos) D := fun σ F H rp =>
  wp_ps (ps_if pt_wp pss_wp pss_wp) (hc σ F H rp _ fun F1 H1 s1 => by
    cases t with
    | true => exact iteT (wpB_mono (lift_le s1.f) (ha rfl σ F1 H1 (rp.step s1)))
    | false => exact iteF (wpB_mono (lift_le s1.f) (hb rfl σ F1 H1 (rp.step s1))))
theorem ds_ifN {c : Expr} {a b : List Stmt} (hc : DTN j S c) : DS j S (.If c a b pos) D := fun σ F H rp => wp_ps (ps_if pt_wp (pss_wp (e := a)) (pss_wp (e := b))) (hc σ F H rp _)
theorem DB.imp {sts : List Stmt} {D' : DEnds} (h : DB j S sts D) (h1 : ∀ S', D.nx S' → D'.nx S') (h2 : ∀ d, D.rt d → D'.rt d) (h3 : ∀ S', D.bk S' → D'.bk S') (h4 : ∀ S', D.ct S' → D'.ct S') : DB j S sts D' := fun σ F H rp =>
  wpB_mono (D := lift j F D) (D' := lift j F D') ⟨fun σ H ⟨S', F2, a, b, c⟩ => ⟨S', F2, a, b, h1 _ c⟩, fun σ H ⟨S', F2, f, a, b, c⟩ => ⟨S', F2, f, a, b, h2 _ c⟩, fun σ H ⟨S', F2, a, b, c⟩ => ⟨S', F2, a, b, h3 _ c⟩, fun σ H ⟨S', F2, a, b, c⟩ => ⟨S', F2, a, b, h4 _ c⟩⟩ (h σ F H rp)
/-- raise X('..') -/
structure ExcD (K : PySem.W.Frag) (mg : Str → Option Value) (x : Str) (C : Addr) : Prop where
  q : PySem.W.excIn K C [.type "ValueError", .type "Exception", .type "BaseException", .type "object"] "ValueError.__new__" = true
  g : mg x = some (.ref C)
  kp : PySem.W.keepIn K (.ref C) = true
  sb : PySem.W.subIn K (.ref C) (.type "BaseException") = some true
  ty : PySem.W.typeIn K (.ref C) = some (.type "type")
  db : (x == ("__debug__" : Str)) = false
theorem ds_raise {K : PySem.W.Frag} {mg : Str → Option Value} {x : Str} {C : Addr} {m : String} {k : Nat} {p p2 pos2 : Pos} (h : ExcD K mg x C) (hC : j.EX C) (hc : j.X.calm = true := by rfl) (hg : Gl j.X x := by rfl) (eK : j.X.K = K := by rfl) (em : j.X.mg = mg := by rfl) :
    DS j S (.Raise (some (.Call (.Name x p) [.Constant (.str m) k p2] [] pos)) none pos2) D := fun σ F H rp => by
  subst eK em
  exact wp_ps (ps_raise hc j.tk (pmk_own PySem.F.excBase_ValueError h.q h.g h.kp (raises_own h.sb h.ty) hg h.db)) (j.ex C hC H rp.h0)
/-- x.append(e), x an own list -/
theorem ds_append {x : Str} {i : Nat} {ds : List Da} {np ap cp : Pos} (nm : NM j.X x i) (hS : S[i]? = some (.ow ds)) (h : DE j S e d) (hz : ds.length < 1000000) (k : D.nx (S.set i (.ow (ds ++ [d]))))
    (hs : swapsWith (.Call (.Attribute (.Name x np) "append" ap) [e] [] cp) none pos.line j.X.env = pure false := by rfl)
    (hbase : attributeBase (.Name x np) "append" j.X.env (eval (.Name x np) j.X.env) = eval (.Name x np) j.X.env := by rfl)
    (hfew : ((backTo cp (starEach [e] j.X.env)).all (fun x => !x.1) && (backToKw cp (keywordEach [] j.X.env)).all (fun x => x.1.isSome)
      && decide ([e].length + ([] : List Keyword).length + (if ([] : List Keyword).isEmpty then 0 else 1) < 30)) = true := by rfl)
    (hline : (ap.endLine == cp.line) = true := by rfl) (hst : starEach [e] j.X.env = (false, eval e j.X.env) :: starEach [] j.X.env := by rfl) (hplain : (backTo cp (starEach [] j.X.env)).any (·.1) = false := by rfl) :
    DS j S (.Expr (.Call (.Attribute (.Name x np) "append" ap) [e] [] cp) pos) D := fun σ F H rp => by
  obtain ⟨l, vs, e1, e2, e3, e4, e5⟩ := rp.own hS
  refine wp_ps (ps_expr (pe_bm PySem.F.plainAttrs_list PySem.F.slot_list_append PySem.F.type_list_append mt_append (pe_var nm.N nm.v nm.d nm.c) (pa_cons pe_wp pa_nil hst) hbase hfew hline hst hplain) hs) ?_
  refine ⟨.ref l, e1, .inl ⟨rfl, _, .of e2⟩, h σ F H rp _ fun v F1 H1 s1 a1 => ?_⟩
  have rp1 := rp.step s1
  have hl := e3.length
  refine ⟨l, vs, v, rfl, rfl, s1.h _ _ e2, by rw [hl]; exact sz_lt hz, ⟨_, F1, rp1.change hS e1 ((Ats.mono s1.f _ _ e3).append (Ats.one a1)), s1.f, k⟩⟩
/-- x += e by values -/
def IpD (j : J) (op : Operator) (x y z : Da) : Prop := OpD j (inplaceOp op) x y z
theorem ds_aug {x : Str} {i : Nat} {op : Operator} {a y z : Da} {pos' : Pos} (l : LM j.X x i) (hS : S[i]? = some (.da a)) (h : DE j S e y) (ho : OpD j (inplaceOp op) a y z) (k : D.nx (S.set i (.da z))) : DS j S (.AugAssign (.Name x pos') op e pos) D := fun σ F H rp => by
  obtain ⟨v, e1, a1⟩ := rp.get hS
  have ip : PIp j.X op (fun x y H Q => wpO j.X (inplaceOp op) x y H Q) := fun pins s σ H x y v u Q I r1 r2 h => h pins s σ v u I r1 r2
  exact wp_ps (ps_aug l.nd l.N l.l pe_wp ip l.f) ⟨v, e1, h σ F H rp _ fun u F1 H1 s1 a2 => ho F1 H1 s1.e v u (At.mono s1.f _ _ a1) a2 _ fun w F2 H2 s2 a3 => ⟨_, F2, ((rp.step s1).step s2).setDa a3, (s1.trans s2).f, k⟩⟩
end

/-! targets -/
def DG (j : J) (S : List Sl) (tg : Expr) (d : Da) (ws : List Nat) (post : List Sl → Prop) : Prop :=
  ∀ (σ : L2.St) (F H : Hp) (v : V), Rp j S σ F H → At j.X.K F d v → ∀ QQ : L2.St → Hp → Prop, (∀ S' σ', Rp j S' σ' F H → σ'.length = σ.length → (∀ k, k ∉ ws → σ'[k]? = σ[k]?) → post S' → QQ σ' H) → wpG j.X tg v σ H QQ
def DGs (j : J) (S : List Sl) (tgs : List Expr) (ds : List Da) (ws : List Nat) (post : List Sl → Prop) : Prop :=
  ∀ (σ : L2.St) (F H : Hp) (vs : List V), Rp j S σ F H → Ats j.X.K F ds vs → ∀ QQ : L2.St → Hp → Prop, (∀ S' σ', Rp j S' σ' F H → σ'.length = σ.length → (∀ k, k ∉ ws → σ'[k]? = σ[k]?) → post S' → QQ σ' H) →
    ∀ (pins : List (Addr × Obj)) (s : Shared) (us : List Value), Inv j.X pins σ H s → Vals vs us → wpAny (model j.X.prog j.X.w) j.X.A (assignInOrder ((assignEach tgs j.X.env).map (·.2)) us) (fun _ s' => ∃ σ' H', Inv j.X pins σ' H' s' ∧ QQ σ' H') j.X.xe s
section
variable {j : J} {S : List Sl} {d : Da} {pos : Pos} {ws : List Nat} {post : List Sl → Prop}
theorem dg_nm {x : Str} {i : Nat} (l : LM j.X x i) (hi : i ∈ ws) (k : post (S.set i (.da d))) : DG j S (.Name x pos) d ws post := fun σ F H v rp a QQ kk =>
  wp_pg (pg_name l.nd l.N l.l l.f) (kk _ _ (rp.setDa a) (by rw [List.length_set]) (fun m hm => by
    rw [List.getElem?_set_ne]
    rintro rfl
    exact hm hi) k)
theorem dgs_nil (k : post S) : DGs j S [] [] ws post := fun σ F H vs rp a QQ kk pins s us I r => by
  cases (show vs = [] from a)
  cases r
  exact assignInOrder_nil ⟨σ, H, I, kk S σ rp rfl (fun _ _ => rfl) k⟩
theorem dgs_cons {e : Expr} {es : List Expr} {ds : List Da} (h : DG j S e d ws fun S' => DGs j S' es ds ws post) (hs : (assignEach (e :: es) j.X.env).map (·.2) = assign e j.X.env :: (assignEach es j.X.env).map (·.2) := by rfl) : DGs j S (e :: es) (d :: ds) ws post := fun σ F H vs rp a QQ kk pins s us I r => by
  obtain ⟨v, r', e1, a1, a2⟩ := a
  subst e1
  cases r with
  | cons r rr =>
    rw [hs]
    refine assignInOrder_cons (thn (h σ F H v rp a1 (fun σ' H' => H' = H ∧ σ'.length = σ.length ∧ (∀ k, k ∉ ws → σ'[k]? = σ[k]?) ∧ ∃ S', Rp j S' σ' F H ∧ DGs j S' es ds ws post) (fun S' σ' rp' hl hk hp => ⟨rfl, hl, hk, S', rp', hp⟩) pins s _ I r) fun _ s1 ⟨σ1, H1, I1, e2, hl, hk, S', rp', hp⟩ => ?_)
    subst e2
    exact hp σ1 F _ r' rp' a2 QQ (fun S2 σ2 rp2 hl2 hk2 p2 => kk S2 σ2 rp2 (hl2.trans hl) (fun k hm => (hk2 k hm).trans (hk k hm)) p2) pins s1 _ I1 rr
theorem dg_tup {es : List Expr} {k n : Nat} {ds : List Da} (h : DGs j S es ds ws post) (hl : ds.length = n) (hc : j.X.calm = true := by rfl) (hn : (assignEach es j.X.env).length = n := by rfl) (hst : (assignEach es j.X.env).findIdx? (·.1) = none := by rfl) : DG j S (.Tuple es k pos) (.tup ds) ws post := fun σ F H v rp a QQ kk => by
  obtain ⟨t, vs, e1, e2, a1⟩ := a
  have pg : PG j.X (.Tuple es k pos) (gTup j.X.K n (fun vs σ H Q => ∀ (pins : List (Addr × Obj)) (s : Shared) (us : List Value), Inv j.X pins σ H s → Vals vs us → wpAny (model j.X.prog j.X.w) j.X.A (assignInOrder ((assignEach es j.X.env).map (·.2)) us) (fun _ s' => ∃ σ' H', Inv j.X pins σ' H' s' ∧ Q σ' H') j.X.xe s)) :=
    pg_tup hc ⟨fun pins s σ H vs us Q I r q => q pins s us I r⟩ hn hst
  exact wp_pg pg ⟨t, vs, e1, .of (rp.ext _ _ e2), by rw [a1.length, hl], h σ F H vs rp a1 QQ kk⟩
theorem ds_tgt {D : DEnds} {tg e : Expr} (h : DE j S e d) (g : DG j S tg d ws D.nx) (hs : swapsWithSole [tg] e pos.line j.X.env = pure false := by rfl) (hw : swappedStores [tg] e j.X.env = pure none := by rfl)
    (h1 : (assignEach [tg] j.X.env).map (·.2) = [assign tg j.X.env] := by rfl) : DS j S (.Assign [tg] e pos) D := fun σ F H rp =>
  wp_ps (ps_asg pe_wp pg_wp hs hw h1) (h σ F H rp _ fun v F1 H1 s1 a1 => g σ F1 H1 v (rp.step s1) a1 _ fun S' σ' rp' _ _ hp => ⟨S', F1, rp', s1.f, hp⟩)
end
end DL
/-! DL4: entries, loops, comprehensions. -/
namespace DL
open PySem PySem.Spec PyProof.Rows L2
theorem wpB_lift {j : J} {F : Hp} {D : DEnds} {E : Ends} {sts : List Stmt} {σ0 : L2.St} {H0 : Hp} (q : wpB j.X sts (lift j F D) σ0 H0) (h1 : ∀ S' σ F' H, Rp j S' σ F' H → Same F F' → D.nx S' → E.nx σ H) (h2 : ∀ d v F' H, Frm j F' H → Same F F' → At j.X.K F' d v → D.rt d → E.rt v H)
    (h3 : ∀ S' σ F' H, Rp j S' σ F' H → Same F F' → D.bk S' → E.bk σ H) (h4 : ∀ S' σ F' H, Rp j S' σ F' H → Same F F' → D.ct S' → E.ct σ H) : wpB j.X sts E σ0 H0 :=
  wpB_mono (D := lift j F D) (D' := E) ⟨fun σ H ⟨S', F', a, b, c⟩ => h1 S' σ F' H a b c, fun v H ⟨d, F', a, b, c, e⟩ => h2 d v F' H a b c e, fun σ H ⟨S', F', a, b, c⟩ => h3 S' σ F' H a b c, fun σ H ⟨S', F', a, b, c⟩ => h4 S' σ F' H a b c⟩ q
def initS (n : Nat) (ds : List Da) : List Sl := ds.map Sl.da ++ List.replicate (n - ds.length) .un
section
variable {P : Program} {w : World} {K : PySem.W.Frag} {mg : Str → Option Value} {base : Heap}
abbrev j0 (P : Program) (w : World) (K : PySem.W.Frag) (mg : Str → Option Value) (base : Heap) (N : List Str) (qual : Str) (scope : Scope) (f : Addr) (cd : Value) (A : Around) (outer : List Env) (s : Shared) (H : Hp) (E : XK) (F : Hp) : J where
  X := (cxOf CX0 P w K mg base N qual scope f cd A outer s H E).nox
  F0 := F
  H0 := H
  xk := fun _ _ _ => False
  tk := takes0
  po := PassesOwn.never
  EX := fun _ => False
  ex := fun _ h => h.elim
abbrev jX (P : Program) (w : World) (K : PySem.W.Frag) (mg : Str → Option Value) (base : Heap) (N : List Str) (qual : Str) (scope : Scope) (f : Addr) (cd : Value) (A : Around) (outer : List Env) (s : Shared) (H : Hp) (E : XK) (F : Hp) (EX : Addr → Prop)
    (hex : ∀ C, EX C → ∀ H', Same H H' → E (.ref C) none H') : J where
  X := cxOf (L2.CX P w) P w K mg base N qual scope f cd A outer s H E
  F0 := F
  H0 := H
  xk := E
  tk := takes_of rfl rfl rfl rfl
  po := passes_of rfl
  EX := EX
  ex := hex
theorem slOk_init {j : J} {F H : Hp} : ∀ {ds : List Da} {vs : List V} (n : Nat), Ats j.X.K F ds vs → ∀ (i : Nat) (s : Sl) (o : Option V), (ds.map Sl.da ++ List.replicate n Sl.un)[i]? = some s → (vs.map some ++ List.replicate n none)[i]? = some o → SlOk j F H s o
  | [], vs, n, h, i, s, o, e1, e2 => by
    cases (show vs = [] from h)
    rw [List.map_nil, List.nil_append, List.getElem?_replicate] at e1
    split at e1
    · cases e1
      trivial
    · cases e1
  | d :: ds, _, n, ⟨v, r, h1, h2, h3⟩, 0, s, o, e1, e2 => by
    subst h1
    cases e1
    cases e2
    exact ⟨v, rfl, h2⟩
  | d :: ds, _, n, ⟨v, r, h1, h2, h3⟩, i + 1, s, o, e1, e2 => by
    subst h1
    exact slOk_init n h3 i s o e1 e2
theorem init_noOw {n : Nat} {ds : List Da} {i : Nat} {es : List Da} : (initS n ds)[i]? ≠ some (.ow es) := fun h => by
  have m := List.mem_of_getElem? h
  unfold initS at m
  rcases List.mem_append.mp m with m | m
  · obtain ⟨d, _, e⟩ := List.mem_map.mp m
    cases e
  · cases (List.mem_replicate.mp m).2
theorem rp_init {j : J} {ds : List Da} {vs : List V} {N : List Str} (h : Same j.F0 j.H0) (a : Ats j.X.K j.F0 ds vs) : Rp j (initS N.length ds) (L2.start N vs) j.F0 j.H0 := by
  refine ⟨⟨h, fun _ _ z => z, fun _ _ z => z, fun _ _ z => .inl z⟩, ?_, fun i s o e1 e2 => ?_, fun i k ds es l _ h1 => absurd h1 init_noOw⟩
  · unfold initS L2.start
    simp only [List.length_append, List.length_map, List.length_replicate, a.length]
  · unfold initS at e1
    unfold L2.start at e2
    rw [a.length] at e2
    exact slOk_init _ a i s o e1 e2
theorem fn0 {x qual : Str} {st : Stmt} {f : Addr} {fd : FuncData} {N ps : List Str} {k : Nat} {G : List Da → Da → Prop} (F : Fun K x qual st f fd) (Sc : FnScope N ps (defScope st)) (hlen : ∀ ds d, G ds d → ds.length = ps.length)
    (body : ∀ (cdv : Value) (A : Around) (outer : List Env) (s : Shared) (H : Hp) (E : XK) (Fr : Hp) (ds : List Da) (R : Da → Prop), Room k (A.deeper (envOfC qual (defScope st) s.heap.objs.size f cdv)) → (∃ d, G ds d ∧ R d) →
      DB (j0 P w K mg base N qual (defScope st) f cdv A outer s H E Fr) (initS N.length ds) (defBody st) { nx := fun _ => R .non, rt := R }) : FnOk P w K mg base CX0 (k + 1) f fd ps (sp0 K G) := by
  refine F.ok Sc (fun vs H Q E ⟨Fr, ds, d, e, a, g, _⟩ => by rw [a.length, hlen ds d g]) (fun cdv A outer s H vs Q E hr ⟨Fr, ds, d, e, a, g, q⟩ => ?_)
  have b := body cdv A outer s H E Fr ds (fun x => x = d) hr ⟨d, g, rfl⟩
  have rp : Rp (j0 P w K mg base N qual (defScope st) f cdv A outer s H E Fr) (initS N.length ds) (L2.start N vs) Fr H := rp_init (j := j0 P w K mg base N qual (defScope st) f cdv A outer s H E Fr) e a
  have fin : ∀ {d' : Da} {v : V} {F' H' : Hp}, Frm (j0 P w K mg base N qual (defScope st) f cdv A outer s H E Fr) F' H' → At K F' d' v → d' = d → Q v H' := fun {d' v F' H'} fr h1 h2 => by
    subst h2
    exact q v F' H' ⟨fr.f0, fr.ext, fr.h0, fr.new⟩ h1
  exact ⟨wpB _ (defBody st), pss_wp, wpB_lift (E := { nx := fun _ H' => Q .non H', rt := Q }) (b _ _ _ rp) (fun S' σ F' H' rp' _ h => fin (v := .non) (d' := .non) rp'.toFrm rfl h) (fun d' v F' H' fr _ h1 h2 => fin fr h1 h2) (fun _ _ _ _ _ _ z => z.elim) (fun _ _ _ _ _ _ z => z.elim)⟩
theorem fnX {x qual : Str} {st : Stmt} {f : Addr} {fd : FuncData} {N ps : List Str} {k : Nat} {G : List Da → Da → Prop} {Xc : List Da → Addr → Prop} (F : Fun K x qual st f fd) (Sc : FnScope N ps (defScope st)) (hlen : ∀ ds d, G ds d → ds.length = ps.length) (hlen' : ∀ ds C, Xc ds C → ds.length = ps.length)
    (body : ∀ (cdv : Value) (A : Around) (outer : List Env) (s : Shared) (H : Hp) (E : XK) (Fr : Hp) (EX : Addr → Prop) (hex : ∀ C, EX C → ∀ H', Same H H' → E (.ref C) none H') (ds : List Da) (R : Da → Prop), Room k (A.deeper (envOfC qual (defScope st) s.heap.objs.size f cdv)) → ((∃ d, G ds d ∧ R d) ∨ ∃ C, Xc ds C ∧ EX C) →
      DB (jX P w K mg base N qual (defScope st) f cdv A outer s H E Fr EX hex) (initS N.length ds) (defBody st) { nx := fun _ => R .non, rt := R }) : FnOk P w K mg base (L2.CX P w) (k + 1) f fd ps (spX K G Xc) := by
  refine F.okX Sc (fun vs H Q E ⟨Fr, ds, e, a, g⟩ => ?_) (fun cdv A outer s H vs Q E hr ⟨Fr, ds, e, a, g⟩ => ?_)
  · rcases g with ⟨d, g, _⟩ | ⟨C, g, _⟩
    · rw [a.length, hlen ds d g]
    · rw [a.length, hlen' ds C g]
  · rcases g with ⟨d, g, q⟩ | ⟨C, g, q⟩
    · have b := body cdv A outer s H E Fr (fun _ => False) (fun _ h => h.elim) ds (fun x => x = d) hr (.inl ⟨d, g, rfl⟩)
      have rp := rp_init (j := jX P w K mg base N qual (defScope st) f cdv A outer s H E Fr (fun _ => False) (fun _ h => h.elim)) (N := N) e a
      have fin : ∀ {d' : Da} {v : V} {F' H' : Hp}, Frm (jX P w K mg base N qual (defScope st) f cdv A outer s H E Fr (fun _ => False) (fun _ h => h.elim)) F' H' → At K F' d' v → d' = d → Q v H' := fun {d' v F' H'} fr h1 h2 => by
        subst h2
        exact q v F' H' ⟨fr.f0, fr.ext, fr.h0, fr.new⟩ h1
      exact ⟨wpB _ (defBody st), pss_wp, wpB_lift (E := { nx := fun _ H' => Q .non H', rt := Q }) (b _ _ _ rp) (fun S' σ F' H' rp' _ h => fin (v := .non) (d' := .non) rp'.toFrm rfl h) (fun d' v F' H' fr _ h1 h2 => fin fr h1 h2) (fun _ _ _ _ _ _ z => z.elim) (fun _ _ _ _ _ _ z => z.elim)⟩
    · have b := body cdv A outer s H E Fr (fun C' => C' = C) (fun C' h H' sm => by subst h; exact q H' sm) ds (fun x => False) hr (.inr ⟨C, g, rfl⟩)
      have rp := rp_init (j := jX P w K mg base N qual (defScope st) f cdv A outer s H E Fr (fun C' => C' = C) (fun C' h H' sm => by subst h; exact q H' sm)) (N := N) e a
      exact ⟨wpB _ (defBody st), pss_wp, wpB_lift (E := { nx := fun _ H' => Q .non H', rt := Q }) (b _ _ _ rp) (fun _ _ _ _ _ _ z => z.elim) (fun _ _ _ _ _ _ _ z => z.elim) (fun _ _ _ _ _ _ z => z.elim) (fun _ _ _ _ _ _ z => z.elim)⟩
end

/-! what is walked -/
def Yd (K : PySem.W.Frag) (Jt : It) (F1 : Hp) (xs : List Da) : Prop := ∃ (G : Hp → Prop) (Y : Nat → Hp → V → Hp → Prop), Walk Jt xs.length G Y ∧ (∀ F H, Same F1 F → Same F H → G H) ∧
  ∀ i F H x H3, i < xs.length → Same F1 F → Same F H → Y i H x H3 → ∃ d F3, xs[i]? = some d ∧ Stp F H F3 H3 ∧ At K F3 d x
def DI (j : J) (S : List Sl) (tg iter : Expr) (xs : List Da) : Prop :=
  ∀ (σ : L2.St) (F H : Hp), Rp j S σ F H → ∀ R : It → Hp → Prop, (∀ (Jt : It) (F' H' : Hp), Stp F H F' H' → Yd j.X.K Jt F' xs → R Jt H') → wpI j.X tg iter σ H R
section
variable {j : J} {S : List Sl} {D : DEnds} {pos : Pos}
theorem ds_for {tg iter : Expr} {body : List Stmt} {xs : List Da} {ws : List Nat} (I : Nat → List Sl → Prop) (hi : DI j S tg iter xs) (h0 : I 0 S)
    (hs : ∀ i d S', xs[i]? = some d → I i S' → DG j S' tg d ws fun S'' => DB j S'' body { nx := I (i + 1), ct := I (i + 1), bk := D.nx, rt := D.rt }) (hd : ∀ S', I xs.length S' → D.nx S')
    (hc : j.X.calm = true := by rfl) (hf : ∀ x, foldedSetIterable iter j.X.env x = pure x := by intro _; rfl) : DS j S (.For tg iter body [] pos) D := fun σ F H rp => by
  refine wp_ps (ps_for j.po hc pi_wp pg_wp pss_wp hf) (hi σ F H rp _ fun Jt F1 H1 s1 ⟨G, Y, W, hG, hY⟩ => ?_)
  refine for_it W (fun i σ' H' => ∃ S' F', Rp j S' σ' F' H' ∧ Same F1 F' ∧ I i S') ⟨S, F1, rp.step s1, fun _ _ z => z, h0⟩ (fun i σ' H' _ ⟨S', F', rp', e, _⟩ => hG F' H' e rp'.ext) ?_ (fun σ' H' ⟨S', F', rp', e, q⟩ => ⟨S', F', rp', s1.f.trans e, hd S' q⟩)
  rintro i x σ' H' H3 hlt ⟨S', F', rp', e, q⟩ y
  obtain ⟨d, F3, hd', s3, a3⟩ := hY i F' H' x H3 hlt e rp'.ext y
  refine hs i d S' hd' q σ' F3 H3 x (rp'.step s3) a3 _ fun S2 σ2 rp2 _ _ hb => ?_
  have e3 : Same F1 F3 := e.trans s3.f
  exact wpB_lift (hb σ2 F3 H3 rp2) (fun S' σ F2 H a b c => ⟨S', F2, a, e3.trans b, c⟩) (fun d v F2 H a b c f => ⟨d, F2, a, (s1.f.trans e3).trans b, c, f⟩) (fun S' σ F2 H a b c => ⟨S', F2, a, (s1.f.trans e3).trans b, c⟩) (fun S' σ F2 H a b c => ⟨S', F2, a, e3.trans b, c⟩)
theorem ds_while {c : Expr} {body : List Stmt} (I : Nat → List Sl → Prop) {m0 : Nat} (h0 : I m0 S)
    (hs : ∀ m S', I m S' → ∃ b, DT j S' c b ∧ (b = true → DB j S' body { nx := fun S'' => ∃ m', m' < m ∧ I m' S'', ct := fun S'' => ∃ m', m' < m ∧ I m' S'', bk := D.nx, rt := D.rt }) ∧ (b = false → D.nx S')) : DS j S (.While c body [] pos) D := fun σ F H rp => by
  refine wp_ps (ps_while j.po pt_wp pss_wp) ⟨fun m σ' H' => ∃ S' F', Rp j S' σ' F' H' ∧ Same F F' ∧ I m S', ⟨m0, S, F, rp, fun _ _ z => z, h0⟩, ?_⟩
  rintro m σ' H' ⟨S', F', rp', e, q⟩
  obtain ⟨b, ht, h1, h2⟩ := hs m S' q
  refine ht σ' F' H' rp' _ fun F1 H1 s1 => ?_
  cases b with
  | true =>
    refine iteT ⟨fun σ2 H2 => ∃ S2 F2, Rp j S2 σ2 F2 H2 ∧ Same F F2 ∧ ∃ m', m' < m ∧ I m' S2, fun σ2 H2 ⟨S2, F2, a, b, m', c, d⟩ => ⟨m', c, S2, F2, a, b, d⟩, ?_⟩
    have e1 : Same F F1 := e.trans s1.f
    exact wpB_lift (h1 rfl σ' F1 H1 (rp'.step s1)) (fun S' σ F2 H a b c => ⟨S', F2, a, e1.trans b, c⟩) (fun d v F2 H a b c f => ⟨d, F2, a, e1.trans b, c, f⟩) (fun S' σ F2 H a b c => ⟨S', F2, a, e1.trans b, c⟩) (fun S' σ F2 H a b c => ⟨S', F2, a, e1.trans b, c⟩)
  | false => exact iteF ⟨S', F1, rp'.step s1, e.trans s1.f, h2 rfl⟩

/-! comprehensions -/
def wipeS (S : List Sl) : List Nat → List Sl
  | [] => S
  | v :: vs => (wipeS S vs).set v .un
abbrev jB (j : J) (F : Hp) (s : Shared) (H : Hp) (scope : Scope) (C : Addr) (cl : List (Str × Addr)) (fp : List Addr) : J where
  X := j.X.blk s H scope (compEnvC scope cl C j.X.env) fp
  F0 := F
  H0 := j.H0
  xk := fun _ _ _ => False
  tk := takes0
  po := PassesOwn.never
  EX := fun _ => False
  ex := fun _ h => h.elim
theorem rp_wipe {σ : L2.St} {F H : Hp} (r : Rp j S σ F H) : ∀ vs : List Nat, Rp j (wipeS S vs) (wipe σ vs) F H
  | [] => r
  | v :: vs => (rp_wipe r vs).setUn
theorem rp_blk {σ : L2.St} {F1 F H : Hp} {s : Shared} {Hb : Hp} {scope : Scope} {C : Addr} {cl : List (Str × Addr)} {fp : List Addr} (r : Rp j S σ F H) (e : Same F1 F) (e0 : Same j.F0 F1) : Rp (jB j F1 s Hb scope C cl fp) S σ F H :=
  ⟨⟨r.ext, e, r.h0, fun a o q => (r.new a o q).imp (e0 a o) id⟩, r.len, fun i s o h1 h2 => r.sl i s o h1 h2, r.ap⟩
end
end DL
/-! DL5: list comprehensions with one name. -/
namespace DL
open PySem PySem.Spec PyProof.Rows L2
def wpTs (X : Cx) (ifs : List Expr) : TT := fun σ H Q => ∀ (pins : List (Addr × Obj)) (s : Shared), Inv X pins σ H s →
    wpAny (model X.prog X.w) X.A (forIn ifs true fun c r => if r = true then do let ok ← isTrue c X.env (eval c X.env); pure (ForInStep.yield ok) else pure (ForInStep.yield r)) (TP X pins σ Q) X.xe s
theorem pts_wp {X : Cx} {ifs : List Expr} : PTs X ifs (wpTs X ifs) := ⟨fun pins s σ H Q I h => h pins s I⟩
theorem wp_pts {X : Cx} {ifs : List Expr} {t : TT} {σ : L2.St} {H : Hp} {Q} (h : PTs X ifs t) (q : t σ H Q) : wpTs X ifs σ H Q := fun pins s I => h.run pins s σ H Q I q
def DTs (j : J) (S : List Sl) (ifs : List Expr) (b : Bool) : Prop :=
  ∀ (σ : L2.St) (F H : Hp), Rp j S σ F H → ∀ QQ : Bool → Hp → Prop, (∀ (F' H' : Hp), Stp F H F' H' → QQ b H') → wpTs j.X ifs σ H QQ
theorem dts_nil {j : J} {S : List Sl} : DTs j S [] true := fun σ F H rp QQ k => wp_pts pts_nil (k F H (.refl rp.ext))
theorem dts_one {j : J} {S : List Sl} {c : Expr} {b : Bool} (h : DT j S c b) : DTs j S [c] b := fun σ F H rp QQ k => wp_pts (pts_one pt_wp) (h σ F H rp _ k)
section
variable {j : J} {S : List Sl}
def gB (j : J) (scope : Scope) (tg : Expr) : TG := fun v σ H Q => ∀ (s : Shared) (Hb : Hp) (C : Addr) (cl : List (Str × Addr)) (fp : List Addr), wpG (j.X.blk s Hb scope (compEnvC scope cl C j.X.env) fp) tg v σ H Q
def ttB (j : J) (scope : Scope) (ifs : List Expr) : TT := fun σ H Q => ∀ (s : Shared) (Hb : Hp) (C : Addr) (cl : List (Str × Addr)) (fp : List Addr), wpTs (j.X.blk s Hb scope (compEnvC scope cl C j.X.env) fp) ifs σ H Q
def teB (j : J) (scope : Scope) (e : Expr) : TE := fun σ H Q => ∀ (s : Shared) (Hb : Hp) (C : Addr) (cl : List (Str × Addr)) (fp : List Addr), wpE (j.X.blk s Hb scope (compEnvC scope cl C j.X.env) fp) e σ H Q
theorem wipe_one {σ σ' : L2.St} {i : Nat} (hl : σ'.length = σ.length) (h : ∀ k, k ∉ [i] → σ'[k]? = σ[k]?) : σ'.set i none = σ.set i none := by
  refine List.ext_getElem? fun k => ?_
  by_cases e : i = k
  · subst e
    simp only [List.getElem?_set, if_true, hl]
  · rw [List.getElem?_set_ne e, List.getElem?_set_ne e]
    exact h k (by simpa using Ne.symm e)
theorem filter_take_succ {α : Type} {xs : List α} {n : Nat} {a : α} (p : α → Bool) (h : xs[n]? = some a) : (xs.take (n + 1)).filter p = (xs.take n).filter p ++ (if p a = true then [a] else []) := by
  obtain ⟨hn, e⟩ := List.getElem?_eq_some_iff.mp h
  rw [List.take_succ, h, List.filter_append]
  show _ ++ List.filter p [a] = _
  rw [List.filter_cons]
  cases p a <;> rfl
theorem lc_main {α : Type} {x : Str} {i : Nat} {elt iter : Expr} {ifs : List Expr} {scope : Scope} {tp : Pos} {σ : L2.St} {F H : Hp} (xs : List α) (em : α → Da) (p : α → Bool) (g : α → Da) (rp : Rp j S σ F H) (hi : DI j S (.Name x tp) iter (xs.map em)) (hz : xs.length ≤ 1000000)
    (hl : ∀ (s : Shared) (Hb : Hp) (C : Addr) (cl : List (Str × Addr)) (fp : List Addr), LM (j.X.blk s Hb scope (compEnvC scope cl C j.X.env) fp) x i)
    (ht : ∀ (F1 : Hp) (s : Shared) (Hb : Hp) (C : Addr) (cl : List (Str × Addr)) (fp : List Addr) (a : α), a ∈ xs → DTs (jB j F1 s Hb scope C cl fp) (S.set i (.da (em a))) ifs (p a))
    (he : ∀ (F1 : Hp) (s : Shared) (Hb : Hp) (C : Addr) (cl : List (Str × Addr)) (fp : List Addr) (a : α), a ∈ xs → p a = true → DE (jB j F1 s Hb scope C cl fp) (S.set i (.da (em a))) elt (g a))
    {Q : VK} (k : ∀ (D : Addr) (F' H' : Hp) (ws : List V), Stp F H F' H' → F' D = none → H D = none → H' D = some (.lst ws) → Ats j.X.K F' ((xs.filter p).map g) ws → Q (.ref D) H') :
    tLc (wpI j.X (.Name x tp) iter) (gB j scope (.Name x tp)) (ttB j scope ifs) (teB j scope elt) [i] σ H Q := by
  refine hi σ F H rp _ fun Jt F1 H1 s1 ⟨G, Y, W, hG, hY⟩ => fun D hD => ?_
  rw [List.length_map] at W hY
  have rp1 := rp.step s1
  have hFD : F1 D = none := s1.e.free hD
  have hf0 := rp1.f0
  refine lc_it W (fun n H' => ∃ F' acc, Same F1 F' ∧ Same F' H' ∧ F' D = none ∧ Same H1 H' ∧ (∀ a o, F' a = some o → F1 a = some o ∨ H1 a = none) ∧ H' D = some (.lst acc) ∧ Ats j.X.K F' (((xs.take n).filter p).map g) acc)
    ⟨F1, [], fun _ _ z => z, fun a o z => by rw [upd_ne (ne_of_none (s1.e _ _ z) hD)]; exact s1.e _ _ z, hFD, fun a o z => by rw [upd_ne (ne_of_none z hD)]; exact z, fun _ _ z => .inl z, upd_same, rfl⟩
    (fun n H' _ ⟨F', acc, a, b, _⟩ => hG F' H' a b) ?_ (fun H' ⟨F', acc, a, b, c, d, e, f, h⟩ => ?_)
  · rintro n v H' H3 hn ⟨F', acc, a1, a2, a3, a4, a5, a6, a7⟩ y
    obtain ⟨d, F3, hd, s3, ad⟩ := hY n F' H' v H3 hn a1 a2 y
    rw [List.getElem?_map, List.getElem?_eq_getElem hn] at hd
    cases hd
    have hm : xs[n] ∈ xs := List.getElem_mem hn
    -- the state of the block
    have rpw : Rp j (S.set i .un) (σ.set i none) F3 H3 := by
      have st : Stp F1 H1 F3 H3 := ⟨a1.trans s3.f, s3.e, a4.trans s3.h, fun a o q => by
        rcases s3.new a o q with q | q
        · exact a5 a o q
        · exact .inr (a4.free q)⟩
      exact (rp1.step st).setUn
    have e13 : Same F1 F3 := a1.trans s3.f
    have hF3 : F3 D = none := by
      cases z : F3 D with
      | none => rfl
      | some o =>
        rcases s3.new D o z with z | z
        · rw [a3] at z; cases z
        · rw [a6] at z; cases z
    show gB j scope (.Name x tp) v (σ.set i none) H3 _
    intro s Hb C cl fp
    have dg : DG (jB j F1 s Hb scope C cl fp) (S.set i .un) (.Name x tp) (em xs[n]) [i] (fun S' => S' = S.set i (.da (em xs[n]))) := dg_nm (hl s Hb C cl fp) (by simp) (List.set_set ..)
    refine dg (σ.set i none) F3 H3 v (rp_blk rpw e13 hf0) ad _ fun S' σ2 rp2 hlen hfr e2 => ?_
    subst e2
    have hw : σ2.set i none = σ.set i none := wipe_one (by rw [hlen, List.length_set]) fun k hk => by
      rw [hfr k hk, List.getElem?_set_ne]
      rintro rfl
      exact hk (by simp)
    refine ⟨hw, fun s Hb C cl fp => ?_⟩
    have rp2' : Rp (jB j F1 s Hb scope C cl fp) (S.set i (.da (em xs[n]))) σ2 F3 H3 := ⟨⟨rp2.ext, rp2.f0, rp2.h0, rp2.new⟩, rp2.len, fun i s o h1 h2 => rp2.sl i s o h1 h2, rp2.ap⟩
    refine ht F1 s Hb C cl fp xs[n] hm σ2 F3 H3 rp2' _ fun F4 H4 s4 => ?_
    have tk := filter_take_succ (n := n) p (List.getElem?_eq_getElem hn)
    have hlen2 := a7.length
    have hzz : acc.length < 1000000 := by
      have h1 := List.length_filter_le p (xs.take n)
      rw [List.length_map] at hlen2
      rw [List.length_take] at h1
      omega
    have a7' : Ats j.X.K F4 (((xs.take n).filter p).map g) acc := Ats.mono (s3.f.trans s4.f) _ _ a7
    have hF4 : F4 D = none := by
      cases z : F4 D with
      | none => rfl
      | some o =>
        rcases s4.new D o z with z | z
        · rw [hF3] at z; cases z
        · rw [s3.h _ _ a6] at z; cases z
    have nw4 : ∀ a o, F4 a = some o → F1 a = some o ∨ H1 a = none := fun a o q => by
      rcases s4.new a o q with q | q
      · rcases s3.new a o q with q | q
        · exact a5 a o q
        · exact .inr (a4.free q)
      · exact .inr (a4.free (s3.h.free q))
    cases hp : p xs[n] with
    | false =>
      rw [hp] at tk
      refine iteF ⟨F4, acc, e13.trans s4.f, s4.e, hF4, (a4.trans s3.h).trans s4.h, nw4, s4.h _ _ (s3.h _ _ a6), ?_⟩
      rw [tk]
      simpa using a7'
    | true =>
      rw [hp] at tk
      refine iteT fun s Hb C cl fp => ?_
      have rp4 : Rp (jB j F1 s Hb scope C cl fp) (S.set i (.da (em xs[n]))) σ2 F4 H4 := (show Rp (jB j F1 s Hb scope C cl fp) (S.set i (.da (em xs[n]))) σ2 F3 H3 from ⟨⟨rp2.ext, rp2.f0, rp2.h0, rp2.new⟩, rp2.len, fun i s o h1 h2 => rp2.sl i s o h1 h2, rp2.ap⟩).step s4
      refine he F1 s Hb C cl fp xs[n] hm hp σ2 F4 H4 rp4 _ fun u F5 H5 s5 a8 => ?_
      have hD5 : H5 D = some (.lst acc) := s5.h _ _ (s4.h _ _ (s3.h _ _ a6))
      have hF5 : F5 D = none := by
        cases z : F5 D with
        | none => rfl
        | some o =>
          rcases s5.new D o z with z | z
          · rw [hF4] at z; cases z
          · rw [s4.h _ _ (s3.h _ _ a6)] at z; cases z
      refine ⟨acc, hD5, sz_lt hzz, F5, acc ++ [u], (e13.trans s4.f).trans s5.f, fun a o q => ?_, hF5, fun a o q => ?_, fun a o q => ?_, upd_same, ?_⟩
      · rw [upd_ne (ne_of_none q hF5)]
        exact s5.e _ _ q
      · rw [upd_ne (ne_of_none q hD)]
        exact s5.h _ _ (s4.h _ _ (s3.h _ _ (a4 _ _ q)))
      · rcases s5.new a o q with q | q
        · exact nw4 a o q
        · exact .inr (a4.free (s3.h.free (s4.h.free q)))
      · rw [tk, List.map_append]
        exact (Ats.mono s5.f _ _ a7').append (Ats.one a8)
  · rw [List.take_length] at h
    exact k D F' H' acc ⟨s1.f.trans a, b, s1.h.trans d, fun a o q => by
      rcases e a o q with q | q
      · exact s1.new a o q
      · exact .inr (s1.h.free q)⟩ c (s1.h.free hD) f h
theorem de_lc {α : Type} {x : Str} {i : Nat} {elt iter : Expr} {ifs : List Expr} {scope : Scope} {tp pos : Pos} {ds : List Da} (xs : List α) (em : α → Da) (p : α → Bool) (g : α → Da) (hi : DI j S (.Name x tp) iter ds) (hz : xs.length ≤ 1000000) (ok : BlkOk j.X.N j.X.env.scope scope [(x, i)])
    (hl : ∀ (s : Shared) (Hb : Hp) (C : Addr) (cl : List (Str × Addr)) (fp : List Addr), LM (j.X.blk s Hb scope (compEnvC scope cl C j.X.env) fp) x i)
    (ht : ∀ (F1 : Hp) (s : Shared) (Hb : Hp) (C : Addr) (cl : List (Str × Addr)) (fp : List Addr) (a : α), a ∈ xs → DTs (jB j F1 s Hb scope C cl fp) (S.set i (.da (em a))) ifs (p a))
    (he : ∀ (F1 : Hp) (s : Shared) (Hb : Hp) (C : Addr) (cl : List (Str × Addr)) (fp : List Addr) (a : α), a ∈ xs → p a = true → DE (jB j F1 s Hb scope C cl fp) (S.set i (.da (em a))) elt (g a))
    (hN : j.X.N.Nodup) (hds : ds = xs.map em := by rfl) (hc : j.X.calm = true := by rfl) (hs : ∀ x, foldedSetIterable iter j.X.env x = pure x := by intro _; rfl) : DE j S (.ListComp elt [⟨.Name x tp, iter, ifs, 0⟩] scope pos) (.lst ((xs.filter p).map g)) := fun σ F H rp QQ kk =>
  wp_pe (pe_lc (wi := wpI j.X (.Name x tp) iter) (g := gB j scope (.Name x tp)) (tt := ttB j scope ifs) (te := teB j scope elt) hc hN pi_wp ok (fun s H C cl fp => ⟨fun pins s' σ H' v u Q I r h => h s H C cl fp pins s' u I r⟩) (fun s H C cl fp => ⟨fun pins s' σ H' Q I h => h s H C cl fp pins s' I⟩)
      (fun s H C cl fp => ⟨fun pins s' σ H' Q I h => h s H C cl fp pins s' I⟩) hs)
    (lc_main xs em p g rp (hds ▸ hi) hz hl ht he fun D F' H' ws st h1 h2 h3 h4 => by
      have sF : Same F' (upd F' D (.lst ws)) := fun a o q => by rw [upd_ne (ne_of_none q h1)]; exact q
      refine kk _ (upd F' D (.lst ws)) H' ⟨st.f.trans sF, fun a o q => ?_, st.h, fun a o q => ?_⟩ ⟨D, ws, rfl, upd_same, Ats.mono sF _ _ h4⟩
      · by_cases z : a = D
        · subst z
          rw [upd_same] at q
          cases q
          exact h3
        · rw [upd_ne z] at q
          exact st.e _ _ q
      · by_cases z : a = D
        · subst z
          exact .inr h2
        · rw [upd_ne z] at q
          exact st.new _ _ q)
theorem ds_setLc {α : Type} {D : DEnds} {x y : Str} {i iy : Nat} {elt iter : Expr} {ifs : List Expr} {scope : Scope} {tp pos spos py : Pos} {ds : List Da} (xs : List α) (em : α → Da) (p : α → Bool) (g : α → Da) (ly : LM j.X y iy) (hyl : j.X.env.scope.names.lookup y = some .local) (hi : DI j S (.Name x tp) iter ds) (hz : xs.length ≤ 1000000) (ok : BlkOk j.X.N j.X.env.scope scope [(x, i)])
    (hl : ∀ (s : Shared) (Hb : Hp) (C : Addr) (cl : List (Str × Addr)) (fp : List Addr), LM (j.X.blk s Hb scope (compEnvC scope cl C j.X.env) fp) x i)
    (ht : ∀ (F1 : Hp) (s : Shared) (Hb : Hp) (C : Addr) (cl : List (Str × Addr)) (fp : List Addr) (a : α), a ∈ xs → DTs (jB j F1 s Hb scope C cl fp) (S.set i (.da (em a))) ifs (p a))
    (he : ∀ (F1 : Hp) (s : Shared) (Hb : Hp) (C : Addr) (cl : List (Str × Addr)) (fp : List Addr) (a : α), a ∈ xs → p a = true → DE (jB j F1 s Hb scope C cl fp) (S.set i (.da (em a))) elt (g a))
    (k : D.nx (S.set iy (.ow ((xs.filter p).map g)))) (hsw : swapsWith (.ListComp elt [⟨.Name x tp, iter, ifs, 0⟩] scope pos) (some (.Name y py)) spos.line j.X.env = pure true)
    (hds : ds = xs.map em := by rfl) (hc : j.X.calm = true := by rfl) (hs : ∀ x, foldedSetIterable iter j.X.env x = pure x := by intro _; rfl) : DS j S (.Assign [.Name y py] (.ListComp elt [⟨.Name x tp, iter, ifs, 0⟩] scope pos) spos) D := fun σ F H rp =>
  wp_ps (ps_setLc (wi := wpI j.X (.Name x tp) iter) (g := gB j scope (.Name x tp)) (tt := ttB j scope ifs) (te := teB j scope elt) hc ly.nd ly.N hyl hsw pi_wp ok (fun s H C cl fp => ⟨fun pins s' σ H' v u Q I r h => h s H C cl fp pins s' u I r⟩) (fun s H C cl fp => ⟨fun pins s' σ H' Q I h => h s H C cl fp pins s' I⟩)
      (fun s H C cl fp => ⟨fun pins s' σ H' Q I h => h s H C cl fp pins s' I⟩) hs)
    (show tLc _ _ _ _ _ σ H (fun x H1 => gName iy x σ H1 (lift j F D).nx) from lc_main xs em p g rp (hds ▸ hi) hz hl ht he fun D' F' H' ws st h1 h2 h3 h4 => ⟨_, F', rp.newOw st h2 h3 h1 h4, st.f, k⟩)
end
end DL
/-! DL6: what is walked; operations; built-ins. -/
namespace DL
open PySem PySem.Spec PyProof.Rows L2
section
variable {j : J} {S : List Sl} {tg : Expr}
theorem yd_list {K : PySem.W.Frag} {a : Addr} {ds : List Da} {vs : List V} {F1 : Hp} (e : F1 a = some (.lst vs)) (h : Ats K F1 ds vs) : Yd K (Itl K a) F1 ds :=
  ⟨fun H => SqL K H a vs, YAt vs, by rw [← h.length]; exact walk_list, fun F H e1 e2 => .of (e2 _ _ (e1 _ _ e)), fun i F H x H3 _ e1 e2 y => by
    obtain ⟨rfl, hx⟩ := y
    obtain ⟨d, hd, ad⟩ := h.get' hx
    exact ⟨d, F, hd, .refl e2, At.mono e1 _ _ ad⟩⟩
theorem yd_tup {K : PySem.W.Frag} {a : Addr} {ds : List Da} {vs : List V} {F1 : Hp} (e : F1 a = some (.tup vs)) (h : Ats K F1 ds vs) : Yd K (Itt K a) F1 ds :=
  ⟨fun H => SqT K H a vs, YAt vs, by rw [← h.length]; exact walk_tup, fun F H e1 e2 => .of (e2 _ _ (e1 _ _ e)), fun i F H x H3 _ e1 e2 y => by
    obtain ⟨rfl, hx⟩ := y
    obtain ⟨d, hd, ad⟩ := h.get' hx
    exact ⟨d, F, hd, .refl e2, At.mono e1 _ _ ad⟩⟩
theorem yd_fn {K : PySem.W.Frag} {Jt : It} {n : Nat} {f : Nat → V} {ds : List Da} {F1 : Hp} (W : Walk Jt n (fun _ => True) (YFn f)) (hn : ds.length = n) (h : ∀ i d F, ds[i]? = some d → At K F d (f i)) : Yd K Jt F1 ds :=
  ⟨fun _ => True, YFn f, by rw [hn]; exact W, fun _ _ _ _ => trivial, fun i F H x H3 hi e1 e2 y => by
    obtain ⟨rfl, rfl⟩ := y
    exact ⟨ds[i], F, List.getElem?_eq_getElem hi, .refl e2, h i _ F (List.getElem?_eq_getElem hi)⟩⟩
theorem di_list {e : Expr} {ds : List Da} (h : DE j S e (.lst ds)) : DI j S tg e ds := fun σ F H rp R k =>
  wp_pi (pi_list pe_wp) (h σ F H rp _ fun v F1 H1 s1 ⟨a, vs, e1, e2, a1⟩ => ⟨a, e1, ⟨vs, .of (s1.e _ _ e2)⟩, k _ F1 H1 s1 (yd_list e2 a1)⟩)
theorem di_tup {e : Expr} {ds : List Da} (h : DE j S e (.tup ds)) : DI j S tg e ds := fun σ F H rp R k =>
  wp_pi (pi_tup pe_wp) (h σ F H rp _ fun v F1 H1 s1 ⟨a, vs, e1, e2, a1⟩ => ⟨a, e1, ⟨vs, .of (s1.e _ _ e2)⟩, k _ F1 H1 s1 (yd_tup e2 a1)⟩)
/-- lo, lo + 1, .. -/
def rgD (lo : Int) (n : Nat) : List Da := (List.range n).map fun i => Da.int (lo + (i : Nat))
def rgC (lo c : Int) (n : Nat) : List Da := (List.range n).map fun i => Da.int (lo + (i : Nat) * c)
theorem rgD_get {lo : Int} {n i : Nat} {d : Da} (h : (rgD lo n)[i]? = some d) : i < n ∧ d = .int (lo + (i : Nat)) := by
  unfold rgD at h
  rw [List.getElem?_map] at h
  by_cases hi : i < n
  · rw [List.getElem?_range hi] at h
    cases h
    exact ⟨hi, rfl⟩
  · rw [List.getElem?_eq_none (by rw [List.length_range]; omega)] at h
    cases h
theorem rgC_get {lo c : Int} {n i : Nat} {d : Da} (h : (rgC lo c n)[i]? = some d) : i < n ∧ d = .int (lo + (i : Nat) * c) := by
  unfold rgC at h
  rw [List.getElem?_map] at h
  by_cases hi : i < n
  · rw [List.getElem?_range hi] at h
    cases h
    exact ⟨hi, rfl⟩
  · rw [List.getElem?_eq_none (by rw [List.length_range]; omega)] at h
    cases h
theorem rgD_length {lo : Int} {n : Nat} : (rgD lo n).length = n := by unfold rgD; simp
theorem rgC_length {lo c : Int} {n : Nat} : (rgC lo c n).length = n := by unfold rgC; simp
theorem yd_rg {K : PySem.W.Frag} {lo : Int} {n : Nat} {F1 : Hp} : Yd K (Itr lo n) F1 (rgD lo n) := yd_fn walk_range rgD_length fun i d F h => by
  obtain ⟨_, rfl⟩ := rgD_get h
  rfl
theorem yd_rgC {K : PySem.W.Frag} {lo c : Int} {n : Nat} {F1 : Hp} : Yd K (Itc lo c n) F1 (rgC lo c n) := yd_fn walk_rangeC rgC_length fun i d F h => by
  obtain ⟨_, rfl⟩ := rgC_get h
  rfl
theorem di_range1 {mg : Str → Option Value} {a : Expr} {n : Int} {p pos : Pos} (hm : FreeN mg "range") (h : DE j S a (.int n)) (hn : n ≤ 1000000000) (h0 : -1000000000 ≤ n) (hg : Gl j.X "range" := by rfl) (em : j.X.mg = mg := by rfl) (hs : starEach [a] j.X.env = [(false, eval a j.X.env)] := by rfl) : DI j S tg (.Call (.Name "range" p) [a] [] pos) (rgD 0 n.toNat) := fun σ F H rp R k => by
  subst em
  exact wp_pi (pi_range1 hg hm.m (pa_cons pe_wp pa_nil hs) hs) (h σ F H rp _ fun v F1 H1 s1 a1 => ⟨n, by rw [show v = V.int n from a1], by omega, by omega, k _ F1 H1 s1 yd_rg⟩)
theorem di_range2 {mg : Str → Option Value} {a b : Expr} {m n : Int} {p pos : Pos} (hm : FreeN mg "range") (h : DE j S a (.int m)) (h' : DE j S b (.int n)) (hb : -1000000000 ≤ m ∧ m ≤ 1000000000 ∧ -1000000000 ≤ n ∧ n ≤ 1000000000) (hg : Gl j.X "range" := by rfl) (em : j.X.mg = mg := by rfl)
    (hs : starEach [a, b] j.X.env = [(false, eval a j.X.env), (false, eval b j.X.env)] := by rfl) (hs2 : starEach [b] j.X.env = [(false, eval b j.X.env)] := by rfl) : DI j S tg (.Call (.Name "range" p) [a, b] [] pos) (rgD m (n - m).toNat) := fun σ F H rp R k => by
  subst em
  exact wp_pi (pi_range2 hg hm.m (pa_cons pe_wp (pa_cons pe_wp pa_nil hs2) (by rw [hs, hs2])) hs hs2) (h σ F H rp _ fun v F1 H1 s1 a1 => h' σ F1 H1 (rp.step s1) _ fun u F2 H2 s2 a2 => ⟨m, n, by rw [show v = V.int m from a1, show u = V.int n from a2], ⟨by omega, by omega, by omega, by omega⟩, k _ F2 H2 (s1.trans s2) yd_rg⟩)
theorem di_range3 {mg : Str → Option Value} {a b c : Expr} {m n : Int} {p pos : Pos} (hm : FreeN mg "range") (h : DE j S a (.int m)) (h' : DE j S b (.int n)) (h'' : DE j S c (.int (-1))) (hb : -1000000000 ≤ m ∧ m ≤ 1000000000 ∧ -1000000000 ≤ n ∧ n ≤ 1000000000) (hg : Gl j.X "range" := by rfl) (em : j.X.mg = mg := by rfl)
    (hs : starEach [a, b, c] j.X.env = (false, eval a j.X.env) :: starEach [b, c] j.X.env := by rfl) (hs2 : starEach [b, c] j.X.env = (false, eval b j.X.env) :: starEach [c] j.X.env := by rfl) (hs3 : starEach [c] j.X.env = (false, eval c j.X.env) :: starEach [] j.X.env := by rfl)
    (hpl : (backTo pos (starEach [b, c] j.X.env)).any (·.1) = false := by rfl) :
    DI j S tg (.Call (.Name "range" p) [a, b, c] [] pos) (rgC m (-1) (m - n).toNat) := fun σ F H rp R k => by
  subst em
  exact wp_pi (pi_range3 hg hm.m (pa_cons pe_wp (pa_cons pe_wp (pa_cons pe_wp pa_nil hs3) hs2) hs) hs hpl) (h σ F H rp _ fun v F1 H1 s1 a1 => h' σ F1 H1 (rp.step s1) _ fun u F2 H2 s2 a2 => h'' σ F2 H2 ((rp.step s1).step s2) _ fun t F3 H3 s3 a3 =>
    ⟨m, n, -1, _, by rw [show v = V.int m from a1, show u = V.int n from a2, show t = V.int (-1) from a3], RgC.neg (by omega) (by omega) (by omega) (by omega), k _ F3 H3 ((s1.trans s2).trans s3) yd_rgC⟩)
theorem di_revr {mg : Str → Option Value} {a : Expr} {n : Nat} {p p2 pos pos2 : Pos} (hm : FreeN mg "range") (hr : FreeN mg "reversed") (h : DE j S a (.int (n : Int))) (hn : n ≤ 1000000000) (hg : Gl j.X "range" := by rfl) (hg2 : Gl j.X "reversed" := by rfl) (em : j.X.mg = mg := by rfl)
    (na : starEach [a] j.X.env = (false, eval a j.X.env) :: starEach [] j.X.env := by rfl) (hs : starEach [.Call (.Name "range" p2) [a] [] pos2] j.X.env = (false, eval (.Call (.Name "range" p2) [a] [] pos2) j.X.env) :: starEach [] j.X.env := by rfl) :
    DI j S tg (.Call (.Name "reversed" p) [.Call (.Name "range" p2) [a] [] pos2] [] pos) (rgC ((n : Int) - 1) (-1) n) := fun σ F H rp R k => by
  subst em
  refine wp_pi (pi_revR hg2 hr.m (prg_1 hg hm.m pe_wp na) hs) (h σ F H rp _ fun v F1 H1 s1 a1 => ⟨(n : Int), a1, by omega, by omega, by omega, by omega, ?_⟩)
  have e : (0 : Int) + ((((n : Int) - 0).toNat : Nat) : Int) - 1 = (n : Int) - 1 := by omega
  have e2 : ((n : Int) - 0).toNat = n := by omega
  show R (Itc ((0 : Int) + ((((n : Int) - 0).toNat : Nat) : Int) - 1) (-1) ((n : Int) - 0).toNat) H1
  rw [e, e2]
  exact k _ F1 H1 s1 yd_rgC
theorem di_revT {mg : Str → Option Value} {a : Expr} {ds : List Da} {p pos : Pos} (hr : FreeN mg "reversed") (h : DE j S a (.tup ds)) (hg2 : Gl j.X "reversed" := by rfl) (em : j.X.mg = mg := by rfl) (hs : starEach [a] j.X.env = (false, eval a j.X.env) :: starEach [] j.X.env := by rfl) :
    DI j S tg (.Call (.Name "reversed" p) [a] [] pos) ds.reverse := fun σ F H rp R k => by
  subst em
  refine wp_pi (RT.pi_revA hg2 hr.m pe_wp hs) (h σ F H rp _ fun v F1 H1 s1 ⟨a, vs, e1, e2, a1⟩ => ⟨a, vs, e1, .inr ⟨.of (s1.e _ _ e2), k _ F1 H1 s1 ?_⟩⟩)
  refine ⟨fun H => SqT j.X.K H a vs, fun i H x H' => H' = H ∧ vs[vs.length - 1 - i]? = some x, ?_, fun F H e1 e3 => .of (e3 _ _ (e1 _ _ e2)), fun i F H x H3 hi f1 f2 y => ?_⟩
  · rw [List.length_reverse, ← a1.length]
    exact ⟨fun i H hi q => ⟨hi, vs, vs[vs.length - 1 - i], q, List.getElem?_eq_getElem _⟩, fun H q => Nat.le_refl _, fun i H x H' hi q y => ⟨y.1, y.2 vs q⟩⟩
  · obtain ⟨rfl, hx⟩ := y
    rw [List.length_reverse] at hi
    obtain ⟨d, hd, ad⟩ := a1.get' hx
    refine ⟨d, F, ?_, .refl f2, At.mono f1 _ _ ad⟩
    rw [List.getElem?_reverse hi]
    rw [a1.length] at hd
    exact hd
end
end DL
/-! DL7: operations on data. -/
namespace DL
open PySem PySem.Spec PyProof.Rows L2
section
variable {j : J} {S : List Sl}
theorem od_i0 {f : Value → Value → Sem Value} {g : Int → Int → V} {i k : Int} {z : Da} (ho : OpR j.X f (rI0 g)) (hz : ∀ F, At j.X.K F z (g i k)) : OpD j f (.int i) (.int k) z := fun F H e vx vy ax ay QQ kk => wp_op ho ⟨i, k, ax, ay, kk _ F H (.refl e) (hz F)⟩
theorem od_iC {f : Value → Value → Sem Value} {C : Int → Int → Prop} {g : Int → Int → V} {i k : Int} {z : Da} (ho : OpR j.X f (rI C g)) (hc : C i k) (hz : ∀ F, At j.X.K F z (g i k)) : OpD j f (.int i) (.int k) z := fun F H e vx vy ax ay QQ kk => wp_op ho ⟨i, k, ax, ay, hc, kk _ F H (.refl e) (hz F)⟩
variable {i k : Int}
theorem od_add : OpD j (binaryOp .Add) (.int i) (.int k) (.int (i + k)) := od_i0 op_add fun _ => rfl
theorem od_sub : OpD j (binaryOp .Sub) (.int i) (.int k) (.int (i - k)) := od_i0 op_sub fun _ => rfl
theorem od_mul (h : CMul i k) : OpD j (binaryOp .Mult) (.int i) (.int k) (.int (i * k)) := od_iC op_mul h fun _ => rfl
theorem od_mulW (h : CMulW i k) : OpD j (binaryOp .Mult) (.int i) (.int k) (.int (i * k)) := od_iC op_mulW h fun _ => rfl
theorem od_fdiv (h : 0 < k ∧ k < 1073741824) : OpD j (binaryOp .FloorDiv) (.int i) (.int k) (.int (i / k)) := od_iC op_fdiv h fun _ => rfl
theorem od_fdivW (h : CDivW i k) : OpD j (binaryOp .FloorDiv) (.int i) (.int k) (.int (i / k)) := od_iC op_fdivW h fun _ => rfl
theorem od_mod (h : 0 < k) : OpD j (binaryOp .Mod) (.int i) (.int k) (.int (i % k)) := od_iC op_mod h fun _ => rfl
theorem od_pow (h : 0 ≤ k ∧ k ≤ 1000000 ∧ i.natAbs < 2 ^ 64) : OpD j (binaryOp .Pow) (.int i) (.int k) (.int (i ^ k.toNat)) := od_iC op_pow h fun _ => rfl
theorem od_shl (h : 0 ≤ k ∧ k ≤ 1000000 ∧ i.natAbs < 2 ^ 64) : OpD j (binaryOp .LShift) (.int i) (.int k) (.int (i * 2 ^ k.toNat)) := od_iC op_shl h fun _ => rfl
theorem od_shr (h : 0 ≤ k) : OpD j (binaryOp .RShift) (.int i) (.int k) (.int (i / 2 ^ k.toNat)) := od_iC op_shr h fun _ => rfl
theorem od_iadd : OpD j (inplaceOp .Add) (.int i) (.int k) (.int (i + k)) := od_i0 iop_add fun _ => rfl
theorem od_isub : OpD j (inplaceOp .Sub) (.int i) (.int k) (.int (i - k)) := od_i0 iop_sub fun _ => rfl
theorem od_lt : OpD j (compareOp .Lt) (.int i) (.int k) (.bl (decide (i < k))) := od_i0 op_lt fun _ => rfl
theorem od_le : OpD j (compareOp .LtE) (.int i) (.int k) (.bl (decide (i ≤ k))) := od_i0 op_le fun _ => rfl
theorem od_gt : OpD j (compareOp .Gt) (.int i) (.int k) (.bl (decide (k < i))) := od_i0 op_gt fun _ => rfl
theorem od_ge : OpD j (compareOp .GtE) (.int i) (.int k) (.bl (decide (k ≤ i))) := od_i0 op_ge fun _ => rfl
theorem od_eqI : OpD j (compareOp .Eq) (.int i) (.int k) (.bl (decide (i = k))) := fun F H e vx vy ax ay QQ kk => wp_op op_eq (by
  cases (show vx = _ from ax)
  cases (show vy = _ from ay)
  exact ⟨rfl, kk _ F H (.refl e) (by show V.bl _ = V.bl _; rw [dec_int, Bool.beq_eq_decide_eq])⟩)
theorem od_neI : OpD j (compareOp .NotEq) (.int i) (.int k) (.bl (!decide (i = k))) := fun F H e vx vy ax ay QQ kk => wp_op op_ne (by
  cases (show vx = _ from ax)
  cases (show vy = _ from ay)
  exact ⟨rfl, kk _ F H (.refl e) (by show V.bl _ = V.bl _; rw [dec_int, Bool.beq_eq_decide_eq])⟩)
theorem od_eqS {a b : Str} : OpD j (compareOp .Eq) (.str a) (.str b) (.bl (decide (a = b))) := fun F H e vx vy ax ay QQ kk => wp_op op_eq (by
  cases (show vx = _ from ax)
  cases (show vy = _ from ay)
  exact ⟨rfl, kk _ F H (.refl e) (by show V.bl _ = V.bl _; rw [dec_str, Bool.beq_eq_decide_eq])⟩)
theorem od_neS {a b : Str} : OpD j (compareOp .NotEq) (.str a) (.str b) (.bl (!decide (a = b))) := fun F H e vx vy ax ay QQ kk => wp_op op_ne (by
  cases (show vx = _ from ax)
  cases (show vy = _ from ay)
  exact ⟨rfl, kk _ F H (.refl e) (by show V.bl _ = V.bl _; rw [dec_str, Bool.beq_eq_decide_eq])⟩)
theorem od_neB {a b : Bool} : OpD j (compareOp .NotEq) (.bl a) (.bl b) (.bl (!decide (a = b))) := fun F H e vx vy ax ay QQ kk => wp_op op_ne (by
  cases (show vx = _ from ax)
  cases (show vy = _ from ay)
  exact ⟨rfl, kk _ F H (.refl e) (by show V.bl _ = V.bl _; rw [dec_bl, Bool.beq_eq_decide_eq])⟩)
theorem od_eqB {a b : Bool} : OpD j (compareOp .Eq) (.bl a) (.bl b) (.bl (decide (a = b))) := fun F H e vx vy ax ay QQ kk => wp_op op_eq (by
  cases (show vx = _ from ax)
  cases (show vy = _ from ay)
  exact ⟨rfl, kk _ F H (.refl e) (by show V.bl _ = V.bl _; rw [dec_bl, Bool.beq_eq_decide_eq])⟩)
def isNon : Da → Bool
  | .non => true
  | _ => false
theorem isNon_at {K : PySem.W.Frag} {F : Hp} {d : Da} {v : V} (h : At K F d v) : decide (v = .non) = isNon d := by
  cases d with
  | non => cases (show v = _ from h); rfl
  | bl _ => cases (show v = _ from h); rfl
  | int _ => cases (show v = _ from h); rfl
  | str _ => cases (show v = _ from h); rfl
  | fn _ => cases (show v = _ from h); rfl
  | ty _ => cases (show v = _ from h); rfl
  | tup _ => obtain ⟨a, vs, rfl, _⟩ := h; rfl
  | lst _ => obtain ⟨a, vs, rfl, _⟩ := h; rfl
  | ob _ _ _ => obtain ⟨a, dx, vs, rfl, _⟩ := h; rfl
  | obw _ _ _ => obtain ⟨a, dx, fs, vs, rfl, _⟩ := h; rfl
  | exc _ => obtain ⟨a, rfl, _⟩ := h; rfl
  | dic => obtain ⟨a, rfl, _⟩ := h; rfl
  | scr _ => obtain ⟨a, rfl, _⟩ := h; rfl
theorem od_isN {d : Da} : OpD j (compareOp .Is) d .non (.bl (isNon d)) := fun F H e vx vy ax ay QQ kk => wp_op op_isN ⟨ay, kk _ F H (.refl e) (by rw [← isNon_at ax]; rfl)⟩
theorem od_isnN {d : Da} : OpD j (compareOp .IsNot) d .non (.bl (!isNon d)) := fun F H e vx vy ax ay QQ kk => wp_op op_notN ⟨ay, kk _ F H (.refl e) (by rw [← isNon_at ax]; rfl)⟩
theorem ud_neg : UnD j (unaryOp .USub) (.int i) (.int (-i)) := fun F H e vx ax QQ kk => wp_un un_neg ⟨i, ax, kk _ F H (.refl e) rfl⟩
/-! texts, tuples, lists: + -/
theorem od_addS {a b : Str} (h : a.length + b.length ≤ 1000000) : OpD j (binaryOp .Add) (.str a) (.str b) (.str (a ++ b)) := fun F H e vx vy ax ay QQ kk => wp_op op_add_str ⟨a, b, ax, ay, sz_le h, kk _ F H (.refl e) rfl⟩
theorem od_addT {xs ys : List Da} (h : xs.length + ys.length ≤ 1000000) : OpD j (binaryOp .Add) (.tup xs) (.tup ys) (.tup (xs ++ ys)) := fun F H e vx vy ⟨a, vs, e1, h1, a1⟩ ⟨b, ws, e2, h2, a2⟩ QQ kk => by
  have l1 := a1.length
  have l2 := a2.length
  refine wp_op op_catA ⟨a, b, vs, ws, e1, e2, .of (e _ _ h1), .of (e _ _ h2), sz_le (by omega), fun hx => ?_, fun _ hy => ?_, fun _ _ p hp => ?_⟩
  · subst hx
    cases xs with
    | nil => exact kk _ F H (.refl e) ⟨b, ws, rfl, h2, a2⟩
    | cons _ _ => cases l1
  · subst hy
    cases ys with
    | nil => exact kk _ F H (.refl e) ⟨a, vs, rfl, h1, by rw [List.append_nil]; exact a1⟩
    | cons _ _ => cases l2
  · have st := Stp.alloc e hp (.tup (vs ++ ws))
    exact kk _ _ _ st ⟨p, _, rfl, upd_same, (Ats.mono st.f _ _ a1).append (Ats.mono st.f _ _ a2)⟩
theorem od_addL {xs ys : List Da} (h : xs.length + ys.length ≤ 1000000) : OpD j (binaryOp .Add) (.lst xs) (.lst ys) (.lst (xs ++ ys)) := fun F H e vx vy ⟨a, vs, e1, h1, a1⟩ ⟨b, ws, e2, h2, a2⟩ QQ kk => by
  have l1 := a1.length
  have l2 := a2.length
  refine wp_op op_cat ⟨a, b, vs, ws, e1, e2, e _ _ h1, e _ _ h2, sz_le (by omega), fun p hp => ?_⟩
  have st := Stp.alloc e hp (.lst (vs ++ ws))
  exact kk _ _ _ st ⟨p, _, rfl, upd_same, (Ats.mono st.f _ _ a1).append (Ats.mono st.f _ _ a2)⟩
theorem flat_rep {v : V} : ∀ n : Nat, (List.replicate n [v]).flatten = List.replicate n v
  | 0 => rfl
  | n + 1 => by rw [List.replicate_succ, List.flatten_cons, flat_rep n]; rfl
theorem od_rep {d : Da} (h : 0 ≤ k ∧ k ≤ 1000000) : OpD j (binaryOp .Mult) (.lst [d]) (.int k) (.lst (List.replicate k.toNat d)) := fun F H e vx vy ⟨a, vs, e1, h1, a1⟩ ay QQ kk => by
  obtain ⟨v, r, e2, a2, a3⟩ := a1
  cases (show r = [] from a3)
  subst e2
  refine wp_op op_rep ⟨a, k, [v], e1, ay, e _ _ h1, by omega, by omega, sz_le (by simp; omega), fun p hp => ?_⟩
  rw [flat_rep]
  have st := Stp.alloc e hp (.lst (List.replicate k.toNat v))
  exact kk _ _ _ st ⟨p, _, rfl, upd_same, Ats.rep (At.mono st.f _ _ a2) _⟩
/-! == of data -/
mutual
def toP : Da → PyData
  | .non => .none
  | .bl b => .bool b
  | .int i => .int i
  | .str x => .str x
  | .tup ds => .tuple (toPs ds)
  | .lst ds => .list (toPs ds)
  | _ => .dict []
def toPs : List Da → List PyData
  | [] => []
  | d :: ds => toP d :: toPs ds
end
mutual
theorem dp_of {K : PySem.W.Frag} {F H : Hp} (e : Same F H) : ∀ (d : Da) (v : V), (toP d).canLay0 = true → At K F d v → Dp K H v (toP d)
  | .non, _, _, h => by cases (show _ = _ from h); exact .non
  | .bl _, _, _, h => by cases (show _ = _ from h); exact .bl _
  | .int _, _, _, h => by cases (show _ = _ from h); exact .int _
  | .str _, _, _, h => by cases (show _ = _ from h); exact .str _
  | .tup ds, _, c, ⟨a, vs, e1, h1, a1⟩ => by
    subst e1
    exact .tup (.of (e _ _ h1)) (dps_of e ds vs c a1)
  | .lst ds, _, c, ⟨a, vs, e1, h1, a1⟩ => by
    subst e1
    exact .lst (.of (e _ _ h1)) (dps_of e ds vs c a1)
  | .ob _ _ _, _, c, _ => by cases c
  | .obw _ _ _, _, c, _ => by cases c
  | .exc _, _, c, _ => by cases c
  | .fn _, _, c, _ => by cases c
  | .ty _, _, c, _ => by cases c
  | .dic, _, c, _ => by cases c
  | .scr _, _, c, _ => by cases c
theorem dps_of {K : PySem.W.Frag} {F H : Hp} (e : Same F H) : ∀ (ds : List Da) (vs : List V), PyData.canLayAll0 (toPs ds) = true → Ats K F ds vs → DpAll K H vs (toPs ds)
  | [], _, _, h => by cases (show _ = [] from h); exact .nil
  | d :: ds, _, c, ⟨v, r, e1, h1, h2⟩ => by
    subst e1
    have c' := Bool.and_eq_true_iff.mp (show ((toP d).canLay0 && PyData.canLayAll0 (toPs ds)) = true from c)
    exact .cons (dp_of e d v c'.1 h1) (dps_of e ds r c'.2 h2)
end
/-- plain data, no deeper than n -/
def OkD (n : Nat) (d : Da) : Prop := (toP d).canLay0 = true ∧ (toP d).depth ≤ n
def OkDs (n : Nat) (ds : List Da) : Prop := PyData.canLayAll0 (toPs ds) = true ∧ PyData.depthAll (toPs ds) ≤ n
theorem okd_non {n : Nat} : OkD n .non := ⟨rfl, Nat.zero_le _⟩
theorem okd_bl {n : Nat} {b : Bool} : OkD n (.bl b) := ⟨rfl, Nat.zero_le _⟩
theorem okd_int {n : Nat} {i : Int} : OkD n (.int i) := ⟨rfl, Nat.zero_le _⟩
theorem okd_str {n : Nat} {x : Str} (h : PyData.strOk x = true) : OkD n (.str x) := ⟨h, Nat.zero_le _⟩
theorem okds_nil {n : Nat} : OkDs n [] := ⟨rfl, Nat.zero_le _⟩
theorem okds_cons {n : Nat} {d : Da} {ds : List Da} (h : OkD n d) (hs : OkDs n ds) : OkDs n (d :: ds) := ⟨by
  show ((toP d).canLay0 && PyData.canLayAll0 (toPs ds)) = true
  rw [h.1, hs.1]; rfl, Nat.max_le.mpr ⟨h.2, hs.2⟩⟩
theorem okds_all {n : Nat} : ∀ {ds : List Da}, (∀ d ∈ ds, OkD n d) → OkDs n ds
  | [], _ => okds_nil
  | d :: ds, h => okds_cons (h d List.mem_cons_self) (okds_all fun x hx => h x (List.mem_cons_of_mem _ hx))
theorem okd_tup {n : Nat} {ds : List Da} (h : OkDs n ds) : OkD (n + 1) (.tup ds) := ⟨h.1, Nat.succ_le_succ h.2⟩
theorem okd_lst {n : Nat} {ds : List Da} (h : OkDs n ds) : OkD (n + 1) (.lst ds) := ⟨h.1, Nat.succ_le_succ h.2⟩
theorem okds_ints {n : Nat} {ns : List Int} : OkDs n (ns.map Da.int) := okds_all fun d hd => by
  obtain ⟨i, _, rfl⟩ := List.mem_map.mp hd
  exact okd_int
theorem OkD.mono {m n : Nat} {d : Da} (h : OkD m d) (l : m ≤ n) : OkD n d := ⟨h.1, Nat.le_trans h.2 l⟩
theorem OkDs.mono {m n : Nat} {d : List Da} (h : OkDs m d) (l : m ≤ n) : OkDs n d := ⟨h.1, Nat.le_trans h.2 l⟩
theorem OkD.shaped {d : Da} (h : OkD 64 d) : SeqAt.shaped (toP d) = true := by
  unfold SeqAt.shaped
  rw [h.1, decide_eq_true h.2]
  rfl
def eqD (x y : Da) : Bool := PyData.eqv (toP x) (toP y)
theorem eqD_refl {n : Nat} {d : Da} (h : OkD n d) : eqD d d = true := SeqAt.eqv_refl _ h.1
theorem eqD_tup (xs ys : List Da) : eqD (.tup xs) (.tup ys) = PyData.eqvAll (toPs xs) (toPs ys) := rfl
theorem eqD_lst (xs ys : List Da) : eqD (.lst xs) (.lst ys) = PyData.eqvAll (toPs xs) (toPs ys) := rfl
theorem eqAll_ints : ∀ (ns ms : List Int), PyData.eqvAll (toPs (ns.map Da.int)) (toPs (ms.map Da.int)) = decide (ns = ms)
  | [], [] => rfl
  | [], m :: ms => rfl
  | n :: ns, [] => rfl
  | n :: ns, m :: ms => by
    show ((n == m) && PyData.eqvAll (toPs (ns.map Da.int)) (toPs (ms.map Da.int))) = _
    rw [eqAll_ints ns ms]
    by_cases h : n = m
    · subst h
      by_cases h2 : ns = ms
      · subst h2; simp
      · simp [h2]
    · simp [h]
theorem eqD_tint (ns ms : List Int) : eqD (.tup (ns.map Da.int)) (.tup (ms.map Da.int)) = decide (ns = ms) := eqAll_ints ns ms
theorem eqD_lint (ns ms : List Int) : eqD (.lst (ns.map Da.int)) (.lst (ms.map Da.int)) = decide (ns = ms) := eqAll_ints ns ms
theorem od_eq {x y : Da} {n m k : Nat} (hr : Room k j.X.A) (hx : OkD n x) (hy : OkD m y) (hn : n ≤ 64 := by decide) (hm : m ≤ 64 := by decide) : OpD j (compareOp .Eq) x y (.bl (eqD x y)) := fun F H e vx vy ax ay QQ kk =>
  wp_op (op_eqD hr.units) ⟨toP x, toP y, dp_of e x vx hx.1 ax, dp_of e y vy hy.1 ay, (hx.mono hn).shaped, (hy.mono hm).shaped, kk _ F H (.refl e) rfl⟩
theorem od_ne {x y : Da} {n m k : Nat} (hr : Room k j.X.A) (hx : OkD n x) (hy : OkD m y) (hn : n ≤ 64 := by decide) (hm : m ≤ 64 := by decide) : OpD j (compareOp .NotEq) x y (.bl (!eqD x y)) := fun F H e vx vy ax ay QQ kk =>
  wp_op (op_neD hr.units) ⟨toP x, toP y, dp_of e x vx hx.1 ax, dp_of e y vy hy.1 ay, (hx.mono hn).shaped, (hy.mono hm).shaped, kk _ F H (.refl e) rfl⟩
/-! in -/
theorem inV_ints {i : Int} : ∀ {ns : List Int}, inV (.int i) (ns.map V.int) = decide (i ∈ ns)
  | [] => rfl
  | n :: ns => by
    show ((n == i) || inV (.int i) (ns.map V.int)) = _
    rw [inV_ints]
    by_cases h : n = i
    · subst h; simp
    · simp [h, Ne.symm h]
theorem flat_ints : ∀ {ns : List Int}, (ns.map V.int).all flatV = true
  | [] => rfl
  | n :: ns => by
    show (true && (ns.map V.int).all flatV) = true
    rw [flat_ints]; rfl
theorem od_inT {ns : List Int} : OpD j (compareOp .In) (.int i) (.tup (ns.map Da.int)) (.bl (decide (i ∈ ns))) := fun F H e vx vy ax ⟨a, vs, e1, h1, a1⟩ QQ kk => by
  cases (show vx = _ from ax)
  have e2 := ats_int a1
  subst e2
  exact wp_op op_in_seq ⟨a, _, e1, .inr (.of (e _ _ h1)), rfl, flat_ints, kk _ F H (.refl e) (by show V.bl _ = V.bl _; rw [if_neg Bool.false_ne_true, inV_ints])⟩
theorem od_inL {ns : List Int} : OpD j (compareOp .In) (.int i) (.lst (ns.map Da.int)) (.bl (decide (i ∈ ns))) := fun F H e vx vy ax ⟨a, vs, e1, h1, a1⟩ QQ kk => by
  cases (show vx = _ from ax)
  have e2 := ats_int a1
  subst e2
  exact wp_op op_in_seq ⟨a, _, e1, .inl (.of (e _ _ h1)), rfl, flat_ints, kk _ F H (.refl e) (by show V.bl _ = V.bl _; rw [if_neg Bool.false_ne_true, inV_ints])⟩
theorem od_ninT {ns : List Int} : OpD j (compareOp .NotIn) (.int i) (.tup (ns.map Da.int)) (.bl (!decide (i ∈ ns))) := fun F H e vx vy ax ⟨a, vs, e1, h1, a1⟩ QQ kk => by
  cases (show vx = _ from ax)
  have e2 := ats_int a1
  subst e2
  exact wp_op op_notIn_seq ⟨a, _, e1, .inr (.of (e _ _ h1)), rfl, flat_ints, kk _ F H (.refl e) (by show V.bl _ = V.bl _; rw [if_pos rfl, inV_ints])⟩
theorem od_ninL {ns : List Int} : OpD j (compareOp .NotIn) (.int i) (.lst (ns.map Da.int)) (.bl (!decide (i ∈ ns))) := fun F H e vx vy ax ⟨a, vs, e1, h1, a1⟩ QQ kk => by
  cases (show vx = _ from ax)
  have e2 := ats_int a1
  subst e2
  exact wp_op op_notIn_seq ⟨a, _, e1, .inl (.of (e _ _ h1)), rfl, flat_ints, kk _ F H (.refl e) (by show V.bl _ = V.bl _; rw [if_pos rfl, inV_ints])⟩
/-! subscripts, slices -/
theorem atI_ats {K : PySem.W.Frag} {F : Hp} {ds : List Da} {vs : List V} {d : Da} (h : Ats K F ds vs) (e : atI ds i = some d) : ∃ v, atI vs i = some v ∧ At K F d v := by
  unfold atI at e ⊢
  rw [h.length]
  cases q : ixN ds.length i with
  | none => rw [q] at e; cases e
  | some n =>
    rw [q] at e
    exact h.get e
theorem ix_lst {ds : List Da} {d : Da} (h : atI ds i = some d) : IxD j (.lst ds) (.int i) d := fun F H e vx vy ⟨a, vs, e1, h1, a1⟩ ay QQ kk => by
  obtain ⟨v, e2, a2⟩ := atI_ats a1 h
  exact wp_ix ix_list ⟨a, vs, i, v, e1, ay, .of (e _ _ h1), e2, kk _ F H (.refl e) a2⟩
theorem ix_tupD {ds : List Da} {d : Da} (h : atI ds i = some d) : IxD j (.tup ds) (.int i) d := fun F H e vx vy ⟨a, vs, e1, h1, a1⟩ ay QQ kk => by
  obtain ⟨v, e2, a2⟩ := atI_ats a1 h
  exact wp_ix ix_tup ⟨a, vs, i, v, e1, ay, .of (e _ _ h1), e2, kk _ F H (.refl e) a2⟩
theorem ix_scr {ns : List Int} {n : Int} (h : atI ns i = some n) : IxD j (.scr ns) (.int i) (.int n) := fun F H e vx vy ⟨a, e1, h1⟩ ay QQ kk => by
  have e2 : atI (ns.map V.int) i = some (V.int n) := by
    unfold atI at h ⊢
    rw [List.length_map]
    cases q : ixN ns.length i with
    | none => rw [q] at h; cases h
    | some m =>
      rw [q] at h
      show (ns.map V.int)[m]? = _
      rw [List.getElem?_map, show ns[m]? = some n from h]
      rfl
  exact wp_ix ix_list ⟨a, _, i, _, e1, ay, Same.seq e h1, e2, kk _ F H (.refl e) rfl⟩
theorem ix_strD {z : Str} {c : Nat} (hz : z.length ≤ 1000000) (h : atI z.cps.toList i = some c) : IxD j (.str z) (.int i) (.str ⟨#[c]⟩) := fun F H e vx vy ax ay QQ kk => wp_ix ix_str ⟨z, i, c, ax, ay, sz_le hz, h, kk _ F H (.refl e) rfl⟩
def cutD (xs : List Da) (lo hi : Option Int) : List Da := (xs.drop (HT.sIx xs.length 0 lo)).take (HT.sIx xs.length xs.length hi - HT.sIx xs.length 0 lo)
theorem cut_ats {K : PySem.W.Frag} {F : Hp} {ds : List Da} {vs : List V} {lo hi : Option Int} (h : Ats K F ds vs) : Ats K F (cutD ds lo hi) (cutV vs lo hi) := by
  unfold cutD cutV
  rw [h.length]
  exact (h.drop _).take _
theorem sl_lst {ds : List Da} {lo hi : Option Int} : SlD j (.lst ds) lo hi (.lst (cutD ds lo hi)) := ⟨_, sl_list, fun F H e vx ⟨a, vs, e1, h1, a1⟩ QQ kk => ⟨a, vs, e1, .of (e _ _ h1), fun p hp =>
  have st := Stp.alloc e hp (.lst (cutV vs lo hi))
  kk _ _ _ st ⟨p, _, rfl, upd_same, Ats.mono st.f _ _ (cut_ats a1)⟩⟩⟩
theorem sl_tupD {ds : List Da} {lo hi : Option Int} : SlD j (.tup ds) lo hi (.tup (cutD ds lo hi)) := ⟨_, sl_tupA, fun F H e vx ⟨a, vs, e1, h1, a1⟩ QQ kk => ⟨a, vs, e1, .of (e _ _ h1), fun hw => by
  refine kk _ F H (.refl e) ⟨a, vs, rfl, h1, ?_⟩
  have c : cutV vs lo hi = vs := by
    unfold cutV
    rw [hw.1, hw.2]
    simp
  have := cut_ats (lo := lo) (hi := hi) a1
  rw [c] at this
  exact this, fun _ p hp =>
  have st := Stp.alloc e hp (.tup (cutV vs lo hi))
  kk _ _ _ st ⟨p, _, rfl, upd_same, Ats.mono st.f _ _ (cut_ats a1)⟩⟩⟩
/-! built-ins -/
theorem cd_len_lst {ds : List Da} : CallD j (.builtin "len") [.lst ds] (.int ds.length) := fun F H e vs ⟨v, r, e0, ⟨a, ws, e1, h1, a1⟩, e2⟩ QQ kk => by
  cases (show r = [] from e2)
  subst e0 e1
  exact wp_call call_len_seq ⟨a, ws, rfl, .inl (.of (e _ _ h1)), by rw [a1.length]; exact kk _ F H (.refl e) rfl⟩
theorem cd_len_tup {ds : List Da} : CallD j (.builtin "len") [.tup ds] (.int ds.length) := fun F H e vs ⟨v, r, e0, ⟨a, ws, e1, h1, a1⟩, e2⟩ QQ kk => by
  cases (show r = [] from e2)
  subst e0 e1
  exact wp_call call_len_seq ⟨a, ws, rfl, .inr (.of (e _ _ h1)), by rw [a1.length]; exact kk _ F H (.refl e) rfl⟩
theorem cd_len_scr {ns : List Int} : CallD j (.builtin "len") [.scr ns] (.int ns.length) := fun F H e vs ⟨v, r, e0, ⟨a, e1, h1⟩, e2⟩ QQ kk => by
  cases (show r = [] from e2)
  subst e0 e1
  exact wp_call call_len_seq ⟨a, _, rfl, .inl (Same.seq e h1), kk _ F H (.refl e) (by rw [List.length_map]; rfl)⟩
theorem cd_len_str {z : Str} (hz : z.length ≤ 1000000) : CallD j (.builtin "len") [.str z] (.int z.length) := fun F H e vs ⟨v, r, e0, e1, e2⟩ QQ kk => by
  cases (show r = [] from e2)
  cases (show v = _ from e1)
  subst e0
  exact wp_call call_len_str ⟨z, rfl, sz_le hz, kk _ F H (.refl e) rfl⟩
theorem ats1 {K : PySem.W.Frag} {F : Hp} {d : Da} {vs : List V} (h : Ats K F [d] vs) : ∃ v, vs = [v] ∧ At K F d v := by
  obtain ⟨v, r, e, a, b⟩ := h
  cases (show r = [] from b)
  exact ⟨v, e, a⟩
theorem ats2 {K : PySem.W.Frag} {F : Hp} {d d' : Da} {vs : List V} (h : Ats K F [d, d'] vs) : ∃ v u, vs = [v, u] ∧ At K F d v ∧ At K F d' u := by
  obtain ⟨v, r, e, a, b⟩ := h
  obtain ⟨u, rfl, c⟩ := ats1 b
  exact ⟨v, u, e, a, c⟩
theorem cd_max2 (hc : j.X.calm = true := by rfl) : CallD j (.builtin "max") [.int i, .int k] (.int (if k > i then k else i)) := fun F H e vs a QQ kk => by
  obtain ⟨v, u, e0, a1, a2⟩ := ats2 a
  exact wp_call (call_max2 hc) ⟨i, k, by rw [e0, show v = _ from a1, show u = _ from a2], kk _ F H (.refl e) rfl⟩
theorem cd_min2 (hc : j.X.calm = true := by rfl) : CallD j (.builtin "min") [.int i, .int k] (.int (if k < i then k else i)) := fun F H e vs a QQ kk => by
  obtain ⟨v, u, e0, a1, a2⟩ := ats2 a
  exact wp_call (call_min2 hc) ⟨i, k, by rw [e0, show v = _ from a1, show u = _ from a2], kk _ F H (.refl e) rfl⟩
theorem cd_abs : CallD j (.builtin "abs") [.int i] (.int (if i < 0 then -i else i)) := fun F H e vs a QQ kk => by
  obtain ⟨v, e0, a1⟩ := ats1 a
  exact wp_call call_abs ⟨i, by rw [e0, show v = _ from a1], kk _ F H (.refl e) rfl⟩
theorem cd_int_bl {b : Bool} : CallD j (.type "int") [.bl b] (.int (if b then 1 else 0)) := fun F H e vs a QQ kk => by
  obtain ⟨v, e0, a1⟩ := ats1 a
  exact wp_call call_int1 (.inr ⟨b, by rw [e0, show v = _ from a1], kk _ F H (.refl e) rfl⟩)
theorem cd_str_int (h : i.natAbs.log2 < 1920) : CallD j (.type "str") [.int i] (.str (toString i)) := fun F H e vs a QQ kk => by
  obtain ⟨v, e0, a1⟩ := ats1 a
  exact wp_call call_str_int ⟨i, by rw [e0, show v = _ from a1], h, kk _ F H (.refl e) rfl⟩
theorem cd_sum_lst {ns : List Int} (hc : j.X.calm = true := by rfl) : CallD j (.builtin "sum") [.lst (ns.map Da.int)] (.int ns.sum) := fun F H e vs a QQ kk => by
  obtain ⟨v, e0, ⟨a, ws, e1, h1, a1⟩⟩ := ats1 a
  have e2 := ats_int a1
  subst e2
  exact wp_call (cr_sum hc) ⟨a, ns, by rw [e0, e1], .of (e _ _ h1), kk _ F H (.refl e) rfl⟩
theorem cd_all_lst {bs : List Bool} (hc : j.X.calm = true := by rfl) : CallD j (.builtin "all") [.lst (bs.map Da.bl)] (.bl (bs.all id)) := fun F H e vs a QQ kk => by
  obtain ⟨v, e0, ⟨a, ws, e1, h1, a1⟩⟩ := ats1 a
  have e2 := ats_bl a1
  subst e2
  exact wp_call (cr_all hc) ⟨a, bs, by rw [e0, e1], .of (e _ _ h1), kk _ F H (.refl e) rfl⟩
theorem cd_tuple_lst {ds : List Da} : CallD j (.type "tuple") [.lst ds] (.tup ds) := fun F H e vs a QQ kk => by
  obtain ⟨v, e0, ⟨a, ws, e1, h1, a1⟩⟩ := ats1 a
  refine wp_call call_tuple_of ⟨a, ws, by rw [e0, e1], .inl ⟨.of (e _ _ h1), fun p hp => ?_⟩⟩
  have st := Stp.alloc e hp (.tup ws)
  exact kk _ _ _ st ⟨p, _, rfl, upd_same, Ats.mono st.f _ _ a1⟩
theorem cd_tuple_tup {ds : List Da} : CallD j (.type "tuple") [.tup ds] (.tup ds) := fun F H e vs a QQ kk => by
  obtain ⟨v, e0, ⟨a, ws, e1, h1, a1⟩⟩ := ats1 a
  exact wp_call call_tuple_of ⟨a, ws, by rw [e0, e1], .inr ⟨.of (e _ _ h1), kk _ F H (.refl e) ⟨a, ws, rfl, h1, a1⟩⟩⟩
theorem cd_list_lst {ds : List Da} : CallD j (.type "list") [.lst ds] (.lst ds) := fun F H e vs a QQ kk => by
  obtain ⟨v, e0, ⟨a, ws, e1, h1, a1⟩⟩ := ats1 a
  refine wp_call call_list_of ⟨a, ws, by rw [e0, e1], .inl (.of (e _ _ h1)), fun p hp => ?_⟩
  have st := Stp.alloc e hp (.lst ws)
  exact kk _ _ _ st ⟨p, _, rfl, upd_same, Ats.mono st.f _ _ a1⟩
theorem cd_list_tup {ds : List Da} : CallD j (.type "list") [.tup ds] (.lst ds) := fun F H e vs a QQ kk => by
  obtain ⟨v, e0, ⟨a, ws, e1, h1, a1⟩⟩ := ats1 a
  refine wp_call call_list_of ⟨a, ws, by rw [e0, e1], .inr (.of (e _ _ h1)), fun p hp => ?_⟩
  have st := Stp.alloc e hp (.lst ws)
  exact kk _ _ _ st ⟨p, _, rfl, upd_same, Ats.mono st.f _ _ a1⟩
/-! isinstance -/
def tyN : Da → Option String
  | .non => some "NoneType"
  | .bl _ => some "bool"
  | .int _ => some "int"
  | .str _ => some "str"
  | .tup _ => some "tuple"
  | .lst _ => some "list"
  | .dic => some "dict"
  | _ => none
theorem tyx_of {K : PySem.W.Frag} {F H : Hp} (e : Same F H) {d : Da} {n : String} (h : tyN d = some n) {v : V} (a : At K F d v) : TyX K H v (.type n) := by
  cases d with
  | non => cases h; cases (show v = _ from a); exact .base .non
  | bl _ => cases h; cases (show v = _ from a); exact .base (.bl _)
  | int _ => cases h; cases (show v = _ from a); exact .base (.int _)
  | str _ => cases h; cases (show v = _ from a); exact .base (.str _)
  | tup _ => cases h; obtain ⟨a, vs, rfl, h1, _⟩ := a; exact .base (.tup (e _ _ h1))
  | lst _ => cases h; obtain ⟨a, vs, rfl, h1, _⟩ := a; exact .base (.lst (e _ _ h1))
  | dic => cases h; obtain ⟨a, rfl, h1⟩ := a; exact .base (.dK (e _ _ h1))
  | _ => cases h
theorem cd_isi {d : Da} {n t : String} {b : Bool} (h : tyN d = some t) (hk : kitB t n = some b) : CallD j (.builtin "isinstance") [d, .ty n] (.bl b) := fun F H e vs a QQ kk => by
  obtain ⟨v, u, e0, a1, a2⟩ := ats2 a
  cases (show u = _ from a2)
  exact wp_call call_isi ⟨v, .ty n, .type t, .type n, b, e0, .ty n, tyx_of e h a1, kit_ty hk, kk _ F H (.refl e) rfl⟩
/-- isinstance(x, (tuple, list)) -/
theorem cd_isi2 {d : Da} {m n t : String} {b c : Bool} (h : tyN d = some t) (hk : kitB t m = some b) (hk2 : kitB t n = some c) : CallD j (.builtin "isinstance") [d, .tup [.ty m, .ty n]] (.bl (b || c)) := fun F H e vs a QQ kk => by
  obtain ⟨v, u, e0, a1, ⟨tp, cs, e1, h1, a2⟩⟩ := ats2 a
  obtain ⟨v1, v2, rfl, a3, a4⟩ := ats2 a2
  cases (show v1 = _ from a3)
  cases (show v2 = _ from a4)
  subst e1
  refine wp_call call_isiT ⟨v, tp, [.ty m, .ty n], .type t, [.type m, .type n], b || c, e0, e _ _ h1, .cons (.ty m) (.cons (.ty n) .nil), tyx_of e h a1, kitAny_cons (kit_ty hk) (fun hb => kitAny_cons (kit_ty hk2) (fun hc => ?_) (fun hc => ?_)) (fun hb => ?_), kk _ F H (.refl e) rfl⟩
  · rw [hb, hc]; exact kitAny_nil
  · rw [hc]; simp
  · rw [hb]; rfl
end
end DL
/-! DLH: the head: facts by names and by tests of one's own, the defs as data. -/
namespace DL
open PySem PySem.Spec PyProof.Rows L2
/-- what is seen of the written part: the named facts, the tests, the defs -/
abbrev Seen : Type := Bool × Bool × List He.FnW
def look (fa : List He.Fa) (xs : List (PySem.W.Frag → Bool)) (fn : List He.DefD) (K : PySem.W.Frag) : Seen :=
  ((fa.all (He.Fa.ok K) && fn.all (He.DefD.ok K)), xs.all (fun x => x K), fn.map (fun d => He.fnW K d.at_))
def lookV (fn : List He.DefD) : Seen := (true, true, fn.map He.DefD.val)
def Told (fa : List He.Fa) (xs : List (PySem.W.Frag → Bool)) (fn : List He.DefD) (K : PySem.W.Frag) : Prop := look fa xs fn K = lookV fn
def lookG (n : Nat) (fa : List He.Fa) (xs : List (PySem.W.Frag → Bool)) (fn : List He.DefD) (g : Addr → Option Obj) : Seen := look fa xs fn (He.frG g (He.asD g n))
def hookM (n : Nat) (fa : List He.Fa) (xs : List (PySem.W.Frag → Bool)) (fn : List He.DefD) : PySem.W.Hook :=
  { α := Seen, obs := fun s => lookG n fa xs fn s.heap.get?, val := fun _ => lookV fn, says := fun _ h => ∃ K, PySem.W.Frag.In K h ∧ Told fa xs fn K,
    of := fun _ _ e => ⟨_, He.frG_in, e⟩, keeps := fun _ _ _ ⟨K, i, t⟩ k => ⟨K, i.keeps k, t⟩ }
theorem lookG_eq {n : Nat} {fa : List He.Fa} {xs : List (PySem.W.Frag → Bool)} {fn : List He.DefD} {g : Addr → Option Obj} {s : Shared} (h : ∀ a, g a = s.heap.get? a) : lookG n fa xs fn g = (hookM n fa xs fn).obs s := by
  rw [show g = s.heap.get? from funext h]
  rfl
section
variable {fa : List He.Fa} {xs : List (PySem.W.Frag → Bool)} {fn : List He.DefD} {K : PySem.W.Frag}
theorem Told.fact (c : Told fa xs fn K) (i : Nat) {f : He.Fa} (h : fa[i]? = some f := by rfl) : f.ok K = true := by
  have c1 := congrArg Prod.fst c
  have c2 := (Bool.and_eq_true_iff.mp (show (fa.all (He.Fa.ok K) && fn.all (He.DefD.ok K)) = true from c1)).1
  exact List.all_eq_true.mp c2 f (List.mem_of_getElem? h)
theorem Told.test (c : Told fa xs fn K) (i : Nat) {x : PySem.W.Frag → Bool} (h : xs[i]? = some x := by rfl) : x K = true := by
  have c1 := congrArg (fun z : Seen => z.2.1) c
  exact List.all_eq_true.mp (show xs.all (fun x => x K) = true from c1) x (List.mem_of_getElem? h)
theorem Told.fund (c : Told fa xs fn K) (i : Nat) {d : He.DefD} (h : fn[i]? = some d := by rfl) : ∃ fd, FunD K d.name d.qual d.params d.body d.scope (d.dvs K) (d.kws K) (He.fAd K d.at_) fd := by
  have c1 := congrArg Prod.fst c
  have c2 := (Bool.and_eq_true_iff.mp (show (fa.all (He.Fa.ok K) && fn.all (He.DefD.ok K)) = true from c1)).2
  have e : fn.map (fun d => He.fnW K d.at_) = fn.map He.DefD.val := congrArg (fun z : Seen => z.2.2) c
  have e2 := congrArg (fun l : List He.FnW => l[i]?) e
  simp only [List.getElem?_map, h, Option.map_some] at e2
  exact He.DefD.funD (Option.some.inj e2) (List.all_eq_true.mp c2 d (List.mem_of_getElem? h))
end
/-- a def of no default, of the text -/
def dd (at_ : Str × Option Str) (name qual : Str) (st : Stmt) : He.DefD := ⟨at_, name, qual, defArgs st, defBody st, defScope st, [], []⟩
theorem fun_of {K : PySem.W.Frag} {x qual : Str} {st : Stmt} {f : Addr} {fd : FuncData} (F : FunD K x qual (defArgs st) (defBody st) (defScope st) [] [] f fd) : Fun K x qual st f fd := by
  obtain ⟨oc, od, dV, kV, doc, pm, an, cdv, ct, osl, e, lk, hc, hd, _⟩ := F.ex
  rcases hd with ⟨_, rfl⟩ | ⟨z, _⟩
  · exact ⟨⟨oc, od, kV, doc, pm, an, cdv, ct, osl, e, lk, hc⟩, F.kp⟩
  · exact absurd rfl z
end DL
namespace DL
open PySem PySem.Spec PyProof.Rows L2
section
variable {P : Program} {w : World} {K : PySem.W.Frag} {mg : Str → Option Value} {base : Heap} {x m qual : Str} {st : Stmt} {f C : Addr} {fd : FuncData} {N ps : List Str} {k : Nat} {G : List Da → Da → Prop} {Xc : List Da → Addr → Prop}
theorem mk_fn0 (hF : ∃ fd, Fun K x x st f fd ∧ Binds K fd ps []) (hm : mg x = some (.ref f)) (Sc : FnScope N ps (defScope st)) (hlen : ∀ ds d, G ds d → ds.length = ps.length)
    (body : ∀ (fd : FuncData) (cdv : Value) (A : Around) (outer : List Env) (s : Shared) (H : Hp) (E : XK) (Fr : Hp) (ds : List Da) (R : Da → Prop), Room k (A.deeper (envOfC x (defScope st) s.heap.objs.size f cdv)) → (∃ d, G ds d ∧ R d) →
      DB (j0 P w K mg base N x (defScope st) f cdv A outer s H E Fr) (initS N.length ds) (defBody st) { nx := fun _ => R .non, rt := R }) (db : (x == ("__debug__" : Str)) = false := by decide +kernel) : Fn0 P w K mg base (k + 1) x G := by
  obtain ⟨fd, F, hb⟩ := hF
  exact ⟨⟨f, fd, ps, fn0 F Sc hlen (body fd), hm, F.kp, hb⟩, db⟩
theorem mk_fnX (hF : ∃ fd, Fun K x x st f fd ∧ Binds K fd ps []) (hm : mg x = some (.ref f)) (Sc : FnScope N ps (defScope st)) (hlen : ∀ ds d, G ds d → ds.length = ps.length) (hlen' : ∀ ds C, Xc ds C → ds.length = ps.length)
    (body : ∀ (fd : FuncData) (cdv : Value) (A : Around) (outer : List Env) (s : Shared) (H : Hp) (E : XK) (Fr : Hp) (EX : Addr → Prop) (hex : ∀ C, EX C → ∀ H', Same H H' → E (.ref C) none H') (ds : List Da) (R : Da → Prop), Room k (A.deeper (envOfC x (defScope st) s.heap.objs.size f cdv)) → ((∃ d, G ds d ∧ R d) ∨ ∃ C, Xc ds C ∧ EX C) →
      DB (jX P w K mg base N x (defScope st) f cdv A outer s H E Fr EX hex) (initS N.length ds) (defBody st) { nx := fun _ => R .non, rt := R }) (db : (x == ("__debug__" : Str)) = false := by decide +kernel) : FnX P w K mg base (k + 1) x G Xc := by
  obtain ⟨fd, F, hb⟩ := hF
  exact ⟨⟨f, fd, ps, fnX F Sc hlen hlen' (body fd), hm, F.kp, hb⟩, db⟩
theorem mk_me0 (hF : ∃ fd, Fun K m qual st f fd ∧ Binds K fd ps []) (hm : Meth K C m f) (hc : Cls K C) (Sc : FnScope N ps (defScope st)) (hlen : ∀ ds d, G ds d → ds.length = ps.length)
    (body : ∀ (fd : FuncData) (cdv : Value) (A : Around) (outer : List Env) (s : Shared) (H : Hp) (E : XK) (Fr : Hp) (ds : List Da) (R : Da → Prop), Room k (A.deeper (envOfC qual (defScope st) s.heap.objs.size f cdv)) → (∃ d, G ds d ∧ R d) →
      DB (j0 P w K mg base N qual (defScope st) f cdv A outer s H E Fr) (initS N.length ds) (defBody st) { nx := fun _ => R .non, rt := R }) : Me0 P w K mg base (k + 1) C m G := by
  obtain ⟨fd, F, hb⟩ := hF
  exact ⟨⟨f, fd, ps, fn0 F Sc hlen (body fd), hm, hb⟩, hc⟩
theorem mk_meX (hF : ∃ fd, Fun K m qual st f fd ∧ Binds K fd ps []) (hm : Meth K C m f) (hc : Cls K C) (Sc : FnScope N ps (defScope st)) (hlen : ∀ ds d, G ds d → ds.length = ps.length) (hlen' : ∀ ds C, Xc ds C → ds.length = ps.length)
    (body : ∀ (fd : FuncData) (cdv : Value) (A : Around) (outer : List Env) (s : Shared) (H : Hp) (E : XK) (Fr : Hp) (EX : Addr → Prop) (hex : ∀ C, EX C → ∀ H', Same H H' → E (.ref C) none H') (ds : List Da) (R : Da → Prop), Room k (A.deeper (envOfC qual (defScope st) s.heap.objs.size f cdv)) → ((∃ d, G ds d ∧ R d) ∨ ∃ C, Xc ds C ∧ EX C) →
      DB (jX P w K mg base N qual (defScope st) f cdv A outer s H E Fr EX hex) (initS N.length ds) (defBody st) { nx := fun _ => R .non, rt := R }) : MeX P w K mg base (k + 1) C m G Xc := by
  obtain ⟨fd, F, hb⟩ := hF
  exact ⟨⟨f, fd, ps, fnX F Sc hlen hlen' (body fd), hm, hb⟩, hc⟩
end
/- a name's slot -/
section
variable {j : J} {S : List Sl}
theorem nm (i : Nat) {x : Str} {d : Da} {pos : Pos} (hN : j.X.N[i]? = some x := by rfl) (hv : Vis j.X.env.scope x := by first | exact Or.inl rfl | exact Or.inr (Or.inl rfl) | exact Or.inr (Or.inr rfl)) (hs : S[i]? = some (.da d) := by rfl)
    (hd : (x == ("__debug__" : Str)) = false := by decide) (hc : (x == ("__classdict__" : Str)) = false := by decide) : DE j S (.Name x pos) d := de_nm ⟨hN, hv, hd, hc⟩ hs
theorem nmx (i : Nat) {x : Str} (hN : j.X.N[i]? = some x := by rfl) (hv : Vis j.X.env.scope x := by first | exact Or.inl rfl | exact Or.inr (Or.inl rfl) | exact Or.inr (Or.inr rfl))
    (hd : (x == ("__debug__" : Str)) = false := by decide) (hc : (x == ("__classdict__" : Str)) = false := by decide) : NM j.X x i := ⟨hN, hv, hd, hc⟩
theorem lm (i : Nat) {X : Cx} {x : Str} (nd : X.N.Nodup) (hN : X.N[i]? = some x := by rfl) (hl : Loc X.env.scope x := by first | exact Or.inl rfl | exact Or.inr rfl) (hf : X.fn x = true ∨ X.env.scope.names.lookup x = some .local := by first | exact Or.inl rfl | exact Or.inr rfl) : LM X x i := ⟨nd, hN, hl, hf⟩
end
end DL
/-! DLI: __init__ of a class: the instance grows field by field. -/
namespace DL
open PySem PySem.Spec PyProof.Rows L2
theorem putF_zip {f : Str} {v : V} : ∀ {ns : List Str} {vs : List V}, f ∉ ns → ns.length = vs.length → putF f v (ns.zip vs) = (ns ++ [f]).zip (vs ++ [v])
  | [], [], _, _ => rfl
  | [], _ :: _, _, h => by cases h
  | _ :: _, [], _, h => by cases h
  | n :: ns, w :: vs, hf, hl => by
    have h1 : ¬ n = f := fun e => hf (e ▸ List.mem_cons_self)
    show (if n = f then (n, v) :: ns.zip vs else (n, w) :: putF f v (ns.zip vs)) = _
    rw [if_neg h1, putF_zip (fun h => hf (List.mem_cons_of_mem _ h)) (Nat.succ.inj hl)]
    rfl
structure Ip (j : J) (S : List Sl) (σ : L2.St) (F H : Hp) (p dx C : Addr) (ns : List Str) (ds : List Da) : Prop extends Rp j S σ F H where
  s0 : σ[0]? = some (some (.ref p))
  at_ : ∃ vs, H p = some (.ins C dx (ns.zip vs)) ∧ Ats j.X.K F ds vs
  fp : F p = none
  hp : j.H0 p = none
  nl : ns.length = ds.length
theorem Ip.step {j : J} {S : List Sl} {σ : L2.St} {F H F' H' : Hp} {p dx C : Addr} {ns : List Str} {ds : List Da} (i : Ip j S σ F H p dx C ns ds) (s : Stp F H F' H') : Ip j S σ F' H' p dx C ns ds := by
  obtain ⟨vs, h1, h2⟩ := i.at_
  refine ⟨i.toRp.step s, i.s0, ⟨vs, s.h _ _ h1, Ats.mono s.f _ _ h2⟩, ?_, i.hp, i.nl⟩
  cases z : F' p with
  | none => rfl
  | some o =>
    rcases s.new p o z with q | q
    · rw [i.fp] at q; cases q
    · rw [h1] at q; cases q
/-- the instance at p is changed -/
theorem Rp.poke {j : J} {S : List Sl} {σ : L2.St} {F H : Hp} {p C dx : Addr} {fs : List (Str × V)} {o : HO} (r : Rp j S σ F H) (h1 : H p = some (.ins C dx fs)) (hf : F p = none) (h0 : j.H0 p = none) : Rp j S σ F (upd H p o) := by
  refine ⟨⟨fun a u q => ?_, r.f0, fun a u q => ?_, r.new⟩, r.len, fun k s' o' q1 q2 => ?_, r.ap⟩
  · rw [upd_ne (ne_of_none q hf)]
    exact r.ext _ _ q
  · rw [upd_ne (ne_of_none q h0)]
    exact r.h0 _ _ q
  · have g := r.sl k s' o' q1 q2
    cases s' with
    | un => trivial
    | da d => exact g
    | ow es =>
      obtain ⟨l, vs, e1, g1, g2⟩ := g
      refine ⟨l, vs, e1, ?_, g2⟩
      rw [upd_ne (ne_of g1 h1 (by intro z; cases z))]
      exact g1
    | owd es =>
      obtain ⟨l, e1, g1, g2⟩ := g
      refine ⟨l, e1, ?_, g2⟩
      rw [upd_ne (ne_of g1 h1 (by intro z; cases z))]
      exact g1
def DIB (j : J) (S : List Sl) (p dx C : Addr) (ns : List Str) (ds : List Da) (sts : List Stmt) (post : List Str → List Da → Prop) : Prop :=
  ∀ (σ : L2.St) (F H : Hp), Ip j S σ F H p dx C ns ds → wpB j.X sts { nx := fun σ' H' => ∃ S' F' ns' ds', Ip j S' σ' F' H' p dx C ns' ds' ∧ Same F F' ∧ post ns' ds', rt := fun _ _ => False } σ H
section
variable {j : J} {S : List Sl} {p dx C : Addr} {ns : List Str} {ds : List Da} {rest : List Stmt} {post : List Str → List Da → Prop} {pos : Pos}
theorem dib_nil (h : post ns ds) : DIB j S p dx C ns ds [] post := fun σ F H ip => wp_pss pss_nil ⟨S, F, ns, ds, ip, fun _ _ z => z, h⟩
theorem dib_le {j : J} {p dx C : Addr} {F F' : Hp} (e : Same F F') : ELe { nx := fun σ' H' => ∃ S' F2 ns' ds', Ip j S' σ' F2 H' p dx C ns' ds' ∧ Same F' F2 ∧ post ns' ds', rt := fun _ _ => False } { nx := fun σ' H' => ∃ S' F2 ns' ds', Ip j S' σ' F2 H' p dx C ns' ds' ∧ Same F F2 ∧ post ns' ds', rt := fun _ _ => False } :=
  ⟨fun σ H ⟨S', F2, a, b, c, d, f⟩ => ⟨S', F2, a, b, c, e.trans d, f⟩, fun _ _ z => z, fun _ _ z => z, fun _ _ z => z⟩
theorem dib_ifraise {c : Expr} {th : List Stmt} {t : Bool} (hc : DT j S c t) (h1 : t = true → DB j S th { nx := fun _ => False, rt := fun _ => False }) (h2 : t = false → DIB j S p dx C ns ds rest post) : DIB j S p dx C ns ds (.If c th [] pos :: rest) post := fun σ F H ip => by
  refine wp_pss (pss_cons (ps_if pt_wp pss_wp pss_nil) pss_wp) (hc σ F H ip.toRp _ fun F1 H1 s1 => ?_)
  cases t with
  | true => exact iteT (wpB_lift (h1 rfl σ F1 H1 (ip.toRp.step s1)) (fun _ _ _ _ _ _ z => z.elim) (fun _ _ _ _ _ _ _ z => z.elim) (fun _ _ _ _ _ _ z => z.elim) (fun _ _ _ _ _ _ z => z.elim))
  | false => exact iteF (wpB_mono (dib_le s1.f) (h2 rfl σ F1 H1 (ip.step s1)))
theorem dib_fld {x f : Str} {e : Expr} {d : Da} {np ap : Pos} (n0 : NM j.X x 0) (he : DE j S e d) (cl : Cls j.X.K C) (no : NoAttr j.X.K C f) (hf : f ∉ ns) (hz : ns.length < 1000) (h : DIB j S p dx C (ns ++ [f]) (ds ++ [d]) rest post)
    (hs : swapsWith e (some (.Attribute (.Name x np) f ap)) pos.line j.X.env = pure false := by rfl) : DIB j S p dx C ns ds (.Assign [.Attribute (.Name x np) f ap] e pos :: rest) post := fun σ F H ip => by
  refine wp_pss (pss_cons (ps_fld (pe_var n0.N n0.v n0.d n0.c) pe_wp hs) pss_wp) (he σ F H ip.toRp _ fun v F1 H1 s1 a1 => ?_)
  have ip1 := ip.step s1
  obtain ⟨vs, h1, h2⟩ := ip1.at_
  have hl : ns.length = vs.length := by rw [h2.length, ip.nl]
  refine ⟨.ref p, ip1.s0, p, C, dx, _, rfl, h1, cl, no, by rw [List.length_zip]; omega, ?_⟩
  rw [putF_zip hf hl]
  exact wpB_mono (dib_le s1.f) (h σ F1 _ ⟨ip1.toRp.poke h1 ip1.fp ip1.hp, ip1.s0, ⟨vs ++ [v], upd_same, h2.append (Ats.one a1)⟩, ip1.fp, ip1.hp, by rw [List.length_append, List.length_append, ip.nl]; rfl⟩)
end
section
variable {P : Program} {w : World} {K : PySem.W.Frag} {mg : Str → Option Value} {base : Heap}
abbrev jI (P : Program) (w : World) (K : PySem.W.Frag) (mg : Str → Option Value) (base : Heap) (N : List Str) (qual : Str) (scope : Scope) (f : Addr) (cd : Value) (A : Around) (outer : List Env) (s : Shared) (H : Hp) (E : XK) (F H0 : Hp) (EX : Addr → Prop)
    (hex : ∀ C, EX C → ∀ H', Same H0 H' → E (.ref C) none H') : J where
  X := cxOf (L2.CX P w) P w K mg base N qual scope f cd A outer s H E
  F0 := F
  H0 := H0
  xk := E
  tk := takes_of rfl rfl rfl rfl
  po := passes_of rfl
  EX := EX
  ex := hex
theorem fnI {qual : Str} {st : Stmt} {f : Addr} {fd : FuncData} {N ps : List Str} {k : Nat} {C : Addr} {G : List Da → Da → Prop} {Xc : List Da → Addr → Prop} (F : Fun K "__init__" qual st f fd) (Sc : FnScope N ps (defScope st)) (hlen : ∀ ds d, G ds d → ds.length + 1 = ps.length) (hlen' : ∀ ds C, Xc ds C → ds.length + 1 = ps.length)
    (hG : ∀ ds d, G ds d → ∃ ns es, d = .ob C ns es)
    (body : ∀ (cdv : Value) (A : Around) (outer : List Env) (s : Shared) (H : Hp) (E : XK) (Fr H0 : Hp) (p dx : Addr) (EX : Addr → Prop) (hex : ∀ C, EX C → ∀ H', Same H0 H' → E (.ref C) none H') (ds : List Da) (R : List Str → List Da → Prop), Room k (A.deeper (envOfC qual (defScope st) s.heap.objs.size f cdv)) →
      ((∃ ns es, G ds (.ob C ns es) ∧ R ns es) ∨ ∃ C', Xc ds C' ∧ EX C') →
      DIB (jI P w K mg base N qual (defScope st) f cdv A outer s H E Fr H0 EX hex) (.un :: initS (N.length - 1) ds) p dx C [] [] (defBody st) R) : FnOk P w K mg base (L2.CX P w) (k + 1) f fd ps (spI K C G Xc) := by
  refine F.okX Sc (fun vs H Q E ⟨Fr, ds, p, dx, vs', e, _, _, _, a, g⟩ => ?_) (fun cdv A outer s H vs Q E hr ⟨Fr, ds, p, dx, vs', e, hp, hf, sm, a, g⟩ => ?_)
  · subst e
    rw [List.length_cons, a.length]
    rcases g with ⟨d, g, _⟩ | ⟨C, g, _⟩
    · exact hlen ds d g
    · exact hlen' ds C g
  · have hps : ds.length + 1 = ps.length := by
      rcases g with ⟨d, g, _⟩ | ⟨C, g, _⟩
      · exact hlen ds d g
      · exact hlen' ds C g
    have hN : ps.length ≤ N.length := by
      have := congrArg List.length Sc.pre
      rw [List.length_take] at this
      omega
    subst e
    let H0 : Hp := fun b => if b = p then none else H b
    have h0 : Same H0 H := fun b o q => by
      by_cases z : b = p
      · simp [H0, z] at q
      · simpa [H0, z] using q
    have hp0 : H0 p = none := by simp [H0]
    have ex0 : ∀ {H' : Hp}, Same H0 H' → ∀ b o, b ≠ p → H b = some o → H' b = some o := fun {H'} e b o z q => e b o (by simpa [H0, z] using q)
    have start : ∀ (EX : Addr → Prop) (hex : ∀ C, EX C → ∀ H', Same H0 H' → E (.ref C) none H'), Ip (jI P w K mg base N qual (defScope st) f cdv A outer s H E Fr H0 EX hex) (.un :: initS (N.length - 1) ds) (L2.start N (.ref p :: vs')) Fr H p dx C [] [] := fun EX hex => by
      have hs : L2.start N (.ref p :: vs') = some (.ref p) :: (vs'.map some ++ List.replicate (N.length - 1 - ds.length) none) := by
        unfold L2.start
        rw [List.map_cons, List.cons_append, List.length_cons, a.length, show N.length - (ds.length + 1) = N.length - 1 - ds.length by omega]
      refine ⟨⟨⟨sm, fun _ _ z => z, h0, fun _ _ z => .inl z⟩, ?_, fun i sl o e1 e2 => ?_, fun i k es fs l _ h1 => ?_⟩, ?_, ⟨[], hp, rfl⟩, hf, hp0, rfl⟩
      · rw [hs]
        unfold initS
        simp only [List.length_cons, List.length_append, List.length_map, List.length_replicate, a.length]
      · rw [hs] at e2
        cases i with
        | zero =>
          cases e1
          trivial
        | succ i => exact slOk_init (j := jI P w K mg base N qual (defScope st) f cdv A outer s H E Fr H0 EX hex) _ a i sl o e1 e2
      · cases i with
        | zero => cases h1
        | succ i => exact absurd h1 init_noOw
      · rw [hs]
        rfl
    rcases g with ⟨d, g, q⟩ | ⟨C', g, q⟩
    · obtain ⟨ns, es, rfl⟩ := hG ds d g
      have b := body cdv A outer s H E Fr H0 p dx (fun _ => False) (fun _ h => h.elim) ds (fun ns' es' => ns' = ns ∧ es' = es) hr (.inl ⟨ns, es, g, rfl, rfl⟩)
      refine ⟨wpB _ (defBody st), pss_wp, wpB_mono (D := { nx := _, rt := fun _ _ => False }) (D' := { nx := fun _ H' => Q .non H', rt := Q }) ⟨fun σ' H' hh => ?_, fun _ _ z => z.elim, fun _ _ z => z.elim, fun _ _ z => z.elim⟩ (b _ _ _ (start _ _))⟩
      obtain ⟨S', F', ns', es', ip, e1, e2, e3⟩ := hh
      subst e2 e3
      obtain ⟨vs, h1, h2⟩ := ip.at_
      have sF : Same F' (upd F' p (.ins C dx (ns'.zip vs))) := fun b o z => by
        rw [upd_ne (ne_of_none z ip.fp)]
        exact z
      refine q (upd F' p (.ins C dx (ns'.zip vs))) H' (e1.trans sF) (fun b o z => ?_) (ex0 ip.h0) (fun b o z => ?_) ⟨p, dx, vs, rfl, upd_same, ip.nl, Ats.mono sF _ _ h2⟩
      · by_cases y : b = p
        · subst y
          rw [upd_same] at z
          cases z
          exact h1
        · rw [upd_ne y] at z
          exact ip.ext _ _ z
      · by_cases y : b = p
        · exact .inr (.inl y)
        · rw [upd_ne y] at z
          rcases ip.new b o z with z | z
          · exact .inl z
          · refine .inr (.inr ?_)
            cases t : H b with
            | none => rfl
            | some u =>
              have : H0 b = some u := by simpa [H0, y] using t
              rw [show H0 b = none from z] at this
              cases this
    · have b := body cdv A outer s H E Fr H0 p dx (fun C2 => C2 = C') (fun C2 h H' e => by subst h; exact q H' (ex0 e)) ds (fun _ _ => False) hr (.inr ⟨C', g, rfl⟩)
      exact ⟨wpB _ (defBody st), pss_wp, wpB_mono (D := { nx := _, rt := fun _ _ => False }) (D' := { nx := fun _ H' => Q .non H', rt := Q }) ⟨fun σ' H' ⟨_, _, _, _, _, _, z⟩ => z.elim, fun _ _ z => z.elim, fun _ _ z => z.elim, fun _ _ z => z.elim⟩ (b _ _ _ (start _ _))⟩
theorem mk_init {qual x : Str} {st : Stmt} {f : Addr} {N ps : List Str} {k : Nat} {C : Addr} {G : List Da → Da → Prop} {Xc : List Da → Addr → Prop} (hF : ∃ fd, Fun K "__init__" qual st f fd ∧ Binds K fd ps []) (hm : mg x = some (.ref C)) (hM : Mk K C f) (Sc : FnScope N ps (defScope st)) (hlen : ∀ ds d, G ds d → ds.length + 1 = ps.length) (hlen' : ∀ ds C, Xc ds C → ds.length + 1 = ps.length)
    (hG : ∀ ds d, G ds d → ∃ ns es, d = .ob C ns es)
    (body : ∀ (fd : FuncData) (cdv : Value) (A : Around) (outer : List Env) (s : Shared) (H : Hp) (E : XK) (Fr H0 : Hp) (p dx : Addr) (EX : Addr → Prop) (hex : ∀ C, EX C → ∀ H', Same H0 H' → E (.ref C) none H') (ds : List Da) (R : List Str → List Da → Prop), Room k (A.deeper (envOfC qual (defScope st) s.heap.objs.size f cdv)) →
      ((∃ ns es, G ds (.ob C ns es) ∧ R ns es) ∨ ∃ C', Xc ds C' ∧ EX C') →
      DIB (jI P w K mg base N qual (defScope st) f cdv A outer s H E Fr H0 EX hex) (.un :: initS (N.length - 1) ds) p dx C [] [] (defBody st) R) (db : (x == ("__debug__" : Str)) = false := by decide +kernel) : MkX P w K mg base (k + 1) x C G Xc := by
  obtain ⟨fd, F, hb⟩ := hF
  exact ⟨⟨f, fd, ps, fnI F Sc hlen hlen' hG (body fd), hM, hb⟩, hm, db⟩
end
end DL
/-! DLT: t[::-1] of a tuple. -/
namespace DL
open PySem PySem.Spec PyProof.Rows L2
theorem fm_congr {α β : Type} {f g : α → Option β} : ∀ {l : List α}, (∀ m ∈ l, f m = g m) → l.filterMap f = l.filterMap g
  | [], _ => rfl
  | a :: l, h => by
    rw [List.filterMap_cons, List.filterMap_cons, h a List.mem_cons_self, fm_congr fun m hm => h m (List.mem_cons_of_mem _ hm)]
theorem pick_rev (xs : Array Value) : ((List.range xs.size).filterMap fun (m : Nat) => xs[(((xs.size : Int) - 1) + (m : Int) * (-1)).toNat]?) = xs.toList.reverse := by
  have e : (List.range xs.size).filterMap (fun (m : Nat) => xs[(((xs.size : Int) - 1) + (m : Int) * (-1)).toNat]?) = (List.range xs.size).filterMap fun m => xs.toList.reverse[m]? := by
    have : ∀ m ∈ List.range xs.size, xs[(((xs.size : Int) - 1) + (m : Int) * (-1)).toNat]? = xs.toList.reverse[m]? := fun m hm => by
      have hm := List.mem_range.mp hm
      rw [List.getElem?_reverse (by rw [Array.length_toList]; exact hm), Array.length_toList, Array.getElem?_toList]
      congr 1
      omega
    exact fm_congr this
  rw [e]
  have h2 : ∀ l : List Value, ((List.range l.length).filterMap fun m => l[m]?) = l := by
    intro l
    induction l with
    | nil => rfl
    | cons a l ih =>
      rw [List.length_cons, List.range_succ_eq_map, List.filterMap_cons]
      show a :: ((List.range l.length).map Nat.succ).filterMap _ = _
      rw [List.filterMap_map]
      exact congrArg (a :: ·) ih
  have := h2 xs.toList.reverse
  rw [List.length_reverse, Array.length_toList] at this
  exact this
theorem get_tuple_rev {prog : Program} {w : World} {A : Around} {E : Value → Shared → Prop} {s : Shared} {t sl : Addr} {items : Array Value} {vl vu vs : Value} {Q : Value → Shared → Prop} (ht : IsTup s.heap t items) (hs : s.heap.IsSliceOf sl vl vu vs) (pl : IsPart vl none) (pu : IsPart vu none) (ps : IsPart vs (some (-1)))
    (h : Q (.ref s.heap.objs.size) { s with heap := s.heap.push { cls := .type "tuple", data := .seq items.toList.reverse.toArray } }) (hz : items.size ≤ sizeLine) : wpAny (model prog w) A (getItem (.ref t) (.ref sl)) Q E s := by
  have hok : sizeOk (.seq items.toList.reverse.toArray) := by
    show items.toList.reverse.toArray.size ≤ sizeLine
    simpa using hz
  obtain ⟨os, hos, hcs, hds⟩ := id hs
  cases pl
  cases pu
  obtain ⟨tk, rfl⟩ : ∃ tk, vs = .int (-1) tk := by cases ps; exact ⟨_, rfl⟩
  unfold getItem
  try with_reducible refine wpAny_holding ?_
  first | refine wpAny_bind (wpAny_pure ?_) | skip
  refine wpAny_bind (wpAny_sequenceKey ht.typeIs (by decide) ?_)
  refine wpAny_bind (wpAny_callSpecial?_slot (name := Str.ofString "__getitem__") ht.typeIs slot_tuple_getitem (wpAny_call_entry slot_tuple_getitem ht.typeIs entry_tuple_getitem ?_ (args_tuple_getitem _ _)))
  show wpAny _ _ (Builtin.Tuple.tupleItemsOf (.ref t) >>= _) _ _ s
  refine wpAny_bind (tupleItemsOf_ ht (wpAny_bind (wpAny_typeOf (⟨os, hos, hcs⟩ : s.TypeIs (.ref sl) "slice") ?_)))
  rw [if_pos (by decide)]
  refine wpAny_bind ?_
  unfold Builtin.Slice.sliceApplied Builtin.Slice.sliceFields
  refine wpAny_bind (wpAny_bind (wpAny_field hos hds (x := .none) rfl (wpAny_bind (wpAny_field hos hds (x := .none) rfl (wpAny_bind (wpAny_field hos hds (x := .int (-1) tk) rfl (wpAny_pure ?_)))))))
  refine wpAny_bind (slicePart_int ?_)
  show wpAny _ _ (if ((-1 : Int) == 0) = true then _ else _) _ _ s
  rw [if_neg (by decide)]
  refine wpAny_bind (slicePart_none (wpAny_bind (slicePart_none (wpAny_bind (wpAny_pure ?_)))))
  have e1 : Builtin.Slice.slicePlaces ((items.size : Int) - 1) (-1) (-1) = items.size := by
    unfold Builtin.Slice.slicePlaces
    rw [if_neg (by decide)]
    by_cases h0 : ((items.size : Int) - 1) > -1
    · rw [if_pos h0]
      simp only [Int.neg_neg, Int.ediv_one]
      omega
    · rw [if_neg h0]
      omega
  show wpAny _ _ (pure (((items.size : Int) - 1), (-1 : Int), Builtin.Slice.slicePlaces ((items.size : Int) - 1) (-1) (-1))) _ _ s
  rw [e1]
  refine wpAny_pure ?_
  have hno : ¬ ((((items.size : Int) - 1) == 0 && (-1 : Int) == 1 && items.size == items.size) = true) := by
    rw [show ((-1 : Int) == 1) = false from rfl]
    simp
  show wpAny _ _ (if ((((items.size : Int) - 1) == 0 && (-1 : Int) == 1 && items.size == items.size) = true) then _ else _) _ _ s
  rw [if_neg hno, pick_rev]
  first
    | exact wpAny_bind (m := Builtin.Tuple.tupleExact _) (wpAny_newObj_type (wpAny_pure ⟨_, rfl, wpAny_pure h⟩) hok)
    | exact wpAny_bind (m := Builtin.Tuple.tupleExact _) (wpAny_newObj_type (wpAny_bind (wpAny_pure (wpAny_pure ⟨_, rfl, wpAny_pure h⟩))) hok)
    | exact wpAny_bind (wpAny_bind (m := Builtin.Tuple.tupleExact _) (wpAny_newObj_type (wpAny_pure (wpAny_pure ⟨_, rfl, wpAny_pure h⟩)) hok))
    | exact wpAny_bind (wpAny_bind (m := Builtin.Tuple.tupleExact _) (wpAny_newObj_type (wpAny_pure ⟨_, rfl, wpAny_pure h⟩) hok))
theorem de_revT {j : J} {S : List Sl} {e : Expr} {ds : List Da} {k : Nat} {p1 p2 p3 pos : Pos} (he : DE j S e (.tup ds)) : DE j S (.Subscript e (.Slice none none (some (.UnaryOp .USub (.Constant (.int 1) k p1) p2)) p3) pos) (.tup ds.reverse) := fun σ F H rp QQ kk pins s I => by
  refine Subscript_ (thn (he σ F H rp (fun v H1 => ∃ F1, Stp F H F1 H1 ∧ At j.X.K F1 (.tup ds) v) (fun v F1 H1 s1 a1 => ⟨F1, s1, a1⟩) pins s I) fun v s1 ⟨x, H1, I1, r1, F1, st, a, vs, ex, hx, a1⟩ => ?_)
  subst ex
  cases r1
  have hst : PO j.X (some (.UnaryOp .USub (.Constant (.int 1) k p1) p2)) (tPart (tUn (rU fun i => .int (-i)) (tC (.int 1)))) := po_some (pe_un un_neg pe_int)
  refine wpAny_Slice (thn (po_none.run pins s1 σ H1 (fun o H2 => o = none ∧ H2 = H1) I1 ⟨rfl, rfl⟩) fun vl s2 ⟨l, H2, I2, pl, el, e2⟩ => ?_)
  subst el e2
  refine thn (po_none.run pins s2 σ H2 (fun o H3 => o = none ∧ H3 = H2) I2 ⟨rfl, rfl⟩) fun vu s3 ⟨u, H3, I3, pu, eu, e3⟩ => ?_
  subst eu e3
  refine thn (hst.run pins s3 σ H3 (fun o H4 => o = some (-1) ∧ H4 = H3) I3 ⟨1, rfl, -1, rfl, rfl, rfl⟩) fun vs' s4 ⟨o, H4, I4, ps, eo, e4⟩ => ?_
  subst eo e4
  have I5 : Inv j.X pins σ H4 { s4 with heap := s4.heap.push { cls := .type "slice", data := .fields #[vl, vu, vs'] } } := I4.kept (t' := s4.toks) fun b ob q => Heap.get?_push_of_some _ q
  have hxT : SqT j.X.K H4 a vs := .of (st.e _ _ hx)
  obtain ⟨its, r, ht, hz⟩ := I5.tuple hxT
  have hlen := r.length
  show wpAny (model j.X.prog j.X.w) j.X.A (subscriptTail e (.Slice none none (some (.UnaryOp .USub (.Constant (.int 1) k p1) p2)) p3) (.ref a) (.ref s4.heap.objs.size)) (EP j.X pins σ QQ) j.X.xe { s4 with heap := s4.heap.push { cls := .type "slice", data := .fields #[vl, vu, vs'] } }
  refine tail_any (ops := [.ref a, .ref s4.heap.objs.size]) ht.typeIs slot_tuple_getitem.lookup ?_ (by with_unfolding_all rfl)
  refine get_tuple_rev ht (Heap.IsSliceOf.new _ vl vu vs') pl pu ps ?_ (by rw [List.size_toArray]; omega)
  have hn := I5.hok.fresh (Nat.le_refl _)
  refine ⟨.ref _, _, I5.laid (t' := s4.toks) (o := .tup vs.reverse) (fun b o e => Heap.get?_push_of_some _ e) (Nat.le_refl _) ⟨by rw [List.length_reverse]; exact hz, _, r.reverse, ?_⟩, rfl, ?_⟩
  · exact ⟨_, Heap.get?_push_size _ rfl, rfl, 0, by simp⟩
  · have st2 := Stp.alloc st.e hn (.tup vs.reverse)
    exact kk _ _ _ (st.trans st2) ⟨_, _, rfl, upd_same, Ats.mono st2.f _ _ a1.reverse⟩
end DL
/-! DLO: lists of one's own. -/
namespace DL
open PySem PySem.Spec PyProof.Rows L2
section
variable {j : J} {S : List Sl} {D : DEnds}
theorem do_lst {es : List Expr} {ds : List Da} {pos : Pos} (h : DA j S es ds) (hz : ds.length ≤ 1000000 := by simp) : DO j S (.List es pos) ds := fun σ F H rp QQ k =>
  wp_pe (pe_lst pa_wp) (h σ F H rp _ fun vs F1 H1 s1 a1 => ⟨by rw [a1.length]; exact sz_le hz, fun p hp => by
    have st : Stp F1 H1 F1 (upd H1 p (.lst vs)) := ⟨fun _ _ q => q, fun a o q => by rw [upd_ne (ne_of_none (s1.e _ _ q) hp)]; exact s1.e _ _ q, fun a o q => by rw [upd_ne (ne_of_none q hp)]; exact q, fun _ _ q => .inl q⟩
    exact k p vs _ _ (s1.trans st) (s1.h.free hp) upd_same (s1.e.free hp) a1⟩)
/-- an item of a list of one's own -/
theorem de_ixO {x : Str} {i : Nat} {b : Expr} {ds : List Da} {n : Int} {d : Da} {pos np : Pos} (nm : NM j.X x i) (hS : S[i]? = some (.ow ds)) (hb : DE j S b (.int n)) (h : atI ds n = some d) (hs : PlainIx b := by exact fun _ _ => rfl) : DE j S (.Subscript (.Name x np) b pos) d := fun σ F H rp QQ k => by
  obtain ⟨l, vs, e1, e2, e3, e4, e5⟩ := rp.own hS
  obtain ⟨v, q, a2⟩ := atI_ats e3 h
  refine wp_pe (pe_ix ix_wp (pe_var nm.N nm.v nm.d nm.c) pe_wp hs) ⟨_, e1, hb σ F H rp _ fun u F1 H1 s1 a1 => ?_⟩
  exact wp_ix ix_list ⟨l, vs, n, v, rfl, a1, .of (s1.h _ _ e2), q, k _ F1 H1 s1 (At.mono s1.f _ _ a2)⟩
end
end DL
/-! DLC: tuple(range(..)), list(range(..)). -/
namespace DL
open PySem PySem.Spec PyProof.Rows L2
def rgI (a b : Int) : List Int := (List.range (b - a).toNat).map fun i : Nat => a + (i : Int)
section
variable {j : J} {S : List Sl}
theorem rg_ats {K : PySem.W.Frag} {F : Hp} (a b : Int) : Ats K F ((rgI a b).map Da.int) (rgV a b) := by
  have e : rgV a b = (rgI a b).map V.int := by
    unfold rgV rgI
    rw [List.map_map]
    rfl
  rw [e]
  exact ats_int' _
theorem rg_ok {a b : Int} (h : -1000000 ≤ a ∧ a ≤ 1000000 ∧ -1000000 ≤ b ∧ b ≤ 1000000) : RgOk a b := by
  unfold RgOk
  omega
variable {mg : Str → Option Value} {a b : Expr} {n m : Int} {p p2 pos pos2 : Pos}
theorem de_tupRg1 (ht : FreeN mg "tuple") (hm : FreeN mg "range") (h : DE j S a (.int n)) (hn : -1000000 ≤ n ∧ n ≤ 1000000) (hc : j.X.calm = true := by rfl) (hg : Gl j.X "range" := by rfl) (hg2 : Gl j.X "tuple" := by rfl) (em : j.X.mg = mg := by rfl) (hs : starEach [a] j.X.env = (false, eval a j.X.env) :: starEach [] j.X.env := by rfl)
    (hs2 : starEach [.Call (.Name "range" p) [a] [] pos] j.X.env = (false, eval (.Call (.Name "range" p) [a] [] pos) j.X.env) :: starEach [] j.X.env := by rfl) :
    DE j S (.Call (.Name "tuple" p2) [.Call (.Name "range" p) [a] [] pos] [] pos2) (.tup ((rgI 0 n).map Da.int)) := fun σ F H rp QQ kk => by
  subst em
  refine wp_pe (pe_tupRg hc hg2 ht.m (prg_1 hg hm.m pe_wp hs) hs2) (h σ F H rp _ fun v F1 H1 s1 a1 => ⟨n, a1, rg_ok (by omega), fun q hq => ?_⟩)
  have st := Stp.alloc s1.e hq (.tup (rgV 0 n))
  exact kk _ _ _ (s1.trans st) ⟨q, _, rfl, upd_same, rg_ats 0 n⟩
theorem de_lstRg1 (ht : FreeN mg "list") (hm : FreeN mg "range") (h : DE j S a (.int n)) (hn : -1000000 ≤ n ∧ n ≤ 1000000) (hc : j.X.calm = true := by rfl) (hg : Gl j.X "range" := by rfl) (hg2 : Gl j.X "list" := by rfl) (em : j.X.mg = mg := by rfl) (hs : starEach [a] j.X.env = (false, eval a j.X.env) :: starEach [] j.X.env := by rfl)
    (hs2 : starEach [.Call (.Name "range" p) [a] [] pos] j.X.env = (false, eval (.Call (.Name "range" p) [a] [] pos) j.X.env) :: starEach [] j.X.env := by rfl) :
    DE j S (.Call (.Name "list" p2) [.Call (.Name "range" p) [a] [] pos] [] pos2) (.lst ((rgI 0 n).map Da.int)) := fun σ F H rp QQ kk => by
  subst em
  refine wp_pe (pe_listRg hc hg2 ht.m (prg_1 hg hm.m pe_wp hs) hs2) (h σ F H rp _ fun v F1 H1 s1 a1 => ⟨n, a1, rg_ok (by omega), fun q hq => ?_⟩)
  have st := Stp.alloc s1.e hq (.lst (rgV 0 n))
  exact kk _ _ _ (s1.trans st) ⟨q, _, rfl, upd_same, rg_ats 0 n⟩
theorem de_lstRg2 (ht : FreeN mg "list") (hm : FreeN mg "range") (h : DE j S a (.int n)) (h' : DE j S b (.int m)) (hn : -1000000 ≤ n ∧ n ≤ 1000000 ∧ -1000000 ≤ m ∧ m ≤ 1000000) (hc : j.X.calm = true := by rfl) (hg : Gl j.X "range" := by rfl) (hg2 : Gl j.X "list" := by rfl) (em : j.X.mg = mg := by rfl)
    (hs : starEach [a, b] j.X.env = (false, eval a j.X.env) :: starEach [b] j.X.env := by rfl) (hs1 : starEach [b] j.X.env = (false, eval b j.X.env) :: starEach [] j.X.env := by rfl) (hpl : (backTo pos (starEach [b] j.X.env)).any (·.1) = false := by rfl)
    (hs2 : starEach [.Call (.Name "range" p) [a, b] [] pos] j.X.env = (false, eval (.Call (.Name "range" p) [a, b] [] pos) j.X.env) :: starEach [] j.X.env := by rfl) :
    DE j S (.Call (.Name "list" p2) [.Call (.Name "range" p) [a, b] [] pos] [] pos2) (.lst ((rgI n m).map Da.int)) := fun σ F H rp QQ kk => by
  subst em
  refine wp_pe (pe_listRg hc hg2 ht.m (prg_2 hg hm.m pe_wp pe_wp hs hs1 hpl) hs2) (h σ F H rp _ fun v F1 H1 s1 a1 => h' σ F1 H1 (rp.step s1) _ fun u F2 H2 s2 a2 => ⟨n, m, a1, a2, rg_ok (by omega), fun q hq => ?_⟩)
  have st := Stp.alloc s2.e hq (.lst (rgV n m))
  exact kk _ _ _ ((s1.trans s2).trans st) ⟨q, _, rfl, upd_same, rg_ats n m⟩
end
end DL
/-! DLE: a caught exception, kept. -/
namespace DL
open PySem PySem.Spec PyProof.Rows L2
section
variable {X : Cx} {pins : List (Addr × Obj)} {σ : L2.St} {H : Hp} {s : Shared} {a C : Addr} {oe : Obj}
/-- a pinned object, new since the entry, is tracked from here on -/
theorem inv_track (I : Inv X ((a, oe) :: pins) σ H s) (n0 : X.s_0.heap.get? a = none) (hz : Zc (.ref C) none oe) (hf : ∃ vs, oe.data = .fields vs) (hp : ∀ p ∈ X.pn ++ pins, p.1 ≠ a) : Inv X pins σ (upd H a (ExW C a)) s := by
  obtain ⟨ha, hn, hL, hF, hc⟩ := I.pin (a, oe) (List.mem_append_right _ List.mem_cons_self)
  have ha : s.heap.get? a = some oe := ha
  have hn : H a = none := hn
  have ne0 : ∀ {b : Addr} {o : Obj}, X.s_0.heap.get? b = some o → b ≠ a := fun {b o} e z => by
    rw [z, n0] at e
    cases e
  have up : ∀ {b : Addr} {o : HO}, H b = some o → upd H a (ExW C a) b = some o := fun {b o} e => by
    rw [upd_ne (ne_of_none e hn)]
    exact e
  have un : ∀ {b : Addr}, b ≠ a → H b = none → upd H a (ExW C a) b = none := fun {b} z e => by
    rw [upd_ne z]
    exact e
  refine ⟨I.ok, I.os, I.bare, ⟨I.base.keep, I.base.slot, fun b o e q hx => un (ne0 e) (I.base.free b o e q hx), I.base.there, fun b xs e => up (I.base.tups b xs e), fun b o u e => up (I.base.frzs b o u e), fun b ps e => ?_⟩, I.loc, I.cell, un (fun z => hL z.symm) I.free, fun x c e => ?_, fun p q => ?_, fun b u e => ?_, I.len⟩
  · obtain ⟨m, z⟩ := I.base.tbls b ps e
    exact ⟨m, up z⟩
  · refine un (fun z => ?_) (I.freeC x c e)
    obtain ⟨v, o, ho, hd⟩ := I.cell x c e
    rw [z, ha] at ho
    cases ho
    exact hc v hd
  · obtain ⟨q1, q2, q3, q4, q5⟩ := I.pin p (by
      rcases List.mem_append.mp q with q | q
      · exact List.mem_append_left _ q
      · exact List.mem_append_right _ (List.mem_cons_of_mem _ q))
    exact ⟨q1, un (hp p q) q2, q3, q4, q5⟩
  · by_cases z : b = a
    · subst z
      rw [upd_same] at e
      cases e
      exact ⟨⟨oe, ha, hz, hf⟩, ⟨oe, ha⟩, fun h1 h2 ⟨o, q, r⟩ k => ⟨o, k o q, r⟩⟩
    · rw [upd_ne z] at e
      exact (I.hok b u e).stay (fun c v _ q => q) (fun c q => up q) fun c xs q => up q
/-- what a clause wishes whose exception is kept -/
def wKeep (K : PySem.W.Frag) (c : Value) (i : Nat) (ts : Addr → TS) (N : L2.St → Hp → Prop) : WX := fun cls d σ H =>
  PySem.W.exmOne K cls c = some true ∧ d = none ∧ ∃ C, cls = .ref C ∧ ∀ a, H a = none → ts a { nx := fun σ' H' => H' a = none → N (σ'.set i none) (upd H' a (ExW C a)), rt := fun _ _ => False } (σ.set i (some (.ref a))) H
theorem ps_try_keep {x n : Str} {c : Value} {i : Nat} {body suite : List Stmt} {b₀ : Stmt} {np pos pos' : Pos} {tb : WX → TS} {ts : Addr → TS} (hs : X.stack = X.env :: X.outer) (hf : X.env.frame = some X.env.locals) (hN : X.N.Nodup) (hi : X.N[i]? = some n) (hln : X.env.kindOf n = some .local) (hc : Names X x c) (hx : X.ex = [])
    (hb : ∀ (W : WX) (pn : List (Addr × Obj)) (xe : Value → Shared → Prop), L2.Takes (X.tr pn xe) W → PassesOwn (model X.prog X.w) X.A X.env xe → PSs (X.tr pn xe) body (tb W))
    (hsu : ∀ (a : Addr) (oe : Obj) (pn : List (Addr × Obj)), PSs (X.suite a ((a, oe) :: pn)) (b₀ :: suite) (ts a)) :
    PS X (.Try body [.ExceptHandler (some (.Name x np)) (some n) (b₀ :: suite) pos'] [] [] pos) (fun D σ H => tb (wKeep X.K c i ts D.nx) D σ H) := by
  refine ⟨fun pins s σ H D I0 h => wpAny_Try_except ?_⟩
  have ok := I0.ok
  have hfr : X.A.frames = some (X.env :: X.outer) := ok.frames.trans (congrArg some hs)
  have body_ := hb (wKeep X.K c i ts D.nx) (X.pn ++ pins) (fun e s₁ => wpAny (model X.prog X.w) X.A (noteFrame e X.env) (fun _ s₂ => wpAny (model X.prog X.w) X.A (setFlight e none)
    (fun _ s₃ => wpAny (model X.prog X.w) X.A (handleBy e X.env [.ExceptHandler (some (.Name x np)) (some n) (b₀ :: suite) pos']) (SP X pins D) X.xe s₃) X.xe s₂) X.xe s₁)
  refine wpAny_mono ((body_ (fun u s' hit => ?_) PassesOwn.looking).run [] s σ H D (I0.toTry _) h) (fun f s1 hsp => ?_) (fun _ _ q => q)
  · obtain ⟨a, B, sI, ps', σ', H', cls, d, eu, J', nb, up, sky, na, os, ag, hb1, hd0, C, hcls, hyes⟩ := hit
    subst eu hd0 hcls
    have J : Inv X pins σ' H' sI := J'.ofTry ok
    -- nothing stood there ahead of it
    have land : ∀ h3 : Heap, HandSPX.FlyingZ B (X.env :: X.outer) a (Zc (.ref C) none) h3 → s'.heap.UpToSlots h3 → Inv X pins σ' H' { s' with heap := h3 } := fun h3 fl3 up3 => J.landed nb fl3.1 (up.trans up3) os ag
    have notF : ∀ {h3 : Heap} {o : Obj} {vs : Array Value}, h3.FunFrames B (X.env :: X.outer) → h3.get? a = some o → o.data = .fields vs → a ∉ frs (X.env :: X.outer) := fun {h3 o vs} ff e dd hm => by
      obtain ⟨_, o', e', hnf⟩ := ff.mem hm
      cases e.symm.trans e'
      exact hnf _ dd
    show wpAny (model X.prog X.w) X.A (noteFrame (.ref a) X.env) _ _ _
    refine Sky.land (B := B) (outer := X.outer) Zc.steady hfr hf (by rw [← hs]; exact sky) fun h3 fl3 up3 => ?_
    have J3 := land h3 fl3 up3
    obtain ⟨oe3, vs3, he3, hz3, hd3⟩ := fl3.there
    have nfr := notF fl3.2.2.1 he3 hd3
    have nI : sI.heap.get? a = none := by
      cases e : sI.heap.get? a with
      | none => rfl
      | some o =>
        have z := nb a o e (by rw [hs]; exact nfr)
        rw [fl3.2.1] at z
        cases z
    have n0 : X.s_0.heap.get? a = none := by
      cases e : X.s_0.heap.get? a with
      | none => rfl
      | some o =>
        obtain ⟨o', z⟩ := J.base.there a o e (by rw [hx]; exact fun z => nomatch z)
        rw [nI] at z
        cases z
    have hpin : ∀ p ∈ X.pn ++ pins, p.1 ≠ a := fun p hp z => by
      have q := (J.pin p hp).1
      rw [z, nI] at q
      cases q
    have nL : a ≠ X.env.locals := fun z => nfr (List.mem_filterMap.mpr ⟨X.env, .head _, hf.trans (congrArg some z.symm)⟩)
    have nF : a ∉ X.fs := fun hm => by
      obtain ⟨e, he, q⟩ := List.mem_filterMap.mp hm
      exact nfr (List.mem_filterMap.mpr ⟨e, .tail _ he, q⟩)
    have S3 := J3.suite he3 hd3 na nL nF
    refine wpAny_handleBy_cons (codeAny_handlers_test ?_) (fun q => nomatch q)
    have LT : PySem.W.Looks (model X.prog X.w) h3 (typeOf (.ref a)) (.ref C) := fun A Q E s k q => wpAny_typeOf_ref (k _ _ he3) (by rw [hz3.1]; exact q)
    have LM := PySem.W.exm_one (M := model X.prog X.w) (J3.kIn) LT hb1
    have test : ∀ {Q E : Value → Shared → Prop}, Q c { s' with heap := h3 } → wpAny (model X.prog X.w) (X.A.mark (some (.ref a))) (eval (.Name x np) X.env) Q E { s' with heap := h3 } := fun {Q E} q => by
      rcases hc with ⟨hg, hdbg, hm | ⟨hm, hv, hnn⟩⟩
      · exact ld_glob (X := X.suite a ((a, oe3) :: (X.pn ++ pins))) S3 hg hm q hdbg
      · exact ld_blt (X := X.suite a ((a, oe3) :: (X.pn ++ pins))) S3 hg hm hv q hnn hdbg
    refine test (LM.here (codeAny_handlers_suite_as (HandSPX.lands_againZ fl3 fun h4 fl4 up4 => ?_)))
    have J4 := land h4 fl4 (up3.trans up4)
    obtain ⟨oe4, vs4, he4, hz4, hd4⟩ := fl4.there
    refine store_ok (X := X.suite a ((a, oe4) :: (X.pn ++ pins))) (v := .ref a) (J4.suite he4 hd4 na nL nF) hN hi (.inl hln) rfl (fun s5 S5 => ?_) (.inr hln)
    refine wpAny_mono ((hsu a oe4 (X.pn ++ pins)).run [] s5 _ H' _ S5 (hyes a na)) (fun f s6 hsp => ?_) (fun _ _ z => z.elim)
    have gone : ∀ {σ6 : L2.St} {H6 : Hp} {Q : Shared → Prop}, Inv (X.suite a ((a, oe4) :: (X.pn ++ pins))) [] σ6 H6 s6 → (∀ s7, Inv X ((a, oe4) :: pins) (σ6.set i none) H6 s7 → Q s7) →
        wpAny (model X.prog X.w) X.A (do bindName X.env n .none; unbindBehindTheSuite X.env n pos') (fun _ s7 => Q s7) X.xe s6 := fun {σ6 H6 Q} S6 hq => by
      have S7 : Inv X ((a, oe4) :: pins) σ6 H6 s6 := ⟨ok, S6.os, S6.bare, S6.base, S6.loc, S6.cell, S6.free, S6.freeC, fun p hp => S6.pin p (List.mem_append_left _ (by
        rcases List.mem_append.mp hp with q | q
        · exact .tail _ (List.mem_append_left _ q)
        · rcases List.mem_cons.mp q with q | q
          · rw [q]; exact .head _
          · exact .tail _ (List.mem_append_right _ q))), S6.hok, S6.len⟩
      exact gone_ok S7 hN hi hln hq
    cases f with
    | next =>
      obtain ⟨σ6, H6, S6, q6⟩ := hsp
      exact gone S6 fun s7 J7 => by
        have q := (J7.pin (a, oe4) (List.mem_append_right _ List.mem_cons_self)).2.1
        exact ⟨_, _, inv_track J7 n0 hz4 ⟨_, hd4⟩ hpin, q6 q⟩
    | brk =>
      obtain ⟨σ6, H6, S6, q6⟩ := hsp
      exact q6.elim
    | cont =>
      obtain ⟨σ6, H6, S6, q6⟩ := hsp
      exact q6.elim
    | ret u =>
      obtain ⟨v6, σ6, H6, S6, r6, q6⟩ := hsp
      exact q6.elim
  · cases f with
    | next =>
      obtain ⟨σ6, H6, S6, q6⟩ := hsp
      exact wpAny_execs_nil ⟨σ6, H6, S6.ofTry ok, q6⟩
    | brk =>
      obtain ⟨σ6, H6, S6, q6⟩ := hsp
      exact ⟨σ6, H6, S6.ofTry ok, q6⟩
    | cont =>
      obtain ⟨σ6, H6, S6, q6⟩ := hsp
      exact ⟨σ6, H6, S6.ofTry ok, q6⟩
    | ret u =>
      obtain ⟨v6, σ6, H6, S6, r6, q6⟩ := hsp
      exact ⟨v6, σ6, H6, S6.ofTry ok, r6, q6⟩
end
section
variable {X : Cx} {W W' : WX}
theorem takes_len (tk : L2.Takes X W) (h : ∀ c d σ H, σ.length = X.N.length → W' c d σ H → W c d σ H) : L2.Takes X W' := fun u s' ⟨a, B, sI, pins, σ, H, cls, d, e, I, nb, up, sky, na, os, ag, w⟩ => tk u s' ⟨a, B, sI, pins, σ, H, cls, d, e, I, nb, up, sky, na, os, ag, h _ _ _ _ I.len w⟩
end
/-- what a body of a try may let out, told by its class alone -/
def xkT (EX : Addr → Prop) (H : Hp) : XK := fun c d H' => ∃ C, EX C ∧ c = .ref C ∧ d = none ∧ Same H H'
abbrev jT (j : J) (EX : Addr → Prop) (pn : List (Addr × Obj)) (xe : Value → Shared → Prop) (F H : Hp) (tk : L2.Takes (j.X.tr pn xe) fun c d _ H' => xkT EX H c d H') (po : PassesOwn (model j.X.prog j.X.w) j.X.A j.X.env xe) : J where
  X := j.X.tr pn xe
  F0 := F
  H0 := H
  xk := xkT EX H
  tk := tk
  po := po
  EX := EX
  ex := fun C h _ sm => ⟨C, h, rfl, rfl, sm⟩
def notOw : Sl → Bool
  | .ow _ => false
  | .owd _ => false
  | _ => true
section
variable {j : J} {S : List Sl} {D : DEnds}
theorem ds_tryK (EX : Addr → Prop) {x n y : Str} {i iy : Nat} {cE : Addr} {body : List Stmt} {np yp np2 ap pos pos' : Pos} (hc : Names j.X x (.ref cE)) (hi : j.X.N[i]? = some n) (hln : j.X.env.kindOf n = some .local) (ly : LM j.X y iy) (hv : Vis j.X.env.scope n)
    (hm : ∀ C, EX C → PySem.W.exmOne j.X.K (.ref C) (.ref cE) = some true)
    (hb : ∀ pn xe F H tk po, DB (jT j EX pn xe F H tk po) S body D) (hk : ∀ C, EX C → D.nx ((List.replicate S.length Sl.un).set iy (.da (.exc C))))
    (how : S.all notOw = true := by rfl) (hlen : S.length = j.X.N.length := by rfl) (hne : i ≠ iy := by decide) (hd : (n == ("__debug__" : Str)) = false := by decide +kernel) (hd2 : (n == ("__classdict__" : Str)) = false := by decide +kernel) (hx : j.X.ex = [] := by rfl) (hs : j.X.stack = j.X.env :: j.X.outer := by rfl) (hf : j.X.env.frame = some j.X.env.locals := by rfl)
    (hsw : swapsWith (.Name n np2) (some (.Name y yp)) ap.line j.X.env = pure false := by rfl) :
    DS j S (.Try body [.ExceptHandler (some (.Name x np)) (some n) [.Assign [.Name y yp] (.Name n np2) ap] pos'] [] [] pos) D := fun σ F H rp => by
  refine wp_ps (ps_try_keep (i := i) (ts := fun _ => tAsg (tVar i) (gName iy)) (tb := fun W D σ H => ∀ pn xe, L2.Takes (j.X.tr pn xe) W → PassesOwn (model j.X.prog j.X.w) j.X.A j.X.env xe → wpB (j.X.tr pn xe) body D σ H) hs hf ly.nd hi hln hc hx (fun W pn xe tk po => ⟨fun pins s σ H D I h => h pn xe tk po pins s I⟩)
    (fun a oe pn => pss_one (ps_set (X := j.X.suite a ((a, oe) :: pn)) ly.nd ly.N ly.l (pe_var (X := j.X.suite a ((a, oe) :: pn)) hi hv hd hd2) hsw ly.f))) fun pn xe tk po => ?_
  have tk' : L2.Takes (j.X.tr pn xe) fun c d _ H' => xkT EX H c d H' := takes_len tk fun c d σ' H' hl ⟨C, hC, e1, e2, sm⟩ => by
    subst e1 e2
    refine ⟨hm C hC, rfl, C, rfl, fun a ha => ⟨.ref a, ?_, fun ha' => ?_⟩⟩
    · rw [List.getElem?_set_self (by rw [hl]; exact (List.getElem?_eq_some_iff.mp hi).1)]
    have hl2 : S.length = σ'.length := hlen.trans hl.symm
    have hHa : H a = none := sm.free ha
    have hFa : F a = none := rp.ext.free hHa
    have h0a : j.H0 a = none := rp.h0.free hHa
    have sF : Same F (upd F a (ExW C a)) := fun b o q => by rw [upd_ne (ne_of_none q hFa)]; exact q
    refine ⟨(List.replicate S.length Sl.un).set iy (.da (.exc C)), upd F a (ExW C a), ⟨⟨fun b o q => ?_, rp.f0.trans sF, fun b o q => ?_, fun b o q => ?_⟩, ?_, fun k t o e1 e2 => ?_, fun k m ds es l _ e1 => ?_⟩, sF, hk C hC⟩
    · by_cases z : b = a
      · subst z
        rw [upd_same] at q ⊢
        exact q
      · rw [upd_ne z] at q ⊢
        exact sm b o (rp.ext b o q)
    · have q2 := sm b o (rp.h0 b o q)
      rw [upd_ne (ne_of_none q2 ha)]
      exact q2
    · by_cases z : b = a
      · subst z
        exact .inr h0a
      · rw [upd_ne z] at q
        exact rp.new b o q
    · simp only [List.length_set, List.length_replicate]
      exact hl2
    · by_cases z : k = iy
      · subst z
        have hky : k < σ'.length := by rw [hl]; exact (List.getElem?_eq_some_iff.mp ly.N).1
        rw [List.getElem?_set_self (by rw [List.length_replicate]; omega)] at e1
        cases e1
        rw [List.getElem?_set_ne hne, List.getElem?_set_self (by rw [List.length_set]; exact hky)] at e2
        cases e2
        exact ⟨_, rfl, a, rfl, upd_same⟩
      · rw [List.getElem?_set_ne (Ne.symm z), List.getElem?_replicate] at e1
        split at e1
        · cases e1
          trivial
        · cases e1
    · by_cases z : k = iy
      · subst z
        rw [List.getElem?_set] at e1
        split at e1
        · split at e1 <;> cases e1
        · rename_i z; exact absurd rfl z
      · rw [List.getElem?_set_ne (Ne.symm z), List.getElem?_replicate] at e1
        split at e1 <;> cases e1
  have noOw : ∀ {k : Nat} {ds : List Da}, S[k]? ≠ some (.ow ds) := fun {k ds} q => by
    have := List.all_eq_true.mp how _ (List.mem_of_getElem? q)
    cases this
  have back : ∀ {S' : List Sl} {σ' : L2.St} {F' H' : Hp}, Rp (jT j EX pn xe F H tk' po) S' σ' F' H' → Rp j S' σ' F' H' := fun {S' σ' F' H'} r => by
    refine ⟨⟨r.ext, rp.f0.trans r.f0, rp.h0.trans r.h0, fun b o q => ?_⟩, r.len, fun k t o e1 e2 => ?_, r.ap⟩
    · rcases r.new b o q with q | q
      · exact rp.new b o q
      · exact .inr (rp.h0.free q)
    · have z := r.sl k t o e1 e2
      cases t with
      | un => trivial
      | da d => exact z
      | ow ds =>
        obtain ⟨l, vs, h1, h2, h3, h4, h5⟩ := z
        exact ⟨l, vs, h1, h2, h3, h4, rp.h0.free h5⟩
      | owd ds =>
        obtain ⟨l, h1, h2, h3, h5⟩ := z
        exact ⟨l, h1, h2, h3, rp.h0.free h5⟩
  have rp' : Rp (jT j EX pn xe F H tk' po) S σ F H := ⟨⟨rp.ext, fun _ _ q => q, fun _ _ q => q, fun _ _ q => .inl q⟩, rp.len, fun k t o e1 e2 => by
    have z := rp.sl k t o e1 e2
    cases t with
    | un => trivial
    | da d => exact z
    | ow ds => exact absurd e1 noOw
    | owd ds => exact Bool.noConfusion (show false = true from List.all_eq_true.mp how _ (List.mem_of_getElem? e1)), rp.ap⟩
  refine wpB_lift (j := jT j EX pn xe F H tk' po) (hb pn xe F H tk' po σ F H rp') (fun S' σ' F' H' r sm q => ⟨S', F', back r, sm, q⟩) (fun d v F' H' r sm a q => ?_) (fun S' σ' F' H' r sm q => ⟨S', F', back r, sm, q⟩) (fun S' σ' F' H' r sm q => ⟨S', F', back r, sm, q⟩)
  refine ⟨d, F', ⟨r.ext, rp.f0.trans r.f0, rp.h0.trans r.h0, fun b o q => ?_⟩, sm, a, q⟩
  rcases r.new b o q with q | q
  · exact rp.new b o q
  · exact .inr (rp.h0.free q)
/-! isinstance of what was caught -/
def rIsW (K : PySem.W.Frag) (D : Addr) : List V → Hp → VK → Prop := fun xs H Q => ∃ (a : Addr) (c : V) (cv : Value) (b : Bool), xs = [.ref a, c] ∧ H a = some (ExW D a) ∧ (∀ u, RelV c u → u = cv) ∧ PySem.W.kitOne K (.ref D) cv = some b ∧ Q (.bl b) H
theorem call_isW {X : Cx} {D : Addr} (C : ExcC X.K D) : CallR X (.builtin "isinstance") (rIsW X.K D) := fun pins s σ H xs us Q I r h => by
  obtain ⟨a, c, cv, b, rfl, ha, hcv, e, q⟩ := h
  cases r with
  | cons rx rr =>
    cases rr with
    | cons rt rr =>
      cases rr
      cases rx
      cases hcv _ rt
      obtain ⟨⟨⟨oc, od, oda, osl⟩, hget, ⟨h1, h2⟩, vs, hv⟩, _⟩ := I.hok a _ ha
      dsimp only at h1 h2 hv
      subst h1 h2 hv
      have J : PySem.W.InstAt s.heap a ⟨.ref D, none, .fields vs, osl⟩ D none := ⟨hget, rfl, rfl, trivial⟩
      have kit := PySem.W.handS_kitx_exc (x := a) (ox := ⟨.ref D, none, .fields vs, osl⟩) C.hg C.hk C.hs C.hd C.ha C.hn C.ht C.hm
      exact PySem.W.kia_one kit I.kIn J e (fun z => nomatch z) fun t' => ⟨.bl b, H, I.kept (t' := t') fun _ _ z => z, rfl, q⟩
theorem cd_isE {D T : Addr} {b : Bool} (C : ExcC j.X.K D) (hk : PySem.W.kitOne j.X.K (.ref D) (.ref T) = some b) : CallD j (.builtin "isinstance") [.exc D, .fn T] (.bl b) := fun F H e vs a QQ kk => by
  obtain ⟨v, u, rfl, ⟨p, rfl, hp⟩, rfl⟩ := ats2 a
  exact wp_call (call_isW C) ⟨p, _, .ref T, b, rfl, e _ _ hp, fun u r => r, hk, kk _ F H (.refl e) rfl⟩
theorem cd_isET {D : Addr} {n : String} {b : Bool} (C : ExcC j.X.K D) (hk : PySem.W.kitOne j.X.K (.ref D) (.type n) = some b) : CallD j (.builtin "isinstance") [.exc D, .ty n] (.bl b) := fun F H e vs a QQ kk => by
  obtain ⟨v, u, rfl, ⟨p, rfl, hp⟩, rfl⟩ := ats2 a
  exact wp_call (call_isW C) ⟨p, _, .type n, b, rfl, e _ _ hp, fun u r => r, hk, kk _ F H (.refl e) rfl⟩
end
/-! tests for the head -/
def excB (x : Str) (K : PySem.W.Frag) : Bool :=
  decide (PySem.W.findIn K (.ref (He.ga K x)) "__getattribute__" = some (some (.builtin "BaseException.__getattribute__"))) && (decide (PySem.W.findIn K (.ref (He.ga K x)) "__getattr__" = some none) && (decide (PySem.W.subIn K (.ref (He.ga K x)) (.type "BaseException") = some true)
    && (PySem.W.hasDictIn K (He.ga K x) && (decide (PySem.W.findIn K (.ref (He.ga K x)) "__class__" = some (some (.builtin "object.__class__"))) && (decide (PySem.W.specialIn K (.builtin "object.__class__") "__get__" = some (some (.builtin "getset_descriptor.__get__")))
    && (decide (PySem.W.takesIn K (.builtin "object.__class__") = some true) && decide (PySem.W.mroIn K (He.ga K x) (.type "object") = some true)))))))
theorem excB_ok {x : Str} {K : PySem.W.Frag} (h : excB x K = true) : ExcC K (He.ga K x) := by
  unfold excB at h
  simp only [Bool.and_eq_true, decide_eq_true_eq] at h
  obtain ⟨h1, h2, h3, h4, h5, h6, h7, h8⟩ := h
  exact ⟨h1, h2, h3, h4, h5, h6, h7, h8⟩
def kitE (x t : Str) (b : Bool) (K : PySem.W.Frag) : Bool := decide (PySem.W.kitOne K (.ref (He.ga K x)) (.ref (He.ga K t)) = some b)
def kitV (x : Str) (K : PySem.W.Frag) : Bool := decide (PySem.W.kitOne K (.ref (He.ga K x)) (.type "ValueError") = some true)
end DL
/-! DLS: sorted of a list, of a tuple of whole numbers. -/
namespace DL
open PySem PySem.Spec PyProof.Rows L2
section
variable {prog : Program} {w : World} {A : Around} {E : Value → Shared → Prop} {s : Shared}
theorem collect_tup {p : Addr} {us : List Value} {Q : List Value → Shared → Prop} (hp : IsTup s.heap p us.toArray) (hz : us.length ≤ sizeLine)
    (k : Q us { s with heap := (s.heap.push (seqObj "list" #[] 0)).update s.heap.objs.size (Obj.mapSeq (· ++ us.toArray)) }) : wpAny (model prog w) A (collect (.ref p)) Q E s := by
  obtain ⟨ob, hob, hcl, m, hdt⟩ := id hp
  have hob' : (s.heap.push (seqObj "list" #[] 0)).get? p = some ob := Heap.get?_push_of_some _ hob
  have new0 : (s.heap.push (seqObj "list" #[] 0)).get? s.heap.objs.size = some (seqObj "list" #[] 0) := Heap.get?_push_size _ rfl
  have lim : (#[] ++ us.toArray).size ≤ sizeLine + 1 := by simp only [Array.size_append, List.size_toArray, List.length_nil]; omega
  unfold collect
  refine wpAny_bind (wpAny_runValue (codeAny_builtin PyProof.Rows.entry_proto_collect' ?_))
  show wpAny _ _ (do again (.builtin "list.__iadd__" ⟨[← newList [], .ref p], []⟩)) _ _ s
  refine wpAny_bind (wpAny_newList (wpAny_pure ⟨Code.quiet_builtin _ (by decide +kernel), codeAny_builtin PyProof.Rows.entry_list_iadd' ?_⟩))
  show wpAny _ _ (Builtin.List.listExtendWith (.ref s.heap.objs.size) (.ref p) (.ref s.heap.objs.size)) _ _ { s with heap := s.heap.push (seqObj "list" #[] 0) }
  unfold Builtin.List.listExtendWith
  refine wpAny_bind (wpAny_typeOf (T := "tuple") ⟨ob, hob', hcl⟩ ?_)
  have tt : (Value.type "tuple" == Value.type "tuple") = true := by rfl
  rw [if_pos (by rw [tt]; simp)]
  refine wpAny_bind (listItems_at hob' hdt (wpAny_bind (listItems_at (xs := #[]) (n := 0) new0 rfl ?_)))
  rw [if_neg (by simp)]
  refine wpAny_bind (listUpdate_at (xs := #[]) (n := 0) new0 rfl (wpAny_pure ?_) (Nat.zero_le _) lim)
  show wpAny (model prog w) A (do
      let ob ← load s.heap.objs.size
      match ob.data with
      | .seq ys _ => pure ys.toList
      | _ => unsupported "internal:collect") Q E { s with heap := (s.heap.push (seqObj "list" #[] 0)).update s.heap.objs.size (Obj.mapSeq (· ++ us.toArray)) }
  refine wpAny_bind (wpAny_load (get?_update_seq new0 _) ?_)
  have e : ((#[] : Array Value) ++ us.toArray).toList = us := by simp
  show wpAny _ _ (pure ((#[] : Array Value) ++ us.toArray).toList) Q E _
  rw [e]
  exact wpAny_pure k
theorem sorted_tupI {p : Addr} {us : List Value} {ns : List Int} {Q : Value → Shared → Prop} (hp : IsTup s.heap p us.toArray) (hI : IntsAre us ns) (h64 : us.length < 64)
    (k : ∀ (out : Array Value) (ms : List Int), IntsAre out.toList ms → ms.Perm ns → ms.Pairwise (· ≤ ·) → Q (.ref (s.heap.objs.size + 1)) { s with heap := PyProof.Rows.sortedAll s.heap us out }) : wpAny (model prog w) A (call (.builtin "sorted") [.ref p]) Q E s := by
  refine Calls.call_function_entry PyProof.Rows.kind_sorted PyProof.Rows.plain_sorted PyProof.Rows.entry_sorted (PyProof.Rows.args_sorted1 _) ?_
  unfold Builtin.«sorted»
  have hz : us.length ≤ sizeLine := by have := sizeLine_eq; omega
  refine wpAny_bind (m := checkCount "sorted" 1 1 _) (wpAny_pure (wpAny_bind (collect_tup hp hz (wpAny_bind (wpAny_newList ?_)))))
  have size1 : ((s.heap.push (seqObj "list" #[] 0)).update s.heap.objs.size (Obj.mapSeq (· ++ us.toArray))).objs.size = s.heap.objs.size + 1 := (Heap.size_update ..).trans (size_push' ..)
  have there : (((s.heap.push (seqObj "list" #[] 0)).update s.heap.objs.size (Obj.mapSeq (· ++ us.toArray))).push (seqObj "list" us.toArray 0)).get? (s.heap.objs.size + 1) = some (seqObj "list" us.toArray 0) := size1 ▸ Heap.get?_push_size _ rfl
  show wpAny _ _ _ _ _ { s with heap := ((s.heap.push (seqObj "list" #[] 0)).update s.heap.objs.size (Obj.mapSeq (· ++ us.toArray))).push (seqObj "list" us.toArray 0) }
  rw [size1]
  exact wpAny_bind (wpAny_holding (wpAny_call_entry PyProof.Rows.slot_list_sort ⟨_, there, rfl⟩ PyProof.Rows.entry_list_sort (PyProof.Rows.list_sort_tree there hI h64 fun out ms a1 a2 a3 => ⟨_, rfl, wpAny_pure ⟨_, rfl, k out ms a1 a2 a3⟩⟩) (PyProof.Rows.args_list_sort _)))
end
def rSortTup (K : PySem.W.Frag) : List V → Hp → VK → Prop := fun vs H Q => ∃ (a : Addr) (ns : List Int), vs = [V.ref a] ∧ SqT K H a (ns.map V.int) ∧ ns.length < 64 ∧ ∀ (ms : List Int) (p : Addr), ms.Perm ns → ms.Pairwise (· ≤ ·) → H p = none → Q (.ref p) (upd H p (.lst (ms.map V.int)))
theorem cr_sortTup {X : Cx} : CallR X (.builtin "sorted") (rSortTup X.K) := fun pins s σ H vs us Q I r h => by
  obtain ⟨a, ns, rfl, hs, h64, q⟩ := h
  obtain ⟨its, rv, hl, _⟩ := I.tuple hs
  rw [Vals.ref1 r]
  have hi := rv.ints
  refine sorted_tupI hl hi (by rw [hi.length]; exact h64) fun out ms h1 h2 h3 => ?_
  obtain ⟨ep, he'⟩ := PyProof.Rows.sortedAll_at s.heap its out
  have hlen : (ms.map V.int).length ≤ sizeLine := by
    have big := sizeLine_eq
    have same := h2.length_eq
    rw [List.length_map]
    omega
  refine ⟨.ref _, upd H (s.heap.objs.size + 1) (.lst (ms.map V.int)), ?_, rfl, q ms _ h2 h3 (I.hok.fresh (Nat.le_succ _))⟩
  exact I.laid (t' := s.toks) (fun _ _ => PyProof.Rows.sortedAll_old) (Nat.le_succ _) ⟨hlen, out.toList, ep, vals_of_ints h1, he'⟩
theorem srt_uniq {ns ms ks : List Int} (h1 : ms.Perm ns) (h2 : ms.Pairwise (· ≤ ·)) (h3 : ks.Perm ns) (h4 : ks.Pairwise (· ≤ ·)) : ms = ks :=
  (h1.trans h3.symm).eq_of_pairwise (fun a b _ _ ha hb => Int.le_antisymm ha hb) h2 h4
section
variable {j : J}
theorem cd_sortT {ns ms : List Int} (hp : ms.Perm ns) (hs : ms.Pairwise (· ≤ ·)) (hz : ns.length < 64) : CallD j (.builtin "sorted") [.tup (ns.map Da.int)] (.lst (ms.map Da.int)) := fun F H e vs a QQ kk => by
  obtain ⟨v, rfl, ⟨p, ws, rfl, h1, a1⟩⟩ := ats1 a
  cases ats_int a1
  refine wp_call cr_sortTup ⟨p, ns, rfl, .of (e _ _ h1), hz, fun ks q k1 k2 hq => ?_⟩
  cases srt_uniq k1 k2 hp hs
  have st := Stp.alloc e hq (.lst (ms.map V.int))
  exact kk _ _ _ st ⟨q, _, rfl, upd_same, ats_int' ms⟩
theorem cd_sortL {ns ms : List Int} (hp : ms.Perm ns) (hs : ms.Pairwise (· ≤ ·)) (hz : ns.length < 64) : CallD j (.builtin "sorted") [.lst (ns.map Da.int)] (.lst (ms.map Da.int)) := fun F H e vs a QQ kk => by
  obtain ⟨v, rfl, ⟨p, ws, rfl, h1, a1⟩⟩ := ats1 a
  cases ats_int a1
  refine wp_call cr_sorted ⟨p, ns, rfl, .of (e _ _ h1), hz, fun ks q k1 k2 hq => ?_⟩
  cases srt_uniq k1 k2 hp hs
  have st := Stp.alloc e hq (.lst (ms.map V.int))
  exact kk _ _ _ st ⟨q, _, rfl, upd_same, ats_int' ms⟩
end
end DL
/-! DLD: a dict of one's own whose keys are rows of numbers. -/
namespace DL
open PySem PySem.Spec PyProof.Rows L2
def kvD (ks : List (List Int)) : List (List Key × V) := ks.map fun k => (k.map Sum.inl, V.bl true)
theorem inl_inj : ∀ {a b : List Int}, (a.map Sum.inl : List Key) = b.map Sum.inl → a = b
  | [], [], _ => rfl
  | [], _ :: _, h => by cases h
  | _ :: _, [], h => by cases h
  | x :: a, y :: b, h => by
    rw [List.map_cons, List.map_cons] at h
    injection h with h1 h2
    injection h1 with h1
    rw [h1, inl_inj h2]
theorem val_kvD (k : List Int) : ∀ ks : List (List Int), (valV (kvD ks) (k.map Sum.inl)).isSome = decide (k ∈ ks)
  | [] => rfl
  | c :: ks => by
    show (valV ((c.map Sum.inl, V.bl true) :: kvD ks) (k.map Sum.inl)).isSome = _
    by_cases h : c = k
    · subst h
      rw [valV_pos rfl]
      exact (decide_eq_true List.mem_cons_self).symm
    · rw [valV_neg fun e => h (inl_inj e), val_kvD k ks]
      refine decide_eq_decide.mpr ⟨fun q => List.mem_cons_of_mem _ q, fun q => ?_⟩
      rcases List.mem_cons.mp q with q | q
      · exact absurd q.symm h
      · exact q
theorem put_kvD {k : List Int} {ks : List (List Int)} (h : k ∉ ks) : putK (kvD ks) (k.map Sum.inl) (V.bl true) = kvD (ks ++ [k]) := by
  have e : ((kvD ks).any fun kv => decide (kv.1 = k.map Sum.inl)) = false := by
    rw [List.any_eq_false]
    rintro ⟨q, v⟩ hq hd
    obtain ⟨c, hc, e⟩ := List.mem_map.mp hq
    cases e
    exact h (inl_inj (of_decide_eq_true hd) ▸ hc)
  unfold putK
  rw [e, if_neg (by decide)]
  unfold kvD
  rw [List.map_append]
  rfl
theorem keys_int : ∀ k : List Int, (k.map V.int) = (k.map Sum.inl : List Key).map kV
  | [] => rfl
  | x :: k => by
    rw [List.map_cons, List.map_cons, List.map_cons, ← keys_int k]
    rfl
section
variable {j : J} {S : List Sl} {D : DEnds} {pos : Pos}
theorem Rp.ownD {i : Nat} {ks : List (List Int)} {σ : L2.St} {F H : Hp} (r : Rp j S σ F H) (h : S[i]? = some (.owd ks)) : ∃ l, σ[i]? = some (some (.ref l)) ∧ H l = some (dTO ks) ∧ F l = none ∧ j.H0 l = none := by
  have hi : i < σ.length := by rw [← r.len]; exact (List.getElem?_eq_some_iff.mp h).1
  obtain ⟨l, e, a⟩ := r.sl i _ _ h (List.getElem?_eq_getElem hi)
  exact ⟨l, by rw [List.getElem?_eq_getElem hi, e], a⟩
/-- x = {} -/
theorem ds_setD {x : Str} {i : Nat} {pos' p : Pos} (l : LM j.X x i) (k : D.nx (S.set i (.owd []))) (hs : swapsWith (.Dict [] [] p) (some (.Name x pos')) pos.line j.X.env = pure false := by rfl) : DS j S (.Assign [.Name x pos'] (.Dict [] [] p) pos) D := fun σ F H rp => by
  refine wp_ps (ps_set l.nd l.N l.l pe_dnewT hs l.f) fun q hq => ?_
  have hF : F q = none := rp.ext.free hq
  have st : Stp F H F (upd H q (.dT [])) := ⟨fun _ _ z => z, fun a o z => by rw [upd_ne (ne_of_none z hF)]; exact rp.ext a o z, fun a o z => by rw [upd_ne (ne_of_none z hq)]; exact z, fun _ _ z => .inl z⟩
  exact ⟨_, F, (rp.step st).set (s := .owd []) ⟨q, rfl, upd_same, hF, rp.h0.free hq⟩ (fun _ _ _ _ _ e => by cases e), fun _ _ z => z, k⟩
/-- e in x -/
theorem de_inD {x : Str} {i n : Nat} {ks : List (List Int)} {e : Expr} {k : List Int} {np cp : Pos} (nm : NM j.X x i) (hS : S[i]? = some (.owd ks)) (hr : Room n j.X.A) (he : DE j S e (.tup (k.map Da.int))) (hm : behindInMarks .In (.Name x np) = false := by rfl) : DE j S (.Compare e [.In] [.Name x np] cp) (.bl (decide (k ∈ ks))) := fun σ F H rp QQ kk => by
  obtain ⟨l, e1, e2, e3, e4⟩ := rp.ownD hS
  have hu := hr.units
  refine wp_pe (pe_cmp (pc_din (by omega) pe_wp (pe_var nm.N nm.v nm.d nm.c)) hm) (he σ F H rp _ fun v F1 H1 s1 ⟨a, ws, ev, h1, a1⟩ => ⟨.ref l, e1, l, _, rfl, .inr ⟨kvD ks, k.map Sum.inl, a, .inl (s1.h _ _ e2), ev, ?_, rfl⟩, ?_⟩)
  · cases ats_int a1
    rw [← keys_int]
    exact s1.e _ _ h1
  · rw [val_kvD]
    exact kk _ F1 H1 s1 rfl
/-- x[e] = True, a new key -/
theorem ds_putD {x : Str} {i n : Nat} {ks : List (List Int)} {e : Expr} {k : List Int} {m : Nat} {np cp vp : Pos} (nm : NM j.X x i) (hS : S[i]? = some (.owd ks)) (hr : Room n j.X.A) (he : DE j S e (.tup (k.map Da.int))) (hk : k ∉ ks) (hz : ks.length < 1000000) (hone : ∀ t s, t ≠ i → S[t]? = some s → (match s with | .owd _ => false | _ => true) = true) (kn : D.nx (S.set i (.owd (ks ++ [k]))))
    (hs : swapsWith (.Constant (.bool true) m vp) (some (.Subscript (.Name x np) e cp)) pos.line j.X.env = pure false := by rfl) : DS j S (.Assign [.Subscript (.Name x np) e cp] (.Constant (.bool true) m vp) pos) D := fun σ F H rp => by
  obtain ⟨l, e1, e2, e3, e4⟩ := rp.ownD hS
  have hu := hr.units
  refine wp_ps (ps_dput (by omega) (pe_var nm.N nm.v nm.d nm.c) pe_wp pe_bl hs) ⟨.ref l, e1, he σ F H rp _ fun v F1 H1 s1 ⟨a, ws, ev, h1, a1⟩ => ⟨l, upd H1 l (dTO (ks ++ [k])), rfl, .inr ⟨kvD ks, k.map Sum.inl, a, s1.h _ _ e2, ev, ?_, ?_, ?_⟩, ?_⟩⟩
  · cases ats_int a1
    rw [← keys_int]
    exact s1.e _ _ h1
  · have := sz_lt hz
    unfold kvD
    rw [List.length_map]
    exact this
  · rw [put_kvD hk]
    rfl
  · have r1 := rp.step s1
    obtain ⟨l', q1, q2, q3, q4⟩ := r1.ownD hS
    rw [e1] at q1
    cases q1
    refine ⟨S.set i (.owd (ks ++ [k])), F1, ⟨⟨fun b o q => ?_, r1.f0, fun b o q => ?_, r1.new⟩, by rw [List.length_set, r1.len], fun t s' o' w1 w2 => ?_, fun t u ds es l' hne w1 w2 w3 w4 => ?_⟩, s1.f, kn⟩
    · rw [upd_ne (ne_of_none q q3)]
      exact r1.ext _ _ q
    · rw [upd_ne (ne_of_none q q4)]
      exact r1.h0 _ _ q
    · by_cases z : i = t
      · subst z
        rw [List.getElem?_set_self (List.getElem?_eq_some_iff.mp hS).1] at w1
        cases w1
        rw [e1] at w2
        cases w2
        exact ⟨l, rfl, upd_same, q3, q4⟩
      · rw [List.getElem?_set_ne z] at w1
        have g := r1.sl t s' o' w1 w2
        cases s' with
        | un => trivial
        | da d => exact g
        | ow es =>
          obtain ⟨l2, vs2, g0, g1, g2, g3, g4⟩ := g
          refine ⟨l2, vs2, g0, ?_, g2, g3, g4⟩
          rw [upd_ne (fun z2 => by subst z2; rw [q2] at g1; cases g1)]
          exact g1
        | owd es => cases hone t _ (Ne.symm z) w1
    · have ne : ∀ {t : Nat} {ds : List Da}, (S.set i (.owd (ks ++ [k])))[t]? = some (.ow ds) → S[t]? = some (.ow ds) := fun {t ds} q => by
        by_cases z : i = t
        · subst z
          rw [List.getElem?_set_self (List.getElem?_eq_some_iff.mp hS).1] at q
          cases q
        · rw [List.getElem?_set_ne z] at q
          exact q
      exact r1.ap t u ds es l' hne (ne w1) (ne w2) w3 w4
/-- len(x) -/
theorem de_lenD {mg : Str → Option Value} {x : Str} {i : Nat} {ks : List (List Int)} {p np cp : Pos} (h : FreeN mg "len") (hv : bootBuiltins "len" = some (.builtin "len")) (nm : NM j.X x i) (hS : S[i]? = some (.owd ks)) (hg : Gl j.X "len" := by rfl) (em : j.X.mg = mg := by rfl)
    (he : starEach [.Name x np] j.X.env = (false, eval (.Name x np) j.X.env) :: starEach [] j.X.env := by rfl) (hpl : (backTo cp (starEach [] j.X.env)).any (·.1) = false := by rfl) : DE j S (.Call (.Name "len" p) [.Name x np] [] cp) (.int (ks.length : Nat)) := fun σ F H rp QQ kk => by
  subst em
  obtain ⟨l, e1, e2, e3, e4⟩ := rp.ownD hS
  refine wp_pe (pe_callB call_len_dT hg h.m hv (pa_cons (pe_var nm.N nm.v nm.d nm.c) pa_nil he) h.n h.db he hpl) ⟨.ref l, e1, l, kvD ks, rfl, e2, ?_⟩
  have e : (kvD ks).length = ks.length := List.length_map ..
  rw [e]
  exact kk _ F H (.refl rp.ext) rfl
/-- a def held in a local name, called -/
theorem de_callL {P : Program} {w : World} {K : PySem.W.Frag} {mg : Str → Option Value} {base : Heap} {k n i : Nat} {x y : Str} {f : Addr} {G : List Da → Da → Prop} {e : Expr} {es : List Expr} {ds : List Da} {d : Da} {p cp : Pos} (h : Fn0 P w K mg base k y G) (hm : mg y = some (.ref f)) (nm : NM j.X x i) (hS : S[i]? = some (.da (.fn f))) (hr : Room n j.X.A) (hk : k ≤ n) (ha : DA j S (e :: es) ds) (g : G ds d)
    (on : On j.X P w K mg base := by exact ⟨rfl, rfl, rfl, rfl, rfl⟩) (he : starEach (e :: es) j.X.env = (false, eval e j.X.env) :: starEach es j.X.env := by rfl) (hpl : (backTo cp (starEach es j.X.env)).any (·.1) = false := by rfl) : DE j S (.Call (.Name x p) (e :: es) [] cp) d := fun σ F H rp QQ kk => by
  obtain ⟨rfl, rfl, rfl, rfl, rfl⟩ := on
  obtain ⟨f', fd, ps, ok, hm', hkp, hb⟩ := h.ex
  cases hm.symm.trans hm'
  obtain ⟨v, e1, ev⟩ := rp.get hS
  cases (show v = .ref f from ev)
  refine wp_pe (pe_callL ok (hr.mono hk) nm.N nm.v hkp hb .nil pass0 pa_wp nm.d nm.c he hpl) ⟨e1, ha σ F H rp _ fun vs F1 H1 s1 a1 => ?_⟩
  rw [List.append_nil]
  exact ⟨F1, ds, d, s1.e, a1, g, fun v F' H' s2 a2 => kk v F' H' (s1.trans s2) a2⟩
end
end DL
/-! DLK: xs[i] += e; sum of a tuple; t < u; enumerate of a tuple, zip of two rows of either kind. -/
namespace DL
open PySem PySem.Spec PyProof.Rows L2
theorem get_list {X : Cx} : PGet X (rIxL X.K) := by
  intro pins s σ H o i ov iv Q I rx ry h
  obtain ⟨p, xs, i, z, rfl, rfl, hq, he, q⟩ := h
  cases rx
  obtain ⟨t, rfl⟩ := ry
  obtain ⟨its, r, pl, hz⟩ := I.list hq
  obtain ⟨j, h1, h2, h3, h4, h5⟩ := atI_get he
  obtain ⟨w, ew, rw'⟩ := r.get h2
  have hl := r.length
  have hn := line63
  have fin : EP X pins σ Q w s := ⟨z, H, I, rw', q⟩
  by_cases h0 : 0 ≤ i
  · have hj : i.toNat = j := by
      rw [seqIndex_of h0 h5] at h1
      exact Option.some.inj h1
    exact wpAny_getItem_list pl.isList h0 (by omega) (by rw [hj]; simpa using ew) fin
  · have hj : (i + (its.toArray.size : Int)).toNat = j := by
      rw [seqIndex_neg (by omega) h4] at h1
      rw [List.size_toArray, ← hl]
      exact Option.some.inj h1
    exact wpAny_getItem_list_neg pl.isList (by omega) (by rw [List.size_toArray] <;> omega) (by omega) (by rw [hj]; simpa using ew) fin
section
variable {j : J} {S : List Sl} {D : DEnds} {pos : Pos}
/-- [d] * n, a new list, no one else's -/
theorem do_rep {a b : Expr} {d : Da} {k : Int} (ha : DE j S a (.lst [d])) (hb : DE j S b (.int k)) (h : 0 ≤ k ∧ k ≤ 1000000) : DO j S (.BinOp a .Mult b pos) (List.replicate k.toNat d) := fun σ F H rp QQ kk =>
  wp_pe (pe_op op_wp pe_wp pe_wp) (ha σ F H rp _ fun v F1 H1 s1 ⟨p, vs, e1, h1, a1⟩ => hb σ F1 H1 (rp.step s1) _ fun u F2 H2 s2 a2 => by
    obtain ⟨x, r, e2, a3, a4⟩ := a1
    cases (show r = [] from a4)
    subst e2
    refine wp_op op_rep ⟨p, k, [x], e1, a2, s2.e _ _ (s2.f _ _ h1), by omega, by omega, sz_le (by simp; omega), fun q hq => ?_⟩
    rw [flat_rep]
    have st : Stp F2 H2 F2 (upd H2 q (.lst (List.replicate k.toNat x))) := ⟨fun _ _ z => z, fun a o z => by rw [upd_ne (ne_of_none (s2.e _ _ z) hq)]; exact s2.e _ _ z, fun a o z => by rw [upd_ne (ne_of_none z hq)]; exact z, fun _ _ z => .inl z⟩
    exact kk q _ _ _ ((s1.trans s2).trans st) (s1.h.free (s2.h.free hq)) upd_same (s2.e.free hq) (Ats.rep (At.mono s2.f _ _ a3) _))
/-- x[a] op= e, x a list of one's own -/
theorem ds_augO {x : Str} {i m : Nat} {op : Operator} {ds : List Da} {a e : Expr} {n : Int} {old y z : Da} {np tp : Pos} (nm : NM j.X x i) (hS : S[i]? = some (.ow ds)) (ha : DE j S a (.int n)) (hn : ixN ds.length n = some m) (hold : ds[m]? = some old) (he : DE j S e y) (ho : OpD j (inplaceOp op) old y z)
    (k : D.nx (S.set i (.ow (ds.set m z)))) (hax : ∀ ov iv new, augStore a ov iv new = (do holding [new, ov, iv] (setItem ov iv new); release [new, ov, iv] []; pure .next) := by intros; rfl) : DS j S (.AugAssign (.Subscript (.Name x np) a tp) op e pos) D := fun σ F H rp => by
  obtain ⟨l, vs, e1, e2, e3, e4, e5⟩ := rp.own hS
  have ip : PIp j.X op (fun x y H Q => wpO j.X (inplaceOp op) x y H Q) := fun pins s σ H x y v u Q I r1 r2 h => h pins s σ v u I r1 r2
  refine wp_ps (ps_augS (pe_var nm.N nm.v nm.d nm.c) pe_wp get_list pe_wp ip set_list hax) ?_
  refine ⟨.ref l, e1, ha σ F H rp _ fun v F1 H1 s1 a1 => ?_⟩
  obtain ⟨w, hw, aw⟩ := e3.get hold
  have hl := e3.length
  have at_ : atI vs n = some w := by
    unfold atI
    rw [hl, hn]
    exact hw
  refine ⟨l, vs, n, w, rfl, a1, .of (s1.h _ _ e2), at_, ?_⟩
  refine he σ F1 H1 (rp.step s1) _ fun u F2 H2 s2 a2 => ?_
  refine ho F2 H2 s2.e w u (At.mono (s1.f.trans s2.f) _ _ aw) a2 _ fun r F3 H3 s3 a3 => ?_
  have st := (s1.trans s2).trans s3
  refine ⟨l, vs, n, m, rfl, a1, st.h _ _ e2, by rw [hl]; exact hn, ?_⟩
  exact ⟨_, F3, (rp.step st).change hS e1 (Ats.set m (Ats.mono st.f _ _ e3) a3), st.f, k⟩
end
/-! ### sum of a tuple, t < u -/
section
variable {prog : Program} {w : World} {A : Around} {E : Value → Shared → Prop} {s : Shared} {l : Addr} {its : List Value} {ns : List Int} {Q : Value → Shared → Prop}
theorem sum_rawT (hh : A.handled = none) (hl : s.heap.IsTuple l its.toArray) (hi : IntsAre its ns)
    (h : ∀ h' tk t', (∀ b o, s.heap.get? b = some o → h'.get? b = some o) → Q (.int ns.sum t') { s with heap := h', toks := tk }) : wpAny (model prog w) A (call (.builtin "sum") [.ref l]) Q E s := by
  obtain ⟨xs, e⟩ := hi.allInts.items
  have hn : numsOf (intItems xs).toList = ns := by rw [← e]; exact hi.numsOf
  rw [nums_intItems] at hn
  rw [e] at hl
  refine PySem.W.ktm_sumG hh hl fun h' tk t' hk => ?_
  have := h h' tk t' hk
  rw [preSum_eq, List.take_of_length_le (by simp), hn]; exact this
end
def rSumT (K : PySem.W.Frag) : List V → Hp → VK → Prop := fun vs H Q => ∃ (a : Addr) (ns : List Int), vs = [V.ref a] ∧ SqT K H a (ns.map V.int) ∧ Q (.int ns.sum) H
theorem cr_sumT {X : Cx} (hc : X.calm = true) : CallR X (.builtin "sum") (rSumT X.K) := by
  intro pins s σ H vs us Q I r h
  obtain ⟨a, ns, rfl, hs, q⟩ := h
  obtain ⟨its, rv, hl, _⟩ := I.tuple hs
  rw [Vals.ref1 r]
  exact sum_rawT (I.ok.hd hc) hl rv.ints fun h' tk t' hk => ⟨.int _, H, I.kept hk, ⟨_, rfl⟩, q⟩
section
variable {j : J}
theorem cd_sum_tup {ns : List Int} (hc : j.X.calm = true := by rfl) : CallD j (.builtin "sum") [.tup (ns.map Da.int)] (.int ns.sum) := fun F H e vs a QQ kk => by
  obtain ⟨v, e0, ⟨a, ws, e1, h1, a1⟩⟩ := ats1 a
  have e2 := ats_int a1
  subst e2
  exact wp_call (cr_sumT hc) ⟨a, ns, by rw [e0, e1], .of (e _ _ h1), kk _ F H (.refl e) rfl⟩
theorem od_ltT {ns ms : List Int} {k : Nat} (hr : Room k j.X.A) : OpD j (compareOp .Lt) (.tup (ns.map Da.int)) (.tup (ms.map Da.int)) (.bl (HT.lexLt ns ms)) := fun F H e vx vy ⟨a, vs, e1, h1, a1⟩ ⟨b, ws, e2, h2, a2⟩ QQ kk => by
  cases ats_int a1
  cases ats_int a2
  have hu := hr.units
  exact wp_op (op_ltT (by omega)) ⟨a, b, ns, ms, e1, e2, .of (e _ _ h1), .of (e _ _ h2), kk _ F H (.refl e) rfl⟩
end
/-! ### walks of pairs -/
/-- pairs -/
def zipD (xs ys : List Da) : List Da := (xs.zip ys).map fun p => .tup [p.1, p.2]
theorem zipD_length {xs ys : List Da} (h : xs.length = ys.length) : (zipD xs ys).length = xs.length := by
  unfold zipD
  rw [List.length_map, List.length_zip]
  omega
theorem zipD_get {xs ys : List Da} {i : Nat} {d : Da} (h : (zipD xs ys)[i]? = some d) : ∃ x y, xs[i]? = some x ∧ ys[i]? = some y ∧ d = .tup [x, y] := by
  unfold zipD at h
  rw [List.getElem?_map, Option.map_eq_some_iff] at h
  obtain ⟨⟨x, y⟩, h1, h2⟩ := h
  have h3 := List.getElem?_zip_eq_some.mp h1
  exact ⟨x, y, h3.1, h3.2, h2.symm⟩
def enumD (xs : List Da) : List Da := zipD (rgD 0 xs.length) xs
theorem enumD_length {xs : List Da} : (enumD xs).length = xs.length := by
  unfold enumD
  rw [zipD_length rgD_length, rgD_length]
theorem enumD_get {xs : List Da} {i : Nat} {d : Da} (h : (enumD xs)[i]? = some d) : ∃ x, xs[i]? = some x ∧ d = .tup [.int (i : Nat), x] := by
  obtain ⟨y, x, h1, h2, h3⟩ := zipD_get h
  obtain ⟨_, rfl⟩ := rgD_get h1
  exact ⟨x, h2, by rw [h3, Int.zero_add]⟩
theorem yd_pair {K : PySem.W.Frag} {Jt : It} {n : Nat} {G : Hp → Prop} {f g : Nat → Option V} {xs ys : List Da} {F1 : Hp} (W : Walk Jt n G (YPair f g)) (hn : xs.length = n) (hm : ys.length = n) (hG : ∀ F H, Same F1 F → Same F H → G H)
    (hf : ∀ i v d, f i = some v → xs[i]? = some d → ∀ F, Same F1 F → At K F d v) (hg : ∀ i v d, g i = some v → ys[i]? = some d → ∀ F, Same F1 F → At K F d v) : Yd K Jt F1 (zipD xs ys) :=
  ⟨G, YPair f g, by rw [zipD_length (hn.trans hm.symm), hn]; exact W, hG, fun i F H x H3 hi e1 e2 y => by
    rw [zipD_length (hn.trans hm.symm)] at hi
    obtain ⟨T, v, u, rfl, hT, rfl, h1, h2⟩ := y
    have hx : xs[i]? = some xs[i] := List.getElem?_eq_getElem hi
    have hy : ys[i]? = some ys[i] := List.getElem?_eq_getElem (by omega)
    have st := Stp.alloc e2 hT (.tup [v, u])
    refine ⟨.tup [xs[i], ys[i]], _, ?_, st, T, [v, u], rfl, upd_same, v, [u], rfl, At.mono st.f _ _ (hf i v _ h1 hx F e1), u, [], rfl, At.mono st.f _ _ (hg i u _ h2 hy F e1), rfl⟩
    unfold zipD
    rw [List.getElem?_map, (List.getElem?_zip_eq_some (z := (xs[i], ys[i]))).mpr ⟨hx, hy⟩]
    rfl⟩
theorem ats_at {K : PySem.W.Frag} {F1 : Hp} {ds : List Da} {vs : List V} (h : Ats K F1 ds vs) : ∀ (i : Nat) (v : V) (d : Da), vs[i]? = some v → ds[i]? = some d → ∀ F, Same F1 F → At K F d v := fun i v d h1 h2 F e => by
  obtain ⟨v', h3, h4⟩ := h.get h2
  rw [h1] at h3
  cases h3
  exact At.mono e _ _ h4
/-! enumerate of a tuple -/
def IteT (K : PySem.W.Frag) (a : Addr) : It :=
  ⟨fun i H => ∃ (xs : List V) (x : V), SqT K H a xs ∧ xs[i]? = some x, fun i H v H' => ∃ T x, v = .ref T ∧ H T = none ∧ H' = upd H T (.tup [.int (i : Nat), x]) ∧ ∀ xs, SqT K H a xs → xs[i]? = some x, fun i H => ∃ xs : List V, SqT K H a xs ∧ xs.length = i⟩
theorem turn_enumT {P : Program} {w : World} {K : PySem.W.Frag} {elts : List Expr} {kk : Nat} {tpos : Pos} (a e it : Addr) :
    Turn P w K (.Tuple elts kk tpos) (IteT K a) [e, it] e (fun i h => (∃ old, IsEnum h e it ((i : Nat) : Int) old) ∧ h.IsTupleIter it a i ∧ e ≠ it) where
  mem := by simp
  obj := fun i h st b hb => by
    obtain ⟨⟨old, he⟩, ⟨o, ho, hc, hd⟩, _⟩ := st
    have e' : b = e ∨ b = it := by simpa using hb
    rcases e' with z | z
    · rw [z]; exact ⟨_, he, fun v q => nomatch q⟩
    · rw [z]; exact ⟨o, ho, fun v q => by rw [hd] at q; cases q⟩
  keep := fun i h h' st k => let ⟨⟨old, he⟩, hi, hne⟩ := st; ⟨⟨old, k e (by simp) _ he⟩, hi.at fun o q => k it (by simp) o q, hne⟩
  item := by
    intro X hP hw hK hc i pins s σ H E I hf st hg
    subst hP hw hK
    obtain ⟨⟨old, he⟩, hit, hne⟩ := st
    obtain ⟨xs, x, hq, hx⟩ := hg
    obtain ⟨its, rv, p, hz⟩ := I.tuple hq
    obtain ⟨u, hu, ru⟩ := rv.get hx
    have hel : e < s.heap.objs.size := Heap.lt_size he
    have hil : it < s.heap.objs.size := by obtain ⟨_, q, _⟩ := hit; exact Heap.lt_size q
    have hea : e ≠ a := fun z => by
      obtain ⟨o, ho, hc', _⟩ := id p
      subst z
      rw [he] at ho
      cases ho
      exact absurd (Value.type.inj hc') (by decide)
    have hai : a ≠ it := fun z => by
      obtain ⟨o, ho, hc', _⟩ := id p
      obtain ⟨o2, ho2, hc2, _⟩ := id hit
      subst z
      rw [ho] at ho2
      cases ho2
      rw [hc'] at hc2
      exact absurd (Value.type.inj hc2) (by decide)
    have hlt : i < its.toArray.size := by
      obtain ⟨q, _⟩ := List.getElem?_eq_some_iff.mp hu
      simpa using q
    refine wpAny_pyNext_enum_itemD (Draws.tuple (show X.A.in1.handled = none from I.ok.hd hc) it a hai its.toArray) he ⟨hit, p⟩ hlt hne (by simp; exact ⟨hne, hea⟩) fun x' h' tk hP ho hst hT hsz hk => ?_
    obtain ⟨hit', p'⟩ := hst
    have ex : x' = u := by
      have : its.toArray[i]? = some u := by simpa using hu
      rw [show its.toArray[i]? = some x' from hP] at this
      exact Option.some.inj this
    subst ex
    refine ⟨_, rfl, wpAny_letOwnedTupleGo_enum (s := { s with heap := h', toks := tk + 1 }) ho fun h'' he' sb => ?_⟩
    have hT2 : h''.get? s.heap.objs.size = some { cls := .type "tuple", data := .seq #[.int i tk, x'] } := (sb.2 _ (Nat.ne_of_gt hel)).trans hT
    have new : ObjOk X.prog X.w (upd H s.heap.objs.size (.tup [.int (i : Nat), x])) h'' s.heap.objs.size (.tup [.int (i : Nat), x]) :=
      ⟨by show 2 ≤ sizeLine; decide, [.int i tk, x'], .cons ⟨_, rfl⟩ (.cons ru .nil), ⟨_, hT2, rfl, _, rfl⟩⟩
    have I1 : Inv X pins σ (upd H s.heap.objs.size (.tup [.int (i : Nat), x])) { s with heap := h'', toks := tk + 1 } :=
      I.turnedNew (ch := [e, it]) (fun b ob hb q => (sb.2 b (fun z => hb (by simp [z]))).trans (hk b ob (fun z => hb (by simp [z])) (fun z => hb (by simp [z])) q)) hf (Nat.le_refl _) new
    refine ⟨.ref s.heap.objs.size, _, I1, rfl, ⟨_, x, rfl, I.hok.fresh (Nat.le_refl _), rfl, fun ys hy => by rw [I.tuple_inj hy hq]; exact hx⟩, ⟨⟨x', ?_⟩, hit'.at fun o q => (sb.2 it (Ne.symm hne)).trans q, hne⟩, fun b hb => ?_⟩
    · have e1 : ((i + 1 : Nat) : Int) = (i : Int) + 1 := by omega
      rw [e1]; exact he'
    · have hb' : b < s.heap.objs.size := by
        have e' : b = e ∨ b = it := by simpa using hb
        rcases e' with z | z
        · rw [z]; exact hel
        · rw [z]; exact hil
      rw [upd_ne (Nat.ne_of_lt hb')]
      exact (hf b hb).1
  done := by
    intro X hP hw hK hc i pins s σ H E I hf st hg
    subst hP hw hK
    obtain ⟨⟨old, he⟩, hit, hne⟩ := st
    obtain ⟨xs, hq, hx⟩ := hg
    obtain ⟨its, rv, p, hz⟩ := I.tuple hq
    obtain ⟨f0, f1, f2, f3, f4, f5⟩ := hf it (by simp)
    have hl := rv.length
    have hai : a ≠ it := fun z => by
      obtain ⟨o, ho, hc', _⟩ := id p
      obtain ⟨o2, ho2, hc2, _⟩ := id hit
      subst z
      rw [ho] at ho2
      cases ho2
      rw [hc'] at hc2
      exact absurd (Value.type.inj hc2) (by decide)
    have hn : its.toArray.size = i := by simp; omega
    exact wpAny_pyNext_enum_endD (Draws.tuple (show X.A.in1.handled = none from I.ok.hd hc) it a hai its.toArray) he (by rw [hn]; exact ⟨hit, p⟩) fun h' eb => ⟨rfl, I.turned (t' := s.toks) (fun b o hb q => eb b o hb q) f0 f1 f3 f4 f5⟩
  self := fun A i s Q E st h => let ⟨⟨_, he⟩, _⟩ := st; wpAny_pyIter_enum he h
theorem meets_enumerate_newT (l : Addr) (items : Array Value) :
    Meets (Builtin.«enumerate.__new__» ⟨[.type "enumerate", .ref l], []⟩) (fun _ R s => s.heap.IsTuple l items ∧
      R (.ok (.ret (.ref (s.heap.push { cls := .type "tuple_iterator", data := .fields #[.ref l, .int 0 0] }).objs.size)))
        { s with heap := (s.heap.push { cls := .type "tuple_iterator", data := .fields #[.ref l, .int 0 0] }).push { cls := .type "enumerate", data := .fields #[.none, .bool false, .ref s.heap.objs.size, rawInt 0, .none, .none] } }) :=
  .of_wp fun prog w A R s h => by
    obtain ⟨hp, g, d, tk, os⟩ := s; obtain ⟨hl, h⟩ := h
    have hsub := sub_enumerate
    have hL : Heap.IsTuple (Shared.heap ⟨hp, g, d, tk, os⟩) l items := hl
    wp_walk using wpAny_pyIter_tuple hL
    refine wpAny_stack_any fun st => wpAny_pure ?_
    split
    · rename_i c _ _ _ _ _
      cases (c == Value.type "enumerate")
      · wp_walk using wpAny_pyIter_tuple hL
        exact ⟨_, rfl, h⟩
      · wp_walk using wpAny_pyIter_tuple hL
        exact ⟨_, rfl, h⟩
    · wp_walk using wpAny_pyIter_tuple hL
      exact ⟨_, rfl, h⟩
end DL
/-! DLK2: what enumerate of a tuple and zip of a list and a tuple make; the walks of data. -/
namespace DL
open PySem PySem.Spec PyProof.Rows L2
section
variable {prog : Program} {w : World} {A : Around} {E : Value → Shared → Prop} {s : Shared}
theorem call_enumerate_tupleT {l : Addr} {items : Array Value} {Q : Value → Shared → Prop} (hL : s.heap.IsTuple l items)
    (h : ∀ h', IsEnum h' (s.heap.objs.size + 1) s.heap.objs.size 0 .none → h'.IsTupleIter s.heap.objs.size l 0 → h'.objs.size = s.heap.objs.size + 2 →
      (∀ b o, s.heap.get? b = some o → h'.get? b = some o) → Q (.ref (s.heap.objs.size + 1)) { s with heap := h' }) :
    wpAny (model prog w) A (call (.type "enumerate") [.ref l]) Q E s := by
  refine callType_new F.called_enumerate (by decide) (F.typeCall_enumerate_1 _) (F.newCall_enumerate_1 _) (fun obj => F.args_object_init_2 obj _) F.entry_enumerate_new
    (meets_enumerate_newT l items) ⟨hL, ?_⟩
  have hz : (s.heap.push { cls := .type "tuple_iterator", data := .fields #[.ref l, .int 0 0] }).objs.size = s.heap.objs.size + 1 := Heap.size_push ..
  show _ ∧ _
  rw [hz]
  have he : IsEnum ((s.heap.push { cls := .type "tuple_iterator", data := .fields #[.ref l, .int 0 0] }).push
      { cls := .type "enumerate", data := .fields #[.none, .bool false, .ref s.heap.objs.size, rawInt 0, .none, .none] }) (s.heap.objs.size + 1) s.heap.objs.size 0 .none := by
    have := Heap.get?_push_size (s.heap.push { cls := .type "tuple_iterator", data := .fields #[.ref l, .int 0 0] })
      (o := { cls := .type "enumerate", data := .fields #[.none, .bool false, .ref s.heap.objs.size, rawInt 0, .none, .none] }) rfl
    rw [hz] at this; exact this
  refine ⟨⟨_, he, rfl⟩, h _ he ⟨_, Heap.get?_push_of_some _ (Heap.get?_push_size _ rfl), rfl, rfl⟩ (by rw [Heap.size_push, hz]) fun b o x => Heap.get?_push_of_some _ (Heap.get?_push_of_some _ x)⟩
end
def iEnumT (K : PySem.W.Frag) (ta : TA) : TI := fun σ H R => ta σ H fun vs H1 => ∃ a xs, vs = [.ref a] ∧ SqT K H1 a xs ∧ R (IteT K a) H1
theorem pi_enumT {X : Cx} {e : Expr} {ta : TA} {p pos tpos : Pos} {elts : List Expr} {kk : Nat} (hg : Gl X "enumerate") (hm : X.mg "enumerate" = none) (ha : PA X [e] ta) (hs : starEach [e] X.env = [(false, eval e X.env)] := by rfl) :
    PI X (.Tuple elts kk tpos) (.Call (.Name "enumerate" p) [e] [] pos) (iEnumT X.K ta) := by
  refine ⟨fun pins s σ H R I h => ?_⟩
  refine Call_ (ld_blt I hg hm boot_enumerate (PyProof.Rows.callWith_type1 (thn (ha.run pos pins s σ H _ I h) fun us s1 ⟨vs, H1, I1, r1, q1⟩ => ?_) hs rfl))
  obtain ⟨a, xs, ex, hq, q⟩ := q1
  subst ex
  cases r1 with
  | cons r rr =>
    cases rr
    cases r
    obtain ⟨its, rv, p', hz⟩ := I1.tuple hq
    refine call_enumerate_tupleT p' fun h' he hit hsz hk => wpAny_pyIter_enum he ?_
    have I2 : Inv X pins σ H1 { s1 with heap := h' } := I1.kept (t' := s1.toks) hk
    refine ⟨s1.heap.objs.size + 1, [s1.heap.objs.size + 1, s1.heap.objs.size], _, _, H1, rfl, I2, turn_enumT a (s1.heap.objs.size + 1) s1.heap.objs.size, ⟨⟨.none, he⟩, hit, Nat.succ_ne_self _⟩, fun b hb => ?_, q⟩
    have e' : b = s1.heap.objs.size + 1 ∨ b = s1.heap.objs.size := by simpa using hb
    have hle : s1.heap.objs.size ≤ b := by
      rcases e' with z | z
      · rw [z]; exact Nat.le_add_right _ _
      · rw [z]; exact Nat.le_refl _
    exact I1.fpOk hle (I1.hok.fresh hle)
theorem walk_enumT {K : PySem.W.Frag} {a : Addr} {xs : List V} : Walk (IteT K a) xs.length (fun H => SqT K H a xs) (YPair (fun i => some (.int (i : Nat))) (fun i => xs[i]?)) := by
  refine ⟨fun i _ hi q => ⟨xs, xs[i], q, by simp [hi]⟩, fun _ q => ⟨xs, q, rfl⟩, fun i H v H' _ q y => ?_⟩
  obtain ⟨T, x, h1, h2, h3, h4⟩ := y
  exact ⟨T, .int (i : Nat), x, h1, h2, h3, rfl, h4 xs q⟩
/-! zip of a list and a tuple -/
def ItzLT (K : PySem.W.Frag) (a b : Addr) : It :=
  ⟨fun i H => ∃ (xs ys : List V) (x y : V), SqL K H a xs ∧ SqT K H b ys ∧ xs[i]? = some x ∧ ys[i]? = some y,
    fun i H v H' => ∃ T x y, v = .ref T ∧ H T = none ∧ H' = upd H T (.tup [x, y]) ∧ (∀ xs, SqL K H a xs → xs[i]? = some x) ∧ ∀ ys, SqT K H b ys → ys[i]? = some y,
    fun i H => ∃ xs ys : List V, SqL K H a xs ∧ SqT K H b ys ∧ xs.length = i ∧ ys.length = i⟩
theorem sep_of {z TI TO i1 i2 a b : Addr} (D : ZipApart z TI TO i1 i2 a b) : ZipSep2 z TI TO i1 i2 [i1, a] [i2, b] :=
  ⟨D.TIz, D.TOz, D.TITO, D.TIi1, by simp, by simp; exact ⟨Ne.symm D.i1z, Ne.symm D.l1z⟩, by simp; exact ⟨D.TOi1, Ne.symm D.l1TO⟩, D.TIi2, by simp, by simp; exact ⟨Ne.symm D.i2z, Ne.symm D.l2z⟩, by simp; exact ⟨D.TOi2, Ne.symm D.l2TO⟩,
    by simp; exact ⟨D.i12, Ne.symm D.l2i1⟩, by simp; exact ⟨Ne.symm D.i12, Ne.symm D.l1i2⟩⟩
theorem turn_zipLT {P : Program} {w : World} {K : PySem.W.Frag} {elts : List Expr} {kk : Nat} {tpos : Pos} {a b z TI TO i1 i2 : Addr} (D : ZipApart z TI TO i1 i2 a b) :
    Turn P w K (.Tuple elts kk tpos) (ItzLT K a b) [z, TI, TO, i1, i2] z (fun i h => IsZip h z TI TO .none ∧ IsPair h TI (.ref i1) (.ref i2) ∧ (∃ x y, IsPair h TO x y) ∧ h.IsListIter i1 a i ∧ h.IsTupleIter i2 b i) where
  mem := by simp
  obj := fun i h st c hc => by
    obtain ⟨hz, hTI, ⟨x, y, hTO⟩, ⟨o1, e1, _, d1⟩, ⟨o2, e2, _, d2⟩⟩ := st
    have e' : c = z ∨ c = TI ∨ c = TO ∨ c = i1 ∨ c = i2 := by simpa using hc
    rcases e' with q | q | q | q | q
    · rw [q]; exact ⟨_, hz, fun v q => nomatch q⟩
    · rw [q]; exact ⟨_, hTI, fun v q => nomatch q⟩
    · rw [q]; exact ⟨_, hTO, fun v q => nomatch q⟩
    · rw [q]; exact ⟨o1, e1, fun v q => by rw [d1] at q; cases q⟩
    · rw [q]; exact ⟨o2, e2, fun v q => by rw [d2] at q; cases q⟩
  keep := fun i h h' st k => by
    obtain ⟨hz, hTI, ⟨x, y, hTO⟩, h1, h2⟩ := st
    exact ⟨k z (by simp) _ hz, k TI (by simp) _ hTI, ⟨x, y, k TO (by simp) _ hTO⟩, h1.at fun o q => k i1 (by simp) o q, h2.at fun o q => k i2 (by simp) o q⟩
  item := by
    intro X hP hw hK hc i pins s σ H E I hf st hg
    subst hP hw hK
    obtain ⟨hz, hTI, ⟨x0, y0, hTO⟩, h1, h2⟩ := st
    obtain ⟨xs, ys, x, y, hqx, hqy, hx, hy⟩ := hg
    obtain ⟨its, rv, p, _⟩ := I.list hqx
    obtain ⟨its2, rv2, p2, _⟩ := I.tuple hqy
    obtain ⟨u, hu, ru⟩ := rv.get hx
    obtain ⟨u2, hu2, ru2⟩ := rv2.get hy
    have hzl : z < s.heap.objs.size := Heap.lt_size hz
    have lt1 : i < its.toArray.size := by
      obtain ⟨q, _⟩ := List.getElem?_eq_some_iff.mp hu
      simpa using q
    have lt2 : i < its2.toArray.size := by
      obtain ⟨q, _⟩ := List.getElem?_eq_some_iff.mp hu2
      simpa using q
    refine wpAny_pyNext_zipD2_item (sep_of D) (Draws.list (show X.A.in1.handled = none from I.ok.hd hc) i1 a D.l1i1 its.toArray) (Draws.tuple (show X.A.in1.handled = none from I.ok.hd hc) i2 b D.l2i2 its2.toArray) hz hTI hTO ⟨h1, p.isList⟩ ⟨h2, p2⟩ lt1 lt2 fun x' y' h' tk hx' hy' z' TO' st1 st2 hT hsz hk => ?_
    have ex : x' = u := by
      have : its.toArray[i]? = some u := by simpa using hu
      rw [show its.toArray[i]? = some x' from hx'] at this
      exact Option.some.inj this
    have ey : y' = u2 := by
      have : its2.toArray[i]? = some u2 := by simpa using hu2
      rw [show its2.toArray[i]? = some y' from hy'] at this
      exact Option.some.inj this
    subst ex ey
    obtain ⟨h1', _⟩ := st1
    obtain ⟨h2', _⟩ := st2
    refine ⟨_, rfl, wpAny_letOwnedTupleGo_zip (s := { s with heap := h', toks := tk }) z' fun h'' z'' sb => ?_⟩
    have hT2 : h''.get? s.heap.objs.size = some { cls := .type "tuple", data := .seq #[x', y'] } := (sb.2 _ (Nat.ne_of_gt hzl)).trans hT
    have new : ObjOk X.prog X.w (upd H s.heap.objs.size (.tup [x, y])) h'' s.heap.objs.size (.tup [x, y]) :=
      ⟨by show 2 ≤ sizeLine; decide, [x', y'], .cons ru (.cons ru2 .nil), ⟨_, hT2, rfl, _, rfl⟩⟩
    have I1 : Inv X pins σ (upd H s.heap.objs.size (.tup [x, y])) { s with heap := h'', toks := tk } :=
      I.turnedNew (t' := tk) (ch := [z, TI, TO, i1, i2]) (fun c o hb q => (sb.2 c (fun q' => hb (by simp [q']))).trans (hk c o (fun q' => hb (by simp [q'])) (fun q' => hb (by simp [q'])) (fun q' => hb (by simp [q'])) (fun q' => hb (by simp [q'])) q)) hf (Nat.le_refl _) new
    refine ⟨.ref s.heap.objs.size, _, I1, rfl, ⟨_, x, y, rfl, I.hok.fresh (Nat.le_refl _), rfl, fun l hl => by rw [I.list_inj hl hqx]; exact hx, fun l hl => by rw [I.tuple_inj hl hqy]; exact hy⟩, ⟨z'', ?_, ⟨x', y', ?_⟩, ?_, ?_⟩, fun c hcm => ?_⟩
    · exact (sb.2 _ D.TIz).trans (hk _ _ D.TIz D.TITO D.TIi1 D.TIi2 hTI)
    · exact (sb.2 _ D.TOz).trans TO'
    · exact h1'.at fun o q => (sb.2 _ D.i1z).trans q
    · exact h2'.at fun o q => (sb.2 _ D.i2z).trans q
    · have hlt : c < s.heap.objs.size := by
        have e' : c = z ∨ c = TI ∨ c = TO ∨ c = i1 ∨ c = i2 := by simpa using hcm
        rcases e' with q | q | q | q | q
        · rw [q]; exact hzl
        · rw [q]; exact Heap.lt_size hTI
        · rw [q]; exact Heap.lt_size hTO
        · rw [q]; obtain ⟨_, e1, _⟩ := h1; exact Heap.lt_size e1
        · rw [q]; obtain ⟨_, e2, _⟩ := h2; exact Heap.lt_size e2
      rw [upd_ne (Nat.ne_of_lt hlt)]
      exact (hf c hcm).1
  done := by
    intro X hP hw hK hc i pins s σ H E I hf st hg
    subst hP hw hK
    obtain ⟨hz, hTI, ⟨x0, y0, hTO⟩, h1, h2⟩ := st
    obtain ⟨xs, ys, hqx, hqy, l1', l2'⟩ := hg
    obtain ⟨its, rv, p, _⟩ := I.list hqx
    obtain ⟨its2, rv2, p2, _⟩ := I.tuple hqy
    have l1 := rv.length
    have l2 := rv2.length
    have n1 : its.toArray.size = i := by simp; omega
    have n2 : its2.toArray.size = i := by simp; omega
    exact wpAny_pyNext_zipD2_end (i := i) (sep_of D) (Draws.list (show X.A.in1.handled = none from I.ok.hd hc) i1 a D.l1i1 its.toArray) (Draws.tuple (show X.A.in1.handled = none from I.ok.hd hc) i2 b D.l2i2 its2.toArray) hz hTI hTO ⟨h1, p.isList⟩ ⟨h2, p2⟩ (by omega) (by omega) (by omega) fun h' tk hk => ⟨rfl, I.turnedL (t' := tk) (ch := [z, TI, TO, i1, i2]) (fun c o hb q =>
      hk c o (fun q' => hb (by simp [q'])) (fun q' => hb (by simp [q'])) (fun q' => hb (by simp [q'])) (fun q' => hb (by simp [q'])) q) hf⟩
  self := fun A i s Q E st h => wpAny_pyIter_zip st.1 h
abbrev zltH1 (h : Heap) (l1 : Addr) : Heap := h.push { cls := .type "list_iterator", data := .fields #[.ref l1, .int 0 0] }
abbrev zltH2 (h : Heap) (l1 l2 : Addr) : Heap := (zltH1 h l1).push { cls := .type "tuple_iterator", data := .fields #[.ref l2, .int 0 0] }
abbrev zltH3 (h : Heap) (l1 l2 : Addr) : Heap := (zltH2 h l1 l2).push { cls := .type "tuple", data := .seq #[.ref h.objs.size, .ref (zltH1 h l1).objs.size] }
abbrev zltH4 (h : Heap) (l1 l2 : Addr) : Heap := (zltH3 h l1 l2).push { cls := .type "tuple", data := .seq #[.none, .none] }
abbrev zltH5 (h : Heap) (l1 l2 : Addr) : Heap := (zltH4 h l1 l2).push { cls := .type "zip", data := .fields #[.none, .bool false, .bool false, .ref (zltH2 h l1 l2).objs.size, .ref (zltH3 h l1 l2).objs.size] }
theorem meets_zlt_new (l1 l2 : Addr) (xs ys : Array Value) :
    Meets (Builtin.«zip.__new__» ⟨[.type "zip", .ref l1, .ref l2], []⟩) (fun _ R s => s.heap.IsList l1 xs ∧ s.heap.IsTuple l2 ys ∧
      R (.ok (.ret (.ref (zltH4 s.heap l1 l2).objs.size))) { s with heap := zltH5 s.heap l1 l2 }) :=
  .of_wp fun prog w A R s h => by
    obtain ⟨hp, g, d, tk, os⟩ := s; obtain ⟨hl1, hl2, h⟩ := h
    have hsub := sub_zip
    have hL1 : Heap.IsList (Shared.heap ⟨hp, g, d, tk, os⟩) l1 xs := hl1
    have hL2 : Heap.IsTuple (Shared.heap ⟨hp.push { cls := .type "list_iterator", data := .fields #[.ref l1, .int 0 0] }, g, d, tk, os⟩) l2 ys := Heap.IsTuple.push hl2 _
    wp_walk using wpAny_pyIter_list hL1, wpAny_pyIter_tuple hL2
    exact ⟨_, rfl, h⟩
section
variable {prog : Program} {w : World} {A : Around} {E : Value → Shared → Prop} {s : Shared}
theorem call_zlt {l1 l2 : Addr} {xs ys : Array Value} {Q : Value → Shared → Prop} (hl1 : s.heap.IsList l1 xs) (hl2 : s.heap.IsTuple l2 ys)
    (h : ∀ h', IsZip h' (s.heap.objs.size + 4) (s.heap.objs.size + 2) (s.heap.objs.size + 3) .none → IsPair h' (s.heap.objs.size + 2) (.ref s.heap.objs.size) (.ref (s.heap.objs.size + 1)) →
      IsPair h' (s.heap.objs.size + 3) .none .none → h'.IsListIter s.heap.objs.size l1 0 → h'.IsTupleIter (s.heap.objs.size + 1) l2 0 → h'.objs.size = s.heap.objs.size + 5 →
      (∀ c o, s.heap.get? c = some o → h'.get? c = some o) → Q (.ref (s.heap.objs.size + 4)) { s with heap := h' }) :
    wpAny (model prog w) A (call (.type "zip") [.ref l1, .ref l2]) Q E s := by
  refine callType_new F.called_zip (by decide) (F.typeCall_zip_2 _ _) (F.newCall_zip_2 _ _) (fun obj => F.args_object_init_3 obj _ _) F.entry_zip_new
    (meets_zlt_new l1 l2 xs ys) ⟨hl1, hl2, ?_⟩
  have z1 : (zltH1 s.heap l1).objs.size = s.heap.objs.size + 1 := Heap.size_push ..
  have z2 : (zltH2 s.heap l1 l2).objs.size = s.heap.objs.size + 2 := by rw [Heap.size_push, z1]
  have z3 : (zltH3 s.heap l1 l2).objs.size = s.heap.objs.size + 3 := by rw [Heap.size_push, z2]
  have z4 : (zltH4 s.heap l1 l2).objs.size = s.heap.objs.size + 4 := by rw [Heap.size_push, z3]
  have z5 : (zltH5 s.heap l1 l2).objs.size = s.heap.objs.size + 5 := by rw [Heap.size_push, z4]
  have g5 : (zltH5 s.heap l1 l2).get? (zltH4 s.heap l1 l2).objs.size = some _ := Heap.get?_push_size _ rfl
  have g4 : (zltH5 s.heap l1 l2).get? (zltH3 s.heap l1 l2).objs.size = some _ := Heap.get?_push_of_some _ (Heap.get?_push_size _ rfl)
  have g3 : (zltH5 s.heap l1 l2).get? (zltH2 s.heap l1 l2).objs.size = some _ := Heap.get?_push_of_some _ (Heap.get?_push_of_some _ (Heap.get?_push_size _ rfl))
  have g2 : (zltH5 s.heap l1 l2).get? (zltH1 s.heap l1).objs.size = some _ := Heap.get?_push_of_some _ (Heap.get?_push_of_some _ (Heap.get?_push_of_some _ (Heap.get?_push_size _ rfl)))
  have g1 : (zltH5 s.heap l1 l2).get? s.heap.objs.size = some _ := Heap.get?_push_of_some _ (Heap.get?_push_of_some _ (Heap.get?_push_of_some _ (Heap.get?_push_of_some _ (Heap.get?_push_size _ rfl))))
  show _ ∧ _
  rw [z2, z3, z4] at g5
  rw [z1, z2] at g3
  rw [z3] at g4
  rw [z1] at g2
  rw [z4]
  exact ⟨⟨_, g5, rfl⟩, h _ g5 g3 g4 ⟨_, g1, rfl, rfl⟩ ⟨_, g2, rfl, rfl⟩ z5 fun c o x =>
    Heap.get?_push_of_some _ (Heap.get?_push_of_some _ (Heap.get?_push_of_some _ (Heap.get?_push_of_some _ (Heap.get?_push_of_some _ x))))⟩
end
def iZipLT (K : PySem.W.Frag) (ta : TA) : TI := fun σ H R => ta σ H fun vs H1 => ∃ a b xs ys, vs = [.ref a, .ref b] ∧ SqL K H1 a xs ∧ SqT K H1 b ys ∧ R (ItzLT K a b) H1
theorem pi_zipLT {X : Cx} {e e2 : Expr} {ta : TA} {p pos tpos : Pos} {elts : List Expr} {kk : Nat} (hg : Gl X "zip") (hm : X.mg "zip" = none) (ha : PA X [e, e2] ta)
    (hs : starEach [e, e2] X.env = (false, eval e X.env) :: starEach [e2] X.env := by rfl) (hpl : (backTo pos (starEach [e2] X.env)).any (·.1) = false := by rfl) :
    PI X (.Tuple elts kk tpos) (.Call (.Name "zip" p) [e, e2] [] pos) (iZipLT X.K ta) := by
  refine ⟨fun pins s σ H R I h => ?_⟩
  refine Call_ (ld_blt I hg hm PyProof.Rows.boot_zip (PyProof.Rows.callWith_type1 (thn (ha.run pos pins s σ H _ I h) fun us s1 ⟨vs, H1, I1, r1, q1⟩ => ?_) hs hpl))
  obtain ⟨a, b, xs, ys, ex, hqx, hqy, q⟩ := q1
  subst ex
  cases r1 with
  | cons r rr =>
    cases rr with
    | cons r' rr =>
      cases rr
      cases r
      cases r'
      obtain ⟨its, rv, p1, _⟩ := I1.list hqx
      obtain ⟨its2, rv2, p2, _⟩ := I1.tuple hqy
      have la : a < s1.heap.objs.size := p1.lt
      have lb : b < s1.heap.objs.size := p2.lt
      refine call_zlt p1.isList p2 fun h' hz hTI hTO h1 h2 hsz hk => wpAny_pyIter_zip hz ?_
      have I2 : Inv X pins σ H1 { s1 with heap := h' } := I1.kept (t' := s1.toks) hk
      refine ⟨s1.heap.objs.size + 4, [s1.heap.objs.size + 4, s1.heap.objs.size + 2, s1.heap.objs.size + 3, s1.heap.objs.size, s1.heap.objs.size + 1], _, _, H1, rfl, I2, turn_zipLT (PySem.W.ktu_apart s1.heap.objs.size a b la lb), ⟨hz, hTI, ⟨_, _, hTO⟩, h1, h2⟩, fun c hcm => ?_, q⟩
      have e' : c = s1.heap.objs.size + 4 ∨ c = s1.heap.objs.size + 2 ∨ c = s1.heap.objs.size + 3 ∨ c = s1.heap.objs.size ∨ c = s1.heap.objs.size + 1 := by simpa using hcm
      have hle : s1.heap.objs.size ≤ c := by
        rcases e' with z | z | z | z | z
        · rw [z]; exact Nat.le_add_right _ _
        · rw [z]; exact Nat.le_add_right _ _
        · rw [z]; exact Nat.le_add_right _ _
        · rw [z]; exact Nat.le_refl _
        · rw [z]; exact Nat.le_add_right _ _
      exact I1.fpOk hle (I1.hok.fresh hle)
theorem walk_zipLT {K : PySem.W.Frag} {a b : Addr} {xs ys : List V} (h : xs.length = ys.length) : Walk (ItzLT K a b) xs.length (fun H => SqL K H a xs ∧ SqT K H b ys) (YPair (fun i => xs[i]?) (fun i => ys[i]?)) := by
  refine ⟨fun i _ hi q => ⟨xs, ys, xs[i], ys[i], q.1, q.2, by simp [hi], by simp [h ▸ hi]⟩, fun _ q => ⟨xs, ys, q.1, q.2, rfl, h.symm⟩, fun i H v H' _ q y => ?_⟩
  obtain ⟨T, x, y, h1, h2, h3, h4, h5⟩ := y
  exact ⟨T, x, y, h1, h2, h3, h4 xs q.1, h5 ys q.2⟩
theorem walk_zipTT {K : PySem.W.Frag} {a b : Addr} {xs ys : List V} (h : xs.length = ys.length) : Walk (RZ.ItzT K a b) xs.length (fun H => SqT K H a xs ∧ SqT K H b ys) (YPair (fun i => xs[i]?) (fun i => ys[i]?)) := by
  refine ⟨fun i _ hi q => ⟨xs, ys, xs[i], ys[i], q.1, q.2, by simp [hi], by simp [h ▸ hi]⟩, fun _ q => ⟨xs, ys, q.1, q.2, .inl (Nat.le_refl _)⟩, fun i H v H' _ q y => ?_⟩
  obtain ⟨T, x, y, h1, h2, h3, h4, h5⟩ := y
  exact ⟨T, x, y, h1, h2, h3, h4 xs q.1, h5 ys q.2⟩
section
variable {j : J} {S : List Sl} {mg : Str → Option Value} {elts : List Expr} {kk : Nat} {p pos tpos : Pos} {a b : Expr} {xs ys : List Da}
theorem di_enumT (hr : FreeN mg "enumerate") (h : DE j S a (.tup xs)) (hg2 : Gl j.X "enumerate" := by rfl) (em : j.X.mg = mg := by rfl) (hs : starEach [a] j.X.env = [(false, eval a j.X.env)] := by rfl) :
    DI j S (.Tuple elts kk tpos) (.Call (.Name "enumerate" p) [a] [] pos) (enumD xs) := fun σ F H rp R k => by
  subst em
  refine wp_pi (pi_enumT hg2 hr.m (pa_cons pe_wp pa_nil hs) hs) (h σ F H rp _ fun v F1 H1 s1 ⟨q, vs, e1, e2, a1⟩ => ⟨q, vs, by rw [e1], .of (s1.e _ _ e2), k _ F1 H1 s1 ?_⟩)
  exact yd_pair walk_enumT (by rw [rgD_length, a1.length]) a1.length.symm (fun F H f1 f2 => .of (f2 _ _ (f1 _ _ e2))) (fun i v d q1 q2 F _ => by
    cases q1
    obtain ⟨_, rfl⟩ := rgD_get q2
    show V.int _ = V.int _
    rw [Int.zero_add]) (ats_at a1)
theorem di_enumL (hr : FreeN mg "enumerate") (h : DE j S a (.lst xs)) (hg2 : Gl j.X "enumerate" := by rfl) (em : j.X.mg = mg := by rfl) (hs : starEach [a] j.X.env = [(false, eval a j.X.env)] := by rfl) :
    DI j S (.Tuple elts kk tpos) (.Call (.Name "enumerate" p) [a] [] pos) (enumD xs) := fun σ F H rp R k => by
  subst em
  refine wp_pi (pi_enum hg2 hr.m (pa_cons pe_wp pa_nil hs) hs) (h σ F H rp _ fun v F1 H1 s1 ⟨q, vs, e1, e2, a1⟩ => ⟨q, vs, by rw [e1], .of (s1.e _ _ e2), k _ F1 H1 s1 ?_⟩)
  exact yd_pair walk_enum (by rw [rgD_length, a1.length]) a1.length.symm (fun F H f1 f2 => .of (f2 _ _ (f1 _ _ e2))) (fun i v d q1 q2 F _ => by
    cases q1
    obtain ⟨_, rfl⟩ := rgD_get q2
    show V.int _ = V.int _
    rw [Int.zero_add]) (ats_at a1)
theorem di_zipT (hr : FreeN mg "zip") (h : DE j S a (.tup xs)) (h' : DE j S b (.tup ys)) (hl : xs.length = ys.length) (hg2 : Gl j.X "zip" := by rfl) (em : j.X.mg = mg := by rfl)
    (hs : starEach [a, b] j.X.env = (false, eval a j.X.env) :: starEach [b] j.X.env := by rfl) (hs2 : starEach [b] j.X.env = (false, eval b j.X.env) :: starEach [] j.X.env := by rfl) (hpl : (backTo pos (starEach [b] j.X.env)).any (·.1) = false := by rfl) :
    DI j S (.Tuple elts kk tpos) (.Call (.Name "zip" p) [a, b] [] pos) (zipD xs ys) := fun σ F H rp R k => by
  subst em
  refine wp_pi (RZ.pi_zipA hg2 hr.m (pa_cons pe_wp (pa_cons pe_wp pa_nil hs2) hs) hs hpl) (h σ F H rp _ fun v F1 H1 s1 ⟨q, vs, e1, e2, a1⟩ => h' σ F1 H1 (rp.step s1) _ fun u F2 H2 s2 ⟨q', ws, e3, e4, a2⟩ =>
    ⟨q, q', vs, ws, by rw [e1, e3], .inr ⟨.of (s2.e _ _ (s2.f _ _ e2)), .of (s2.e _ _ e4), k _ F2 H2 (s1.trans s2) ?_⟩⟩)
  have l1 := a1.length
  have l2 := a2.length
  exact yd_pair (walk_zipTT (by omega)) l1.symm (by omega) (fun F H f1 f2 => ⟨.of (f2 _ _ (f1 _ _ (s2.f _ _ e2))), .of (f2 _ _ (f1 _ _ e4))⟩) (ats_at (Ats.mono s2.f _ _ a1)) (ats_at a2)
theorem di_zipLT (hr : FreeN mg "zip") (h : DE j S a (.lst xs)) (h' : DE j S b (.tup ys)) (hl : xs.length = ys.length) (hg2 : Gl j.X "zip" := by rfl) (em : j.X.mg = mg := by rfl)
    (hs : starEach [a, b] j.X.env = (false, eval a j.X.env) :: starEach [b] j.X.env := by rfl) (hs2 : starEach [b] j.X.env = (false, eval b j.X.env) :: starEach [] j.X.env := by rfl) (hpl : (backTo pos (starEach [b] j.X.env)).any (·.1) = false := by rfl) :
    DI j S (.Tuple elts kk tpos) (.Call (.Name "zip" p) [a, b] [] pos) (zipD xs ys) := fun σ F H rp R k => by
  subst em
  refine wp_pi (pi_zipLT hg2 hr.m (pa_cons pe_wp (pa_cons pe_wp pa_nil hs2) hs) hs hpl) (h σ F H rp _ fun v F1 H1 s1 ⟨q, vs, e1, e2, a1⟩ => h' σ F1 H1 (rp.step s1) _ fun u F2 H2 s2 ⟨q', ws, e3, e4, a2⟩ =>
    ⟨q, q', vs, ws, by rw [e1, e3], .of (s2.e _ _ (s2.f _ _ e2)), .of (s2.e _ _ e4), k _ F2 H2 (s1.trans s2) ?_⟩)
  have l1 := a1.length
  have l2 := a2.length
  exact yd_pair (walk_zipLT (by omega)) l1.symm (by omega) (fun F H f1 f2 => ⟨.of (f2 _ _ (f1 _ _ (s2.f _ _ e2))), .of (f2 _ _ (f1 _ _ e4))⟩) (ats_at (Ats.mono s2.f _ _ a1)) (ats_at a2)
end
end DL
/-! DLK3: an __init__ whose last field is a list that grows in a loop. -/
namespace DL
open PySem PySem.Spec PyProof.Rows L2
theorem lookup_zip_last {f : Str} {v : V} : ∀ {ns : List Str} {vs : List V}, f ∉ ns → ns.length = vs.length → ((ns ++ [f]).zip (vs ++ [v])).lookup f = some v
  | [], [], _, _ => by simp
  | [], _ :: _, _, h => by cases h
  | _ :: _, [], _, h => by cases h
  | n :: ns, w :: vs, hf, hl => by
    rw [List.cons_append, List.cons_append, List.zip_cons_cons, List.lookup_cons, show (f == n) = false from beq_eq_false_iff_ne.mpr fun e => hf (e ▸ List.mem_cons_self)]
    exact lookup_zip_last (fun h => hf (List.mem_cons_of_mem _ h)) (Nat.succ.inj hl)
theorem lookup_zip_app {f g : Str} {u v : V} : ∀ {ns : List Str} {vs : List V}, (ns.zip vs).lookup f = some v → ns.length = vs.length → ((ns ++ [g]).zip (vs ++ [u])).lookup f = some v
  | [], _, h, _ => by simp at h
  | n :: ns, [], h, _ => by simp at h
  | n :: ns, w :: vs, h, hl => by
    rw [List.zip_cons_cons, List.lookup_cons] at h
    rw [List.cons_append, List.cons_append, List.zip_cons_cons, List.lookup_cons]
    cases q : f == n with
    | true => rw [q] at h; exact h
    | false => rw [q] at h; exact lookup_zip_app h (Nat.succ.inj hl)
section
variable {j : J} {S : List Sl} {σ : L2.St} {F H F' H' : Hp}
/-- an object that no slot holds for itself is changed -/
theorem Rp.pokeL {l : Addr} {o : HO} (r : Rp j S σ F H) (hf : F l = none) (h0 : j.H0 l = none) (hS : S.all notOw = true) : Rp j S σ F (upd H l o) := by
  refine ⟨⟨fun a u q => ?_, r.f0, fun a u q => ?_, r.new⟩, r.len, fun k s' o' q1 q2 => ?_, r.ap⟩
  · rw [upd_ne (ne_of_none q hf)]
    exact r.ext _ _ q
  · rw [upd_ne (ne_of_none q h0)]
    exact r.h0 _ _ q
  · have g := r.sl k s' o' q1 q2
    have hn := List.all_eq_true.mp hS _ (List.mem_of_getElem? q1)
    cases s' with
    | un => trivial
    | da d => exact g
    | ow es => cases hn
    | owd es => cases hn
/-- .. stands still from here on -/
theorem Rp.grow {l : Addr} {o : HO} (r : Rp j S σ F H) (h1 : H l = some o) (hf : F l = none) (h0 : j.H0 l = none) (hS : S.all notOw = true) : Rp j S σ (upd F l o) H := by
  have sF : Same F (upd F l o) := fun a u q => by
    rw [upd_ne (ne_of_none q hf)]
    exact q
  refine ⟨⟨fun a u q => ?_, r.f0.trans sF, r.h0, fun a u q => ?_⟩, r.len, fun k s' o' q1 q2 => ?_, r.ap⟩
  · by_cases z : a = l
    · subst z
      rw [upd_same] at q
      cases q
      exact h1
    · rw [upd_ne z] at q
      exact r.ext _ _ q
  · by_cases z : a = l
    · subst z
      exact .inr h0
    · rw [upd_ne z] at q
      exact r.new _ _ q
  · have g := r.sl k s' o' q1 q2
    have hn := List.all_eq_true.mp hS _ (List.mem_of_getElem? q1)
    cases s' with
    | un => trivial
    | da d =>
      obtain ⟨v, e1, g⟩ := g
      exact ⟨v, e1, At.mono sF d v g⟩
    | ow es => cases hn
    | owd es => cases hn
theorem yd_revT {K : PySem.W.Frag} {a : Addr} {ds : List Da} {vs : List V} {F1 : Hp} (e2 : F1 a = some (.tup vs)) (a1 : Ats K F1 ds vs) : Yd K (RT.ItvT K a vs.length) F1 ds.reverse := by
  refine ⟨fun H => SqT K H a vs, fun i H x H' => H' = H ∧ vs[vs.length - 1 - i]? = some x, ?_, fun F H e1 e3 => .of (e3 _ _ (e1 _ _ e2)), fun i F H x H3 hi f1 f2 y => ?_⟩
  · rw [List.length_reverse, ← a1.length]
    exact ⟨fun i H hi q => ⟨hi, vs, vs[vs.length - 1 - i], q, List.getElem?_eq_getElem _⟩, fun H q => Nat.le_refl _, fun i H x H' hi q y => ⟨y.1, y.2 vs q⟩⟩
  · obtain ⟨rfl, hx⟩ := y
    rw [List.length_reverse] at hi
    obtain ⟨d, hd, ad⟩ := a1.get' hx
    refine ⟨d, F, ?_, .refl f2, At.mono f1 _ _ ad⟩
    rw [List.getElem?_reverse hi]
    rw [a1.length] at hd
    exact hd
/-- an instance in the making, its last field a list of its own -/
structure Ig (j : J) (S : List Sl) (σ : L2.St) (F H : Hp) (p dx C l : Addr) (ns : List Str) (ds : List Da) (f : Str) (ts : List Da) : Prop extends Rp j S σ F H where
  s0 : σ[0]? = some (some (.ref p))
  at_ : ∃ vs, H p = some (.ins C dx ((ns ++ [f]).zip (vs ++ [.ref l]))) ∧ Ats j.X.K F ds vs
  li : ∃ ws, H l = some (.lst ws) ∧ Ats j.X.K F ts ws
  fp : F p = none
  hp : j.H0 p = none
  fl : F l = none
  hl : j.H0 l = none
  nl : ns.length = ds.length
  no : f ∉ ns
variable {p dx C l : Addr} {ns : List Str} {ds ts : List Da} {f : Str}
theorem Ig.step (i : Ig j S σ F H p dx C l ns ds f ts) (s : Stp F H F' H') : Ig j S σ F' H' p dx C l ns ds f ts := by
  obtain ⟨vs, h1, h2⟩ := i.at_
  obtain ⟨ws, h3, h4⟩ := i.li
  refine ⟨i.toRp.step s, i.s0, ⟨vs, s.h _ _ h1, Ats.mono s.f _ _ h2⟩, ⟨ws, s.h _ _ h3, Ats.mono s.f _ _ h4⟩, ?_, i.hp, ?_, i.hl, i.nl, i.no⟩
  · cases z : F' p with
    | none => rfl
    | some o =>
      rcases s.new p o z with q | q
      · rw [i.fp] at q; cases q
      · rw [h1] at q; cases q
  · cases z : F' l with
    | none => rfl
    | some o =>
      rcases s.new l o z with q | q
      · rw [i.fl] at q; cases q
      · rw [h3] at q; cases q
/-- the slots change -/
theorem Ig.slots {S' : List Sl} {σ' : L2.St} (i : Ig j S σ F H p dx C l ns ds f ts) (r : Rp j S' σ' F H) (h0 : σ'[0]? = σ[0]?) : Ig j S' σ' F H p dx C l ns ds f ts :=
  ⟨r, h0.trans i.s0, i.at_, i.li, i.fp, i.hp, i.fl, i.hl, i.nl, i.no⟩
/-- the end: the list stands still -/
theorem Ig.done (i : Ig j S σ F H p dx C l ns ds f ts) (hS : S.all notOw = true) : ∃ F', Same F F' ∧ Ip j S σ F' H p dx C (ns ++ [f]) (ds ++ [.lst ts]) := by
  obtain ⟨vs, h1, h2⟩ := i.at_
  obtain ⟨ws, h3, h4⟩ := i.li
  have sF : Same F (upd F l (.lst ws)) := fun a u q => by
    rw [upd_ne (ne_of_none q i.fl)]
    exact q
  have hpl : p ≠ l := fun z => by
    subst z
    rw [h1] at h3
    cases h3
  refine ⟨upd F l (.lst ws), sF, i.toRp.grow h3 i.fl i.hl hS, i.s0, ⟨vs ++ [.ref l], h1, (Ats.mono sF _ _ h2).append (Ats.one ⟨l, ws, rfl, upd_same, Ats.mono sF _ _ h4⟩)⟩, ?_, i.hp, by rw [List.length_append, List.length_append, i.nl]; rfl⟩
  rw [upd_ne hpl]
  exact i.fp
/-- self.g, a field of before -/
theorem Ig.read {x g : Str} {m : Nat} {d : Da} {np ap : Pos} (i : Ig j S σ F H p dx C l ns ds f ts) (n0 : NM j.X x 0) (cl : Cls j.X.K C) (na : NoAttr j.X.K C g) (hi : ns.idxOf g = m) (hg : ns[m]? = some g) (hd : ds[m]? = some d) {QQ : VK} (k : ∀ v, At j.X.K F d v → QQ v H)
    (hb : attributeBase (.Name x np) g j.X.env (eval (.Name x np) j.X.env) = eval (.Name x np) j.X.env := by rfl) : wpE j.X (.Attribute (.Name x np) g ap) σ H QQ := by
  obtain ⟨vs, h1, h2⟩ := i.at_
  obtain ⟨v, hv, av⟩ := h2.get hd
  have hl : ns.length = vs.length := by rw [h2.length, i.nl]
  exact wp_pe (pe_fld (pe_var n0.N n0.v n0.d n0.c) hb) ⟨.ref p, i.s0, p, C, dx, _, v, rfl, h1, cl, na, lookup_zip_app (lookup_zip hi hg hv) hl, k v av⟩
end
section
variable {j : J} {S : List Sl} {p dx C : Addr} {ns : List Str} {ds : List Da} {rest : List Stmt} {pos : Pos}
/-- self.f = [[1]] -/
theorem ps_grow {σ : L2.St} {F H : Hp} {x f : Str} {n : Int} {k1 : Nat} {np ap p1 p2 p3 : Pos} {E : Ends} (ip : Ip j S σ F H p dx C ns ds) (n0 : NM j.X x 0) (cl : Cls j.X.K C) (no : NoAttr j.X.K C f) (hf : f ∉ ns) (hz : ns.length < 1000) (hS : S.all notOw = true)
    (k : ∀ (l : Addr) (F' H' : Hp), Ig j S σ F' H' p dx C l ns ds f [.lst [.int n]] → Same F F' → E.nx σ H')
    (hs : swapsWith (.List [.List [.Constant (.int n) k1 p1] p2] p3) (some (.Attribute (.Name x np) f ap)) pos.line j.X.env = pure false := by rfl)
    (h1 : starEach [.List [.Constant (.int n) k1 p1] p2] j.X.env = (false, eval (.List [.Constant (.int n) k1 p1] p2) j.X.env) :: starEach [] j.X.env := by rfl) (h2 : starEach [.Constant (.int n) k1 p1] j.X.env = (false, eval (.Constant (.int n) k1 p1) j.X.env) :: starEach [] j.X.env := by rfl) :
    wpS j.X (.Assign [.Attribute (.Name x np) f ap] (.List [.List [.Constant (.int n) k1 p1] p2] p3) pos) E σ H := by
  refine wp_ps (ps_fld (pe_var n0.N n0.v n0.d n0.c) (pe_lst (pa_cons (pe_lst (pa_cons pe_int pa_nil h2)) pa_nil h1)) hs) ⟨by show 1 ≤ sizeLine; decide, fun q hq => ⟨by show 1 ≤ sizeLine; decide, fun l hl => ?_⟩⟩
  have s1 := Stp.alloc ip.ext hq (.lst [V.int n])
  have ip1 := ip.step s1
  obtain ⟨vs, e1, e2⟩ := ip1.at_
  have hn : ns.length = vs.length := by rw [e2.length, ip.nl]
  have hFl : upd F q (.lst [V.int n]) l = none := s1.e.free hl
  have hH0 : j.H0 l = none := ip1.h0.free hl
  have hpl : p ≠ l := ne_of_none e1 hl
  have e1' : upd (upd H q (.lst [V.int n])) l (.lst [V.ref q]) p = some (.ins C dx (ns.zip vs)) := by
    rw [upd_ne hpl]
    exact e1
  refine ⟨.ref p, ip.s0, p, C, dx, _, rfl, e1', cl, no, by rw [List.length_zip]; omega, ?_⟩
  rw [putF_zip hf hn]
  refine k l (upd F q (.lst [V.int n])) _ ⟨(ip1.toRp.pokeL hFl hH0 hS).poke e1' ip1.fp ip1.hp, ip.s0, ⟨vs, upd_same, e2⟩, ⟨[.ref q], ?_, Ats.one ⟨q, [V.int n], rfl, upd_same, Ats.one rfl⟩⟩, ip1.fp, ip1.hp, hFl, hH0, ip.nl, hf⟩ s1.f
  rw [upd_ne (Ne.symm hpl), upd_same]
variable {P : Program} {w : World} {K : PySem.W.Frag} {mg : Str → Option Value} {base : Heap}
/-- self.f.append(y(self.f[-1], e)) -/
theorem ps_growA {σ : L2.St} {F H : Hp} {x f y : Str} {k n : Nat} {G : List Da → Da → Prop} {e : Expr} {t dc d : Da} {ts : List Da} {l : Addr} {E : Ends} {np ap bp cp yp np2 ap2 sp yp2 q1 q2 : Pos} {k1 : Nat}
    (i : Ig j S σ F H p dx C l ns ds f ts) (h : Fn0 P w K mg base k y G) (hr : Room n j.X.A) (hk : k ≤ n) (n0 : NM j.X x 0) (cl : Cls j.X.K C) (no : NoAttr j.X.K C f) (hS : S.all notOw = true) (he : DE j S e dc) (ht : atI ts (-1) = some t) (g : G [t, dc] d) (hz : ts.length < 1000000)
    (kk : ∀ (F' H' : Hp), Ig j S σ F' H' p dx C l ns ds f (ts ++ [d]) → Same F F' → E.nx σ H') (on : On j.X P w K mg base := by exact ⟨rfl, rfl, rfl, rfl, rfl⟩) (hg : Gl j.X y := by rfl)
    (hb : attributeBase (.Name x np) f j.X.env (eval (.Name x np) j.X.env) = eval (.Name x np) j.X.env := by rfl) (hb2 : attributeBase (.Name x np2) f j.X.env (eval (.Name x np2) j.X.env) = eval (.Name x np2) j.X.env := by rfl)
    (h1 : starEach [.Subscript (.Attribute (.Name x np2) f ap2) (.UnaryOp .USub (.Constant (.int 1) k1 q1) q2) sp, e] j.X.env = (false, eval (.Subscript (.Attribute (.Name x np2) f ap2) (.UnaryOp .USub (.Constant (.int 1) k1 q1) q2) sp) j.X.env) :: starEach [e] j.X.env := by rfl)
    (h2 : starEach [e] j.X.env = (false, eval e j.X.env) :: starEach [] j.X.env := by rfl) (hpl : (backTo yp2 (starEach [e] j.X.env)).any (·.1) = false := by rfl)
    (hsw : swapsWith (.Call (.Attribute (.Attribute (.Name x np) f ap) "append" bp) [.Call (.Name y yp) [.Subscript (.Attribute (.Name x np2) f ap2) (.UnaryOp .USub (.Constant (.int 1) k1 q1) q2) sp, e] [] yp2] [] cp) none pos.line j.X.env = pure false := by rfl)
    (hbase : attributeBase (.Attribute (.Name x np) f ap) "append" j.X.env (eval (.Attribute (.Name x np) f ap) j.X.env) = eval (.Attribute (.Name x np) f ap) j.X.env := by rfl)
    (hfew : ((backTo cp (starEach [.Call (.Name y yp) [.Subscript (.Attribute (.Name x np2) f ap2) (.UnaryOp .USub (.Constant (.int 1) k1 q1) q2) sp, e] [] yp2] j.X.env)).all (fun x => !x.1) && (backToKw cp (keywordEach [] j.X.env)).all (fun x => x.1.isSome)
      && decide ([Expr.Call (.Name y yp) [.Subscript (.Attribute (.Name x np2) f ap2) (.UnaryOp .USub (.Constant (.int 1) k1 q1) q2) sp, e] [] yp2].length + ([] : List Keyword).length + (if ([] : List Keyword).isEmpty then 0 else 1) < 30)) = true := by rfl)
    (hline : (bp.endLine == cp.line) = true := by rfl)
    (hst : starEach [.Call (.Name y yp) [.Subscript (.Attribute (.Name x np2) f ap2) (.UnaryOp .USub (.Constant (.int 1) k1 q1) q2) sp, e] [] yp2] j.X.env = (false, eval (.Call (.Name y yp) [.Subscript (.Attribute (.Name x np2) f ap2) (.UnaryOp .USub (.Constant (.int 1) k1 q1) q2) sp, e] [] yp2) j.X.env) :: starEach [] j.X.env := by rfl)
    (hplain : (backTo cp (starEach [] j.X.env)).any (·.1) = false := by rfl) :
    wpS j.X (.Expr (.Call (.Attribute (.Attribute (.Name x np) f ap) "append" bp) [.Call (.Name y yp) [.Subscript (.Attribute (.Name x np2) f ap2) (.UnaryOp .USub (.Constant (.int 1) k1 q1) q2) sp, e] [] yp2] [] cp) pos) E σ H := by
  obtain ⟨rfl, rfl, rfl, rfl, rfl⟩ := on
  obtain ⟨fa, fd, ps, ok, hm, hkp, hbi⟩ := h.ex
  obtain ⟨vs, e1, e2⟩ := i.at_
  obtain ⟨ws, e3, e4⟩ := i.li
  have hn : ns.length = vs.length := by rw [e2.length, i.nl]
  have look := lookup_zip_last (v := V.ref l) i.no hn
  obtain ⟨wt, hw, aw⟩ := atI_ats e4 ht
  refine wp_ps (ps_expr (pe_bm PySem.F.plainAttrs_list PySem.F.slot_list_append PySem.F.type_list_append mt_append (pe_fld (pe_var n0.N n0.v n0.d n0.c) hb) (pa_cons pe_wp pa_nil hst) hbase hfew hline hst hplain) hsw) ?_
  refine ⟨.ref p, i.s0, p, C, dx, _, .ref l, rfl, e1, cl, no, look, .inl ⟨rfl, _, .of e3⟩, ?_⟩
  refine wp_pe (pe_call ok (hr.mono hk) hg hm hkp hbi .nil pass0 (pa_cons (pe_ix ix_list (pe_fld (pe_var n0.N n0.v n0.d n0.c) hb2) (pe_un un_neg pe_int) (fun _ _ => rfl)) (pa_cons pe_wp pa_nil h2) h1) h.db h1 hpl) ?_
  refine ⟨.ref p, i.s0, p, C, dx, _, .ref l, rfl, e1, cl, no, look, 1, rfl, l, ws, -1, wt, rfl, rfl, .of e3, hw, ?_⟩
  refine he σ F H i.toRp _ fun v F1 H1 s1 a1 => ?_
  show sp0 j.X.K G [wt, v] H1 (fun x H1 => rAppend (V.ref l) [x] H1 fun x H1 => E.nx σ H1) E0
  refine ⟨F1, [t, dc], d, s1.e, ⟨wt, [v], rfl, At.mono s1.f _ _ aw, Ats.one a1⟩, g, fun u F2 H2 s2 a2 => ?_⟩
  have st := s1.trans s2
  have i2 := i.step st
  have hlen := e4.length
  have hpl2 : p ≠ l := fun z => by
    subst z
    rw [e1] at e3
    cases e3
  refine ⟨l, ws, u, rfl, rfl, st.h _ _ e3, by rw [hlen]; exact sz_lt hz, ?_⟩
  refine kk F2 (upd H2 l (.lst (ws ++ [u]))) ⟨i2.toRp.pokeL i2.fl i2.hl hS, i2.s0, ⟨vs, ?_, Ats.mono st.f _ _ e2⟩, ⟨ws ++ [u], upd_same, (Ats.mono st.f _ _ e4).append (Ats.one a2)⟩, i2.fp, i2.hp, i2.fl, i2.hl, i2.nl, i2.no⟩ st.f
  rw [upd_ne hpl2]
  exact st.h _ _ e1
end
end DL
/-! DLB: a list of one's own is lent to a call; new lists come of calls; objects told in part; constructors that refuse. -/
namespace DL
open PySem PySem.Spec PyProof.Rows L2
mutual
/-- no list hangs on it -/
def Lf : Da → Bool
  | .non => true
  | .bl _ => true
  | .int _ => true
  | .str _ => true
  | .tup ds => Lfs ds
  | .obw _ _ ds => Lfs ds
  | .fn _ => true
  | .ty _ => true
  | _ => false
def Lfs : List Da → Bool
  | [] => true
  | d :: ds => Lf d && Lfs ds
end
def cutH (l : Addr) (F : Hp) : Hp := fun a => if a = l then none else F a
theorem cutH_ne {l a : Addr} {F : Hp} (h : a ≠ l) : cutH l F a = F a := if_neg h
theorem cutH_same {l : Addr} {F : Hp} : cutH l F l = none := if_pos rfl
mutual
theorem At.cut {K : PySem.W.Frag} {F : Hp} {l : Addr} {ws : List V} (hl : F l = some (.lst ws)) : ∀ (d : Da) (v : V), Lf d = true → At K F d v → At K (cutH l F) d v
  | .non, _, _, h => h
  | .bl _, _, _, h => h
  | .int _, _, _, h => h
  | .str _, _, _, h => h
  | .tup ds, _, c, ⟨a, vs, h1, h2, h3⟩ => ⟨a, vs, h1, by rw [cutH_ne (fun z => by subst z; rw [hl] at h2; cases h2)]; exact h2, Ats.cut hl ds vs c h3⟩
  | .obw _ _ ds, _, c, ⟨a, dx, fs, vs, h1, h2, h5, h4, h3⟩ => ⟨a, dx, fs, vs, h1, by rw [cutH_ne (fun z => by subst z; rw [hl] at h2; cases h2)]; exact h2, h5, h4, Ats.cut hl ds vs c h3⟩
  | .fn _, _, _, h => h
  | .ty _, _, _, h => h
  | .lst _, _, c, _ => by cases c
  | .ob _ _ _, _, c, _ => by cases c
  | .exc _, _, c, _ => by cases c
  | .dic, _, c, _ => by cases c
  | .scr _, _, c, _ => by cases c
theorem Ats.cut {K : PySem.W.Frag} {F : Hp} {l : Addr} {ws : List V} (hl : F l = some (.lst ws)) : ∀ (ds : List Da) (vs : List V), Lfs ds = true → Ats K F ds vs → Ats K (cutH l F) ds vs
  | [], _, _, h => h
  | d :: ds, _, c, ⟨v, r, h1, h2, h3⟩ => ⟨v, r, h1, At.cut hl d v (Bool.and_eq_true_iff.mp c).1 h2, Ats.cut hl ds r (Bool.and_eq_true_iff.mp c).2 h3⟩
end
theorem lfs_all : ∀ {ds : List Da}, (∀ d ∈ ds, Lf d = true) → Lfs ds = true
  | [], _ => rfl
  | d :: ds, h => by
    show (Lf d && Lfs ds) = true
    rw [h d List.mem_cons_self, lfs_all fun x hx => h x (List.mem_cons_of_mem _ hx)]
    rfl
section
variable {j : J} {S : List Sl} {D : DEnds} {pos : Pos}
theorem lent {σ : L2.St} {F H F' H' : Hp} {l : Addr} {vs : List V} (hF : F l = none) (st : Stp (upd F l (.lst vs)) H F' H') : Stp F H (cutH l F') H' ∧ F' l = some (.lst vs) := by
  have hl : F' l = some (.lst vs) := st.f _ _ upd_same
  refine ⟨⟨fun b o q => ?_, fun b o q => ?_, st.h, fun b o q => ?_⟩, hl⟩
  · have nb : b ≠ l := ne_of_none q hF
    rw [cutH_ne nb]
    exact st.f b o (by rw [upd_ne nb]; exact q)
  · by_cases z : b = l
    · subst z; rw [cutH_same] at q; cases q
    · rw [cutH_ne z] at q
      exact st.e b o q
  · by_cases z : b = l
    · subst z; rw [cutH_same] at q; cases q
    · rw [cutH_ne z] at q
      rcases st.new b o q with y | y
      · rw [upd_ne z] at y
        exact .inl y
      · exact .inr y
theorem de_borrow {i : Nat} {ds : List Da} {e : Expr} {d : Da} (hS : S[i]? = some (.ow ds)) (hL : Lf d = true) (h : DE j (S.set i (.da (.lst ds))) e d) : DE j S e d := fun σ F H rp QQ k => by
  obtain ⟨l, vs, h1, h2, _, rp'⟩ := rp.freeze' hS
  refine h σ _ H rp' QQ fun v F' H' st a => ?_
  obtain ⟨st', hl⟩ := lent (σ := σ) h2 st
  exact k v _ H' st' (At.cut hl d v hL a)
theorem dt_borrow {i : Nat} {ds : List Da} {e : Expr} {b : Bool} (hS : S[i]? = some (.ow ds)) (h : DT j (S.set i (.da (.lst ds))) e b) : DT j S e b := fun σ F H rp QQ k => by
  obtain ⟨l, vs, h1, h2, _, rp'⟩ := rp.freeze' hS
  refine h σ _ H rp' QQ fun F' H' st => ?_
  obtain ⟨st', hl⟩ := lent (σ := σ) h2 st
  exact k _ H' st'
/-- what stands in a slot: a datum, or, a list, one's own -/
def Bor (s : Sl) (x : Da) : Prop := (s = .da x ∧ ∀ ds, x ≠ .lst ds) ∨ ∃ ds, s = .ow ds ∧ x = .lst ds
theorem set_self {i : Nat} {s : Sl} (h : S[i]? = some s) : S.set i s = S := by
  refine List.ext_getElem? fun k => ?_
  by_cases e : i = k
  · subst e
    rw [List.getElem?_set_self (List.getElem?_eq_some_iff.mp h).1, h]
  · rw [List.getElem?_set_ne e]
theorem de_bor {i : Nat} {s : Sl} {x : Da} {e : Expr} {d : Da} (hb : Bor s x) (hS : S[i]? = some s) (hL : Lf d = true) (h : DE j (S.set i (.da x)) e d) : DE j S e d := by
  rcases hb with ⟨rfl, _⟩ | ⟨ds, rfl, rfl⟩
  · rw [set_self hS] at h
    exact h
  · exact de_borrow hS hL h
theorem dt_bor {i : Nat} {s : Sl} {x : Da} {e : Expr} {b : Bool} (hb : Bor s x) (hS : S[i]? = some s) (h : DT j (S.set i (.da x)) e b) : DT j S e b := by
  rcases hb with ⟨rfl, _⟩ | ⟨ds, rfl, rfl⟩
  · rw [set_self hS] at h
    exact h
  · exact dt_borrow hS h
variable {P : Program} {w : World} {K : PySem.W.Frag} {mg : Str → Option Value} {base : Heap} {k n : Nat} {x : Str} {G : List Da → Da → Prop} {p apos : Pos} {e : Expr} {es : List Expr}
/-- a def of numbers alone that hands back a list: the list is new -/
theorem do_call0 {is : List Int} {ds : List Da} (h : Fn0 P w K mg base k x G) (hr : Room n j.X.A) (hk : k ≤ n) (ha : DA j S (e :: es) (is.map Da.int)) (g : G (is.map Da.int) (.lst ds)) (hL : Lfs ds = true) (on : On j.X P w K mg base := by exact ⟨rfl, rfl, rfl, rfl, rfl⟩) (hg : Gl j.X x := by rfl)
    (he : starEach (e :: es) j.X.env = (false, eval e j.X.env) :: starEach es j.X.env := by rfl) (hpl : (backTo pos (starEach es j.X.env)).any (·.1) = false := by rfl) : DO j S (.Call (.Name x p) (e :: es) [] pos) ds := fun σ F H rp QQ kk => by
  obtain ⟨rfl, rfl, rfl, rfl, rfl⟩ := on
  obtain ⟨f, fd, ps, ok, hm, hkp, hb⟩ := h.ex
  refine wp_pe (pe_call ok (hr.mono hk) hg hm hkp hb .nil pass0 pa_wp h.db he hpl) (ha σ F H rp _ fun vs F1 H1 s1 a1 => ?_)
  cases ats_int a1
  rw [List.append_nil]
  refine ⟨fun _ => none, is.map Da.int, .lst ds, fun _ _ z => (nomatch z), ats_int' is, g, fun v F' H' st a2 => ?_⟩
  obtain ⟨l, vs, rfl, hl, a3⟩ := a2
  have new : ∀ b o, F' b = some o → H1 b = none := fun b o q => by
    rcases st.new b o q with y | y
    · cases y
    · exact y
  have hlH := new l _ hl
  have notF1 : ∀ b o, F' b = some o → F1 b = none := fun b o q => s1.e.free (new b o q)
  refine kk l vs (fun b => if b = l then none else match F1 b with
    | some o => some o
    | none => F' b) H' ⟨fun b o q => ?_, fun b o q => ?_, s1.h.trans st.h, fun b o q => ?_⟩ (s1.h.free hlH) (st.e _ _ hl) (if_pos rfl) ?_
  · have q1 := s1.f b o q
    have nb : b ≠ l := fun z => by subst z; rw [notF1 b _ hl] at q1; cases q1
    show (if b = l then none else _) = _
    rw [if_neg nb, q1]
  · by_cases z : b = l
    · subst z
      simp at q
    · have q : (match F1 b with
        | some o => some o
        | none => F' b) = some o := by simpa [z] using q
      cases h1 : F1 b with
      | some o1 =>
        rw [h1] at q
        cases q
        exact st.h _ _ (s1.e _ _ h1)
      | none =>
        rw [h1] at q
        exact st.e _ _ q
  · by_cases z : b = l
    · subst z
      simp at q
    · have q : (match F1 b with
        | some o => some o
        | none => F' b) = some o := by simpa [z] using q
      cases h1 : F1 b with
      | some o1 =>
        rw [h1] at q
        cases q
        exact s1.new b o h1
      | none =>
        rw [h1] at q
        exact .inr (s1.h.free (new b o q))
  · refine Ats.mono (fun b o q => ?_) _ _ (Ats.cut hl ds vs hL a3)
    by_cases z : b = l
    · subst z; rw [cutH_same] at q; cases q
    · rw [cutH_ne z] at q
      show (if b = l then none else _) = _
      rw [if_neg z, notF1 b o q, q]
/-- a constructor that refuses, in a try -/
theorem dn_make {C C' : Addr} {Xc : List Da → Addr → Prop} {ds : List Da} (h : MkX P w K mg base k x C G Xc) (hr : Room n j.X.A) (hk : k + 1 ≤ n) (ha : DA j S (e :: es) ds) (g : Xc ds C') (hC : j.EX C') (on : On j.X P w K mg base := by exact ⟨rfl, rfl, rfl, rfl, rfl⟩) (hg : Gl j.X x := by rfl)
    (he : starEach (e :: es) j.X.env = (false, eval e j.X.env) :: starEach es j.X.env := by rfl) (hpl : (backTo pos (starEach es j.X.env)).any (·.1) = false := by rfl) : DN j S (.Call (.Name x p) (e :: es) [] pos) := fun σ F H rp QQ => by
  obtain ⟨rfl, rfl, rfl, rfl, rfl⟩ := on
  obtain ⟨f, fd, ps, ok, hM, hb⟩ := h.ex
  refine wp_pe (pe_make hM ok (hr.mono hk) hg h.m hb .nil (passes_call (E := j.xk) j.tk fun _ _ _ _ h => h) pa_wp h.db he hpl) (ha σ F H rp _ fun vs F1 H1 s1 a1 => fun q dx nq nd ne => ?_)
  rw [List.append_nil]
  have sm : Same H1 (upd (upd H1 dx (.own q)) q (.ins C dx [])) := fun b o z => by
    rw [upd_ne (ne_of_none z nq), upd_ne (ne_of_none z nd)]
    exact z
  refine ⟨F1, ds, q, dx, vs, rfl, upd_same, s1.e.free nq, s1.e.trans sm, a1, .inr ⟨C', g, fun H' hh => j.ex C' hC H' fun b o z => ?_⟩⟩
  have z1 := s1.h _ _ (rp.h0 b o z)
  exact hh b o (ne_of_none z1 nq) (sm b o z1)
end
section
variable {j : J} {S : List Sl} {D : DEnds}
/-- the ways behind a statement joined -/
theorem db_cut {st : Stmt} {rest : List Stmt} (Pq : List Sl → Prop) (h : DS j S st { D with nx := Pq }) (k : ∀ S', Pq S' → DB j S' rest D) : DB j S (st :: rest) D :=
  db_cons fun σ F H rp => wpS_mono (D := lift j F { D with nx := Pq }) (D' := lift j F { D with nx := fun S' => DB j S' rest D }) ⟨fun σ H ⟨S', F2, a, b, c⟩ => ⟨S', F2, a, b, k S' c⟩, fun _ _ z => z, fun _ _ z => z, fun _ _ z => z⟩ (h σ F H rp)
end
/-! objects told in part -/
theorem lookup_zip_more {f : Str} {v : V} {ms : List Str} {us : List V} : ∀ {ns : List Str} {vs : List V}, (ns.zip vs).lookup f = some v → ns.length = vs.length → ((ns ++ ms).zip (vs ++ us)).lookup f = some v
  | [], _, h, _ => by simp at h
  | n :: ns, [], h, _ => by simp at h
  | n :: ns, w :: vs, h, hl => by
    rw [List.zip_cons_cons, List.lookup_cons] at h
    rw [List.cons_append, List.cons_append, List.zip_cons_cons, List.lookup_cons]
    cases q : f == n with
    | true => rw [q] at h; exact h
    | false => rw [q] at h; exact lookup_zip_more h (Nat.succ.inj hl)
theorem Ats.split {K : PySem.W.Frag} {H : Hp} : ∀ {ds es : List Da} {vs : List V}, Ats K H (ds ++ es) vs → ∃ us ws, vs = us ++ ws ∧ Ats K H ds us ∧ Ats K H es ws
  | [], es, vs, h => ⟨[], vs, rfl, rfl, h⟩
  | d :: ds, es, _, ⟨v, r, h1, h2, h3⟩ => by
    obtain ⟨us, ws, e, a, b⟩ := Ats.split h3
    exact ⟨v :: us, ws, by rw [h1, e]; rfl, ⟨v, us, rfl, h2, a⟩, b⟩
section
variable {j : J} {S : List Sl}
theorem de_weak {e : Expr} {C : Addr} {ns ms : List Str} {ds es : List Da} (h : DE j S e (.ob C (ns ++ ms) (ds ++ es))) (hl : ns.length = ds.length) : DE j S e (.obw C ns ds) := fun σ F H rp QQ k => h σ F H rp QQ fun v F' H' st a => by
  obtain ⟨a, dx, vs, e1, e2, e3, a1⟩ := a
  obtain ⟨us, ws, rfl, a2, a3⟩ := Ats.split a1
  exact k v F' H' st ⟨a, dx, _, us, e1, e2, fun f w q => lookup_zip_more q (by rw [a2.length, hl]), hl, a2⟩
theorem de_fldw {K : PySem.W.Frag} {e : Expr} {C : Addr} {ns : List Str} {ds : List Da} {f : Str} {i : Nat} {d : Da} {pos : Pos} (he : DE j S e (.obw C ns ds)) (hf : FldD K C ns f i) (hd : ds[i]? = some d)
    (hb : attributeBase e f j.X.env (eval e j.X.env) = eval e j.X.env := by rfl) (eK : j.X.K = K := by rfl) : DE j S (.Attribute e f pos) d := fun σ F H rp QQ k => by
  subst eK
  refine wp_pe (pe_fld pe_wp hb) (he σ F H rp _ fun v F1 H1 s1 ⟨a, dx, fs, vs, e1, e2, e3, hl, a1⟩ => ?_)
  obtain ⟨w, h1, h2⟩ := a1.get hd
  exact ⟨a, C, dx, _, w, e1, s1.e _ _ e2, hf.cl, hf.no, e3 _ _ (lookup_zip hf.ix hf.at_ h1), k w F1 H1 s1 h2⟩
theorem cd_isOb {C : Addr} {ns : List Str} {ds : List Da} (c : C8.InsC j.X.K C) : CallD j (.builtin "isinstance") [.ob C ns ds, .fn C] (.bl true) := fun F H e vs a QQ kk => by
  obtain ⟨v, u, e0, ⟨a, dx, ws, e1, h1, _⟩, a2⟩ := ats2 a
  cases (show u = _ from a2)
  exact wp_call (C8.call_isC c) ⟨a, dx, _, by rw [e0, e1], e _ _ h1, kk _ F H (.refl e) rfl⟩
theorem cd_isObw {C : Addr} {ns : List Str} {ds : List Da} (c : C8.InsC j.X.K C) : CallD j (.builtin "isinstance") [.obw C ns ds, .fn C] (.bl true) := fun F H e vs a QQ kk => by
  obtain ⟨v, u, e0, ⟨a, dx, fs, ws, e1, h1, _⟩, a2⟩ := ats2 a
  cases (show u = _ from a2)
  exact wp_call (C8.call_isC c) ⟨a, dx, _, by rw [e0, e1], e _ _ h1, kk _ F H (.refl e) rfl⟩
theorem cd_isStr {C : Addr} {z : Str} {b : Bool} (h : PySem.W.kitOne j.X.K (.type "str") (.ref C) = some b) : CallD j (.builtin "isinstance") [.str z, .fn C] (.bl b) := fun F H e vs a QQ kk => by
  obtain ⟨v, u, e0, a1, a2⟩ := ats2 a
  cases (show u = _ from a2)
  exact wp_call call_isi ⟨v, .ref C, .type "str", .ref C, b, e0, .own C, tyx_of e rfl a1, h, kk _ F H (.refl e) rfl⟩
end
/-! tests for the head -/
def insB (x : Str) (K : PySem.W.Frag) : Bool :=
  decide (PySem.W.findIn K (.ref (He.ga K x)) "__class__" = some (some (.builtin "object.__class__"))) && (decide (PySem.W.specialIn K (.builtin "object.__class__") "__get__" = some (some (.builtin "getset_descriptor.__get__")))
    && (decide (PySem.W.takesIn K (.builtin "object.__class__") = some true) && (decide (PySem.W.mroIn K (He.ga K x) (.type "object") = some true) && decide (PySem.W.kitOne K (.ref (He.ga K x)) (.ref (He.ga K x)) = some true))))
theorem insB_ok {x : Str} {K : PySem.W.Frag} (c : Cls K (He.ga K x)) (h : insB x K = true) : C8.InsC K (He.ga K x) := by
  unfold insB at h
  simp only [Bool.and_eq_true, decide_eq_true_eq] at h
  obtain ⟨h1, h2, h3, h4, h5⟩ := h
  exact ⟨c, h1, h2, h3, h4, h5⟩
def noStr (x : Str) (K : PySem.W.Frag) : Bool := decide (PySem.W.kitOne K (.type "str") (.ref (He.ga K x)) = some false)
end DL
/-! DLX: a list comprehension out of which an exception leaves. -/
namespace DL
open PySem PySem.Spec PyProof.Rows L2
section
variable {M : Model} {A : Around} {E : Value → Shared → Prop} {s : Shared} {env : Env}
def postX (M : Model) (A : Around) (E : Value → Shared → Prop) (Q : Value → Shared → Prop) (acc : Value) (ce : Env) (r : Result) (s' : Shared) : Prop :=
  match r with
  | .ok _ => ∃ m, s'.heap.Ns ce.locals m ∧ ∀ h', Heap.SameBut ce.locals s'.heap h' → Q acc { s' with heap := h' }
  | .error x => ∃ m, s'.heap.Ns ce.locals m ∧ ∀ h', Heap.SameBut ce.locals s'.heap h' → wpAny M A (passOn "comprehension.variables-let-go" x ce : Sem Value) (fun _ _ => False) E { s' with heap := h' }
theorem comp_freeX {e : Expr} {scope : Scope} {pos : Pos} {newAcc first : Sem Value} {g : Comprehension} {gs : List Comprehension} {cl : List (Str × Addr)} {Q : Value → Shared → Prop}
    (hcl : clausesOf e = g :: gs) (hs : ∀ x, foldedSetIterable g.iter env x = pure x) (hclos : closureFor scope env = pure cl)
    (hkind : scope.kind = .function) (hnames : ∀ x ∈ scope.names, x.2 = .local → scope.names.lookup x.1 = some .local)
    (h : wpAny M A first (fun x s₁ => wpAny M A (pyIter x) (fun it s₂ => wpAny M A newAcc (fun acc s₃ =>
      wpAny M A (newFunctionEnv scope env.globals cl [] env.qual none .none (some env)) (fun cenv s₄ =>
        codeAny M A (.compStart e 0 it acc { cenv with scope := relabel scope env }) (postX M A E Q acc { cenv with scope := relabel scope env }) s₄) E s₃) E s₂) E s₁) E s) :
    wpAny M A (comprehension e scope env pos newAcc false first none) Q E s := by
  unfold comprehension
  rw [hclos, hcl]
  refine wpAny_bind (wpAny_mono h (fun x s₁ h₁ => wpAny_bind (wpAny_standAt (wpAny_bind (wpAny_of_eq (hs x) (wpAny_bind (wpAny_holding (wpAny_mono h₁ (fun it s₂ h₂ =>
    wpAny_standIf (wpAny_bind (wpAny_mono h₂ (fun acc s₃ h₃ => wpAny_bind (wpAny_pure (wpAny_bind (wpAny_mono h₃ (fun cenv s₄ h₄ => ?_) fun _ _ h' => h')))) fun _ _ h' => h')))
      fun _ _ h' => h'))))))) fun _ _ h' => h')
  dsimp only
  have hv : ∀ x ∈ (scope.names.filter fun x => (x.2 == .local || x.2 == .cell) && x.1 != (".0" : Str)).reverse, x.2 = .local →
      Env.kindOf { cenv with scope := relabel scope env } x.1 = some .local := fun x hx hl => lookup_relabel_local (hnames x (List.mem_filter.mp (List.mem_reverse.mp hx)).1 hl)
  refine wpAny_holding (wpAny_bind (wpAny_attempt (wpAny_holding (wpAny_run (codeAny_mono h₄ fun r s' hr => ?_)))))
  cases r with
  | ok f =>
    obtain ⟨m, hn, hr⟩ := hr
    exact wpAny_bind (wpAny_holding (wpAny_comp_letGo (cenv := { cenv with scope := relabel scope env }) hkind _ s' m hv hn fun h' m' _ hs' => wpAny_pure (hr h' hs')))
  | error x =>
    obtain ⟨m, hn, hr⟩ := hr
    exact wpAny_bind (wpAny_holding (wpAny_comp_letGo (cenv := { cenv with scope := relabel scope env }) hkind _ s' m hv hn fun h' m' _ hs' => wpAny_mono (hr h' hs') (fun _ _ f => f.elim) fun _ _ y => y))
end
section
variable {M : Model} {A : Around} {E : Value → Shared → Prop} {s : Shared} {Z : Obj → Prop} {B : Heap} {env : Env} {outer : List Env} {L e : Addr}
/-- noted, whatever frame it was noted at ahead -/
theorem looks_any {fl : Value} {Q : Unit → Shared → Prop} (hZ : HandSPX.Steady Z) (hfr : A.frames = some (env :: outer)) (hf : env.frame = some L) (hkb : B.StaysIn s.heap) (hen : B.get? e = none) (hl : s.heap.FunFrames B (env :: outer)) (ht : HandSPX.TracedZ s.heap B e Z fl) (hfl : (fl == rawInt L) = false)
    (hQ : ∀ h', HandSPX.HeldZ B (env :: outer) e Z L h' → s.heap.UpToSlots h' → Q () { s with heap := h' }) : wpAny M A (noteFrame (.ref e) env) Q E s := by
  obtain ⟨oe, vs, T, oT, ts, he, hz, hd, h1, hnT, hTe, hT, hdT, h3⟩ := ht
  unfold noteFrame
  simp only [hf]
  refine wpAny_bind (wpAny_field he hd h1 ?_)
  rw [if_pos (show (Value.ref T != Value.none) = true from by simp)]
  refine wpAny_bind (wpAny_field hT hdT h3 ?_)
  rw [if_neg (by rw [hfl]; decide)]
  refine wpAny_bind (wpAny_setField hT hdT (Array.getElem?_eq_some_iff.mp h3).1 ?_)
  have other : ∀ b, b ≠ T → (s.heap.update T (Obj.mapFields (·.setIfInBounds 3 Value.none))).get? b = s.heap.get? b := fun b hb => Heap.get?_update_other _ _ (Ne.symm hb)
  have noRecord : ∀ b o, s.heap.get? b = some o → (∀ vs, o.data ≠ .fields vs) → b ≠ T := fun b o hb hnf q => by
    rw [q, hT] at hb; injection hb with hb; subst hb; exact hnf ts hdT
  refine HandSPX.wpAny_entryZ hZ hfr (hl.of_keeps fun b o hb hnf => ⟨o, (other b (noRecord b o hb hnf)).trans hb, rfl⟩) hf ((other e (Ne.symm hTe)).trans he)
    (fun b o hbo => (other b fun q => by rw [q, hnT] at hbo; cases hbo).trans (hkb b o hbo)) hen hd (Array.getElem?_eq_some_iff.mp h1).1 hz fun h' hN => ?_
  obtain ⟨x1, x2, x3, x4⟩ := hN
  exact hQ h' ⟨x1, hen, x2, x3⟩ fun b o hb hnf => x4 b o ((other b (noRecord b o hb hnf)).trans hb) hnf
/-- an exception in the air of a block that stands in the frame env is noted there -/
theorem note_sky {C a : Addr} {Q : Unit → Shared → Prop} (hZ : HandSPX.Steady Z) (hfr : A.frames = some (env :: outer)) (hf : env.frame = some L) (hCL : C ≠ L) (x : Sky B (env :: outer) a Z C s.heap)
    (hQ : ∀ h', HandSPX.HeldZ B (env :: outer) a Z L h' → s.heap.UpToSlots h' → Q () { s with heap := h' }) : wpAny M A (noteFrame (.ref a) env) Q E s := by
  rcases x with ⟨hB, hn, hl, oe, vs, he, hz, hd, h1⟩ | ⟨k1, k2, k3, k4⟩ | ⟨k1, k2, k3, k4⟩
  · exact HandSPX.look_newZ hZ hfr hl hf he hB hn hd h1 hz hQ
  · exact looks_any hZ hfr hf k1 k2 k3 k4 (by rfl) hQ
  · refine looks_any hZ hfr hf k1 k2 k3 k4 ?_ hQ
    cases q : rawInt (C : Int) == rawInt (L : Int) with
    | false => rfl
    | true =>
      have := eq_of_beq q
      unfold rawInt at this
      injection this with this
      exact absurd (Int.ofNat.inj this) hCL
end
end DL
/-! DLX2: what a block lets out is taken by its def. -/
namespace DL
open PySem PySem.Spec PyProof.Rows L2
/-- what is asked of an exception as it leaves a block -/
def outX (X : Cx) (ce : Env) (u : Value) (s' : Shared) : Prop :=
  ∃ m, s'.heap.Ns ce.locals m ∧ ∀ h', Heap.SameBut ce.locals s'.heap h' → wpAny (model X.prog X.w) X.A (passOn "comprehension.variables-let-go" u ce : Sem Value) (fun _ _ => False) X.xe { s' with heap := h' }
def xbB (X : Cx) (ce : Env) : Value → Shared → Prop := notedBy (model X.prog X.w) X.A ce (outX X ce)
theorem hide_ne {h : Heap} {C b : Addr} (hb : b ≠ C) : (PySem.W.hideAll h [C]).get? b = h.get? b := by
  cases e : h.get? b with
  | some o => exact PySem.W.hideAll_get [C] e (by simpa using hb)
  | none =>
    cases q : (PySem.W.hideAll h [C]).get? b with
    | none => rfl
    | some o =>
      have z := PySem.W.of_hideAll [C] q
      rw [e] at z; cases z
theorem hide_at {h : Heap} {C : Addr} : (PySem.W.hideAll h [C]).get? C = none := PySem.W.hideAll_none [C] (by simp)
theorem funFrames_but {C : Addr} {B h h' : Heap} (sb : Heap.SameBut C h h') : ∀ {l : List Env}, h.FunFrames B l → C ∉ frs l → h'.FunFrames B l
  | [], _, _ => trivial
  | env :: l, hl, hn => by
    obtain ⟨hk, ⟨L, o, hf, hb, ho, hd⟩, hr⟩ := hl
    have hLC : L ≠ C := fun z => hn (List.mem_filterMap.mpr ⟨env, List.mem_cons_self, by rw [hf, z]⟩)
    exact ⟨hk, ⟨L, o, hf, hb, (sb.2 L hLC).trans ho, hd⟩, funFrames_but sb hr fun hm => by
      obtain ⟨e, he, q⟩ := List.mem_filterMap.mp hm
      exact hn (List.mem_filterMap.mpr ⟨e, List.mem_cons_of_mem _ he, q⟩)⟩
theorem note_eq {u : Value} {env ce : Env} (h : ce.frame = env.frame) : noteFrame u ce = noteFrame u env := by
  unfold noteFrame PySem.frameOf
  rw [h]
theorem takes_blk {X : Cx} {pins : List (Addr × Obj)} {σ : L2.St} {H3 : Hp} {s3 : Shared} {scope : Scope} {ce : Env} {fp : List Addr} {WK : Value → Option Addr → Hp → Prop} (I3 : Inv X pins σ H3 s3) (hst : X.stack = X.env :: X.outer) (hfr : X.env.frame = some X.env.locals)
    (hce : ce.frame = X.env.frame) (cL : ce.locals = s3.heap.objs.size) (f3 : ∀ b ∈ fp, FpOk X pins H3 b) (tk : L2.Takes X (fun c d _ H => WK c d H)) :
    L2.Takes ((X.blk s3 H3 scope ce fp).tr [] (xbB X ce)) (fun c d _ H => WK c d H) := fun u s' hx => by
  obtain ⟨a, B, sI, pins', σ', H', cls, d, rfl, I', nb, up, sky, na, os, ag, w⟩ := hx
  have hfrm : X.A.frames = some (X.env :: X.outer) := by rw [I3.ok.frames, hst]
  have hlt : X.env.locals < s3.heap.objs.size := I3.lt
  have hCL : ce.locals ≠ X.env.locals := by rw [cL]; exact Nat.ne_of_gt hlt
  have nfC : ce.locals ∉ frs X.stack := fun hm => by
    rcases List.mem_cons.mp (I3.stkSub _ hm) with z | z
    · exact hCL z
    · exact I3.nofs (Nat.le_of_eq cL.symm) z
  have nfC' : ce.locals ∉ frs (X.env :: X.outer) := by rw [← hst]; exact nfC
  have nb : ∀ b o, sI.heap.get? b = some o → b ∉ frs X.stack → B.get? b = some o := nb
  obtain ⟨mC, hNs, _⟩ := I'.loc
  have hNs : sI.heap.Ns ce.locals mC := hNs
  obtain ⟨oC, es, ep, hC, hCd, hk1, hk2⟩ := hNs
  have hCB : B.get? ce.locals = some oC := nb _ _ hC nfC
  have hfree : H' ce.locals = none := I'.free
  show wpAny _ _ (noteFrame (.ref a) ce) _ _ s'
  rw [note_eq hce]
  have sky : Sky B (X.env :: X.outer) a (Zc cls d) ce.locals s'.heap := by rw [← hst]; exact sky
  refine note_sky Zc.steady hfrm hfr hCL sky fun h1 hh up1 => ?_
  obtain ⟨g1, g2, g3, g4⟩ := id hh
  refine ⟨mC, ⟨oC, es, ep, g1 _ _ hCB, hCd, hk1, hk2⟩, fun h2 sb => ?_⟩
  have sb : Heap.SameBut ce.locals h1 h2 := sb
  -- the ground without the block's names
  have haC : a ≠ ce.locals := fun z => by rw [z, hCB] at g2; cases g2
  have hB2 : ∀ b o, (PySem.W.hideAll B [ce.locals]).get? b = some o → b ≠ ce.locals ∧ B.get? b = some o := fun b o e => by
    by_cases z : b = ce.locals
    · rw [z, hide_at] at e; cases e
    · rw [hide_ne z] at e; exact ⟨z, e⟩
  have fNone : ∀ L ∈ frs (X.env :: X.outer), B.get? L = none := fun L hL => (g3.mem hL).1
  have held : HandSPX.HeldZ (PySem.W.hideAll B [ce.locals]) (X.env :: X.outer) a (Zc cls d) X.env.locals h2 := by
    refine ⟨fun b o e => ?_, ?_, ?_, ?_⟩
    · obtain ⟨z, e⟩ := hB2 b o e
      exact (sb.2 b z).trans (g1 b o e)
    · rw [hide_ne haC]; exact g2
    · refine funFrames_none (base := B) (h := h2) ?_ fun L hL => ?_
      · exact funFrames_but sb g3 nfC'
      · rw [hide_ne fun z => nfC' (by rw [← z]; exact hL)]
        exact fNone L hL
    · obtain ⟨oe, vs, T, oT, ts, he, hz, hd, h1', hnT, hTe, hT, hdT, h3⟩ := g4
      have hTC : T ≠ ce.locals := fun z => by rw [z, hCB] at hnT; cases hnT
      exact ⟨oe, vs, T, oT, ts, (sb.2 a haC).trans he, hz, hd, h1', by rw [hide_ne hTC]; exact hnT, hTe, (sb.2 T hTC).trans hT, hdT, h3⟩
  have hne : ∃ oe vs T, h2.get? a = some oe ∧ oe.data = .fields vs ∧ vs[1]? = some (.ref T) := by
    obtain ⟨oe, vs, T, oT, ts, he, hz, hd, h1', _⟩ := held.2.2.2
    exact ⟨oe, vs, T, he, hd, h1'⟩
  obtain ⟨oe, vs, T, he, hd, h1'⟩ := hne
  unfold PySem.passOn
  refine wpAny_bind (wpAny_field he hd h1' ?_)
  rw [if_neg (show ¬ ((Value.ref T == Value.none) = true) from Bool.false_ne_true)]
  rw [hce, hfr]
  refine wpAny_bind (HandSPX.setFlight_onZ held fun h3 hh3 up3 => wpAny_throw ?_)
  -- taken by the def
  have I2 : Inv X pins σ H' { sI with heap := PySem.W.hideAll sI.heap [ce.locals] } := by
    refine I3.call' (ch := fp) I'.os ?_ ?_ I'.bare fun b hb => ⟨(f3 b hb).2.2.2.1, (f3 b hb).2.1, (f3 b hb).2.2.2.2.1, (f3 b hb).2.2.2.2.2⟩
    · have ub : Un (frs X.stack) fp H3 H' s3.heap sI.heap := I'.base
      have nC : ∀ {b o}, s3.heap.get? b = some o → b ≠ ce.locals := fun {b o} e => by rw [cL]; exact Nat.ne_of_lt (Heap.lt_size e)
      exact ⟨fun b o e n h1 h2 => by rw [hide_ne (nC e)]; exact ub.keep b o e n h1 h2, fun b o e n h1 h2 => by rw [hide_ne (nC e)]; exact ub.slot b o e n h1 h2, ub.free, fun b o e h1 => by rw [hide_ne (nC e)]; exact ub.there b o e h1, ub.tups, ub.frzs, ub.tbls⟩
    · exact fun b o q => (I'.hok b o q).stay (fun c v hc r => by
        rw [hide_ne fun z => ?_]
        · exact r
        · rcases hc with hc | hc
          · rw [← hc, z, hfree] at q; cases q
          · rw [z, hfree] at hc; cases hc) (fun _ r => r) fun _ _ r => r
  refine tk (.ref a) _ ⟨a, PySem.W.hideAll B [ce.locals], { sI with heap := PySem.W.hideAll sI.heap [ce.locals] }, pins, σ, H', cls, d, rfl, I2, fun b o e hb => ?_, fun b o e hnf => ?_, .inr (.inr ?_), na, os, ag, w⟩
  · have z : b ≠ ce.locals := fun z => by
      have e : (PySem.W.hideAll sI.heap [ce.locals]).get? b = some o := e
      rw [z, hide_at] at e; cases e
    have e : (PySem.W.hideAll sI.heap [ce.locals]).get? b = some o := e
    rw [hide_ne z] at e ⊢
    exact nb b o e hb
  · have e : (PySem.W.hideAll sI.heap [ce.locals]).get? b = some o := e
    have z : b ≠ ce.locals := fun z => by rw [z, hide_at] at e; cases e
    rw [hide_ne z] at e
    obtain ⟨sl1, e1⟩ := up b o e hnf
    obtain ⟨sl2, e2⟩ := up1 b _ e1 hnf
    have e3 := (sb.2 b z).trans e2
    obtain ⟨sl4, e4⟩ := up3 b _ e3 hnf
    exact ⟨sl4, e4⟩
  · rw [hst]
    exact hh3
end DL
/-! DLX3: the comprehension's walk, its elements may raise. -/
namespace DL
open PySem PySem.Spec PyProof.Rows L2
abbrev blkX (X : Cx) (s : Shared) (H : Hp) (scope : Scope) (cl : List (Str × Addr)) (C : Addr) (fp : List Addr) (xb : Value → Shared → Prop) : Cx := (X.blk s H scope (compEnvC scope cl C X.env) fp).tr [] xb
theorem pe_lcX {X : Cx} {elt tg iter : Expr} {scope : Scope} {own : List (Str × Nat)} {pos : Pos} {wi : TI} {g : TG} {te : TE} {WK : Value → Option Addr → Hp → Prop} (hc : X.calm = true) (hN : X.N.Nodup) (hst : X.stack = X.env :: X.outer) (hfr : X.env.frame = some X.env.locals)
    (tk : L2.Takes X (fun c d _ H => WK c d H)) (hi : PI X tg iter wi) (ok : BlkOk X.N X.env.scope scope own)
    (hg : ∀ (s : Shared) (H : Hp) (C : Addr) (cl : List (Str × Addr)) (fp : List Addr) (xb : Value → Shared → Prop), PG (blkX X s H scope cl C fp xb) tg g)
    (he : ∀ (s : Shared) (H : Hp) (C : Addr) (cl : List (Str × Addr)) (fp : List Addr) (xb : Value → Shared → Prop), L2.Takes (blkX X s H scope cl C fp xb) (fun c d _ H => WK c d H) → PassesOwn (model X.prog X.w) X.A (compEnvC scope cl C X.env) xb → PE (blkX X s H scope cl C fp xb) elt te)
    (hs : ∀ x, foldedSetIterable iter X.env x = pure x := by intro _; rfl) :
    PE X (.ListComp elt [⟨tg, iter, [], 0⟩] scope pos) (tLc wi g tYes te (own.map (·.2))) := by
  refine ⟨fun pins s σ H Q I h => ?_⟩
  rw [eval_ListComp]
  have hfree : ∀ y ∈ scope.names, y.2 = .free → ∃ c, X.env.cells.lookup y.1 = some c := fun y hy e => by
    rcases ok.free y hy e with k | k
    · exact I.ok.has _ (.inl k)
    · exact I.ok.has _ (.inr k)
  refine comp_freeX rfl hs (closure_ok hfree) ok.kind (fun y hy e => by rw [ok.uniq y hy, e])
    (thn (hi.run pins s σ H _ I h) fun xv s1 hx => thn hx fun itv s2 h2 => ?_)
  obtain ⟨it, fp, tn, J, H2, e, I2, T, st2, f2, q⟩ := h2
  subst e
  refine wpAny_newObj_type (newEnv_comp ?_) (by show 0 ≤ sizeLine; decide)
  generalize hD : s2.heap.objs.size = D
  have hDn : H2 D = none := I2.hok.fresh (Nat.le_of_eq hD)
  obtain ⟨W, ⟨m0, w0⟩, turn⟩ := q D hDn
  generalize hs3 : ({ s2 with heap := s2.heap.push { cls := .type "list", data := .seq ([] : List Value).toArray } } : Shared) = s3
  have I3 : Inv X pins σ (upd H2 D (.lst [])) s3 := by
    rw [← hs3]
    refine I2.laid (t' := s2.toks) (fun b o e => Heap.get?_push_of_some _ e) (Nat.le_of_eq hD) ⟨Nat.zero_le _, [], 0, .nil, ?_⟩
    rw [← hD]
    exact Heap.get?_push_size _ rfl
  have h3 : s3.heap = s2.heap.push { cls := .type "list", data := .seq ([] : List Value).toArray } := by rw [← hs3]
  have sz : ∀ b ∈ fp, b < s2.heap.objs.size := fun b hb => by
    obtain ⟨o, e, _⟩ := T.obj _ _ st2 b hb
    exact Heap.lt_size e
  have f3 : ∀ b ∈ fp, FpOk X pins (upd H2 D (.lst [])) b ∧ b < s3.heap.objs.size := fun b hb => by
    have hlt := sz b hb
    refine ⟨⟨?_, (f2 b hb).2⟩, by rw [h3, Heap.size_push]; exact Nat.lt_succ_of_lt hlt⟩
    rw [upd_ne (by rw [← hD]; exact Nat.ne_of_lt hlt)]
    exact (f2 b hb).1
  have st3 : tn 0 s3.heap := T.keep _ _ _ st2 fun b _ o e => by rw [h3]; exact Heap.get?_push_of_some _ e
  have I4 := block_start I3 ok hN f3
  generalize hcl : cellsFrom (s3.heap.objs.size + 1) scope.names (cloFrom X.env.cells scope.names []) = cl at I4
  show codeAny _ _ (.compStart (.ListComp elt [⟨tg, iter, [], 0⟩] scope pos) 0 (.ref it) (.ref D) (compEnvC scope cl s3.heap.objs.size X.env)) (postX (model X.prog X.w) X.A X.xe (EP X pins σ Q) (.ref D) (compEnvC scope cl s3.heap.objs.size X.env)) { s3 with heap := pushCells (s3.heap.push { cls := .type "dict", data := .dict #[] }) scope.names }
  have nfp : ∀ b ∈ fp, (upd H2 D (.lst [])) b = none := fun b hb => (f3 b hb).1.1
  generalize hxb : xbB X (compEnvC scope cl s3.heap.objs.size X.env) = xb
  have tkb : L2.Takes (blkX X s3 (upd H2 D (.lst [])) scope cl s3.heap.objs.size fp xb) (fun c d _ H => WK c d H) := by
    rw [← hxb]
    exact takes_blk I3 hst hfr rfl rfl (fun b hb => (f3 b hb).1) tk
  have pob : PassesOwn (model X.prog X.w) X.A (compEnvC scope cl s3.heap.objs.size X.env) xb := by
    rw [← hxb]
    exact PassesOwn.looking
  have pg : PG ((X.blk s3 (upd H2 D (.lst [])) scope (compEnvC scope cl s3.heap.objs.size X.env) fp).tr [] xb) tg g := hg s3 (upd H2 D (.lst [])) s3.heap.objs.size cl fp xb
  have pe : PE ((X.blk s3 (upd H2 D (.lst [])) scope (compEnvC scope cl s3.heap.objs.size X.env) fp).tr [] xb) elt te := he s3 (upd H2 D (.lst [])) s3.heap.objs.size cl fp xb tkb pob
  generalize hce : compEnvC scope cl s3.heap.objs.size X.env = ce at I4 pg pe hxb pob ⊢
  have cL : ce.locals = s3.heap.objs.size := by subst hce; rfl
  generalize hH3 : upd H2 D (.lst []) = H3 at I3 I4 pg pe w0 nfp f3 tkb
  generalize hs4 : ({ s3 with heap := pushCells (s3.heap.push { cls := .type "dict", data := .dict #[] }) scope.names } : Shared) = s4 at I4 ⊢
  have st4 : tn 0 s4.heap := T.keep _ _ _ st3 fun b _ o e => by rw [← hs4]; exact pushCells_keeps _ _ _ _ (Heap.get?_push_of_some _ e)
  have I4 : Inv ((X.blk s3 H3 scope ce fp).tr [] xb) [] (wipe σ (own.map (·.2))) H3 s4 := I4.toTry xb
  have stat : ∀ {σ' : L2.St} {H' : Hp} {s' : Shared}, Inv ((X.blk s3 H3 scope ce fp).tr [] xb) [] σ' H' s' → (∀ b ∈ fp, H' b = none) → ∀ b ∈ fp, FpOk ((X.blk s3 H3 scope ce fp).tr [] xb) [] H' b := fun {σ' H' s'} I' hn b hb =>
    ⟨hn b hb, (I'.ok.exf b hb).1, I'.ok.exfs b hb, .inl hb, fun x c e => (I'.ok.exf b hb).2 x c e, fun p hp => absurd (show p ∈ ([] : List (Addr × Obj)) ++ [] from hp) (by simp)⟩
  have loop : codeAny (model X.prog X.w) X.A (.compLoop (.ListComp elt [⟨tg, iter, [], 0⟩] scope pos) 0 (.ref it) (.ref D) ce) (postX (model X.prog X.w) X.A X.xe (EP X pins σ Q) (.ref D) ce) s4 := by
    refine compLoop_any (fun n s' => ∃ i H', Inv ((X.blk s3 H3 scope ce fp).tr [] xb) [] (wipe σ (own.map (·.2))) H' s' ∧ tn i s'.heap ∧ (∀ b ∈ fp, H' b = none) ∧ W i n H') ?_ m0 ⟨0, H3, I4, st4, nfp, w0⟩
    rintro n s5 ⟨i, H5, I5, st5, n5, w5⟩
    rcases turn i n H5 w5 with ⟨stop, qq⟩ | ⟨go, Nx, hNx, step⟩
    · have td := T.done ((X.blk s3 H3 scope ce fp).tr [] xb) rfl rfl rfl hc i [] s5 _ H5 (fun _ _ => False) I5 (stat I5 n5) st5 stop
      refine thnF td fun r s6 ⟨hr, I6⟩ => ?_
      subst hr
      have I7 : Inv X pins σ H5 s6 := I3.call' (ch := fp) I6.os I6.base I6.hok I6.bare fun b hb => ⟨(f3 b hb).1.2.2.2.1, (f3 b hb).1.2.1, (f3 b hb).1.2.2.2.2.1, (f3 b hb).1.2.2.2.2.2⟩
      have nC : H5 s3.heap.objs.size = none := by
        have z : H5 ce.locals = none := I6.free
        rw [cL] at z
        exact z
      obtain ⟨m, hn, _⟩ := I6.loc
      have hn : s6.heap.Ns ce.locals m := hn
      have fC := I3.fpOk (b := s3.heap.objs.size) (Nat.le_refl _) nC
      refine ⟨m, hn, fun h'' sb => ?_⟩
      obtain ⟨f0, f1, f2, f3', f4, f5⟩ := fC
      rw [cL] at sb
      exact ⟨.ref D, H5, I7.turned (t' := s6.toks) (fun b o hb e => (sb.2 b hb).trans e) f0 f1 f3' f4 f5, rfl, qq⟩
    · have ti := T.item ((X.blk s3 H3 scope ce fp).tr [] xb) rfl rfl rfl hc i [] s5 _ H5 (fun _ _ => False) I5 (stat I5 n5) st5 go
      refine thnF ti fun r s6 ⟨u, hr, h6⟩ => ?_
      subst hr
      refine thnF h6 fun _ s7 ⟨x, H7, I7, r7, y7, st7, n7⟩ => ?_
      have I7' := I7.pinned (stat I7 n7) (T.obj _ _ st7)
      have exb : (notedBy (model X.prog X.w) X.A ce fun e s' => postX (model X.prog X.w) X.A X.xe (EP X pins σ Q) (.ref D) ce (.error e) s') = xb := hxb
      rw [exb]
      refine thn (pg.run _ s7 _ H7 x u _ I7' r7 (step x H7 y7)) fun _ s8 ⟨σ8, H8, I8, hw8, q8⟩ => ?_
      refine wpAny_tests_nil ?_
      simp only [if_true]
      have fin : ∀ {s' : Shared} {H' : Hp}, Inv ((X.blk s3 H3 scope ce fp).tr [] xb) ([] ++ pinsAt fp s7.heap) σ8 H' s' → Nx H' → ∃ m, m < n ∧ ∃ i H', Inv ((X.blk s3 H3 scope ce fp).tr [] xb) [] (wipe σ (own.map (·.2))) H' s' ∧ tn i s'.heap ∧ (∀ b ∈ fp, H' b = none) ∧ W i m H' := fun {s' H'} I' nx => by
        obtain ⟨m', hm, w'⟩ := hNx H' nx
        have pin' : ∀ b ∈ fp, ∀ o, s7.heap.get? b = some o → s'.heap.get? b = some o ∧ H' b = none := fun b hb o e =>
          let z := I'.pin (b, o) (List.mem_append_right _ (List.mem_append_right _ (mem_pinsAt hb e)))
          ⟨z.1, z.2.1⟩
        have hl : (wipe σ (own.map (·.2))).length = σ8.length := by rw [← hw8, wipe_length]
        refine ⟨m', hm, i + 1, H', (I'.unpinned (pins := [])).weak hl (fun j v e => ?_), T.keep _ _ _ st7 fun b hb o e => (pin' b hb o e).1, fun b hb => ?_, w'⟩
        · rw [← hw8] at e
          exact (wipe_some e).1
        · obtain ⟨o, e, _⟩ := T.obj _ _ st7 b hb
          exact (pin' b hb o e).2
      have q8 : te σ8 H8 _ := q8
      refine thn (pe.run _ s8 σ8 H8 _ I8 q8) fun z s10 ⟨yv, H10, I10, r10, acc, hD10, hz10, nx⟩ => ?_
      exact app_ok (X := (X.blk s3 H3 scope ce fp).tr [] xb) I10 hD10 hz10 r10 fun s11 I11 => fin I11 nx
  exact codeAny_compStart_list loop (T.self X.A 0 _ _ _ st4 loop)
end DL
/-! DLX4: a comprehension of data out of which an exception leaves. -/
namespace DL
open PySem PySem.Spec PyProof.Rows L2
abbrev WKj (j : J) : Value → Option Addr → Hp → Prop := fun c d H => xkT j.EX j.H0 c d H
abbrev jBX (j : J) (F : Hp) (s : Shared) (H : Hp) (scope : Scope) (C : Addr) (cl : List (Str × Addr)) (fp : List Addr) (xb : Value → Shared → Prop) (tk : L2.Takes (blkX j.X s H scope cl C fp xb) (fun c d _ H => WKj j c d H)) (po : PassesOwn (model j.X.prog j.X.w) j.X.A (compEnvC scope cl C j.X.env) xb) : J where
  X := blkX j.X s H scope cl C fp xb
  F0 := F
  H0 := j.H0
  xk := xkT j.EX j.H0
  tk := tk
  po := po
  EX := j.EX
  ex := fun C h _ sm => ⟨C, h, rfl, rfl, sm⟩
section
variable {j : J} {S : List Sl}
theorem rp_blkX {σ : L2.St} {F1 F H : Hp} {s : Shared} {Hb : Hp} {scope : Scope} {C : Addr} {cl : List (Str × Addr)} {fp : List Addr} {xb : Value → Shared → Prop} {tk} {po} (r : Rp j S σ F H) (e : Same F1 F) (e0 : Same j.F0 F1) : Rp (jBX j F1 s Hb scope C cl fp xb tk po) S σ F H :=
  ⟨⟨r.ext, e, r.h0, fun a o q => (r.new a o q).imp (e0 a o) id⟩, r.len, fun i s o h1 h2 => r.sl i s o h1 h2, r.ap⟩
theorem dn_lc {α : Type} {x : Str} {i : Nat} {elt iter : Expr} {scope : Scope} {tp pos : Pos} {ds : List Da} (xs : List α) (em : α → Da) (g : α → Da) (n0 : Nat) (hn0 : n0 < xs.length) (hi : DI j S (.Name x tp) iter ds) (hz : xs.length ≤ 1000000) (ok : BlkOk j.X.N j.X.env.scope scope [(x, i)])
    (hl : ∀ (s : Shared) (Hb : Hp) (C : Addr) (cl : List (Str × Addr)) (fp : List Addr) (xb : Value → Shared → Prop), LM (blkX j.X s Hb scope cl C fp xb) x i)
    (he : ∀ (F1 : Hp) (s : Shared) (Hb : Hp) (C : Addr) (cl : List (Str × Addr)) (fp : List Addr) (xb : Value → Shared → Prop) (tk) (po) (k : Nat) (a : α), k < n0 → xs[k]? = some a → DE (jBX j F1 s Hb scope C cl fp xb tk po) (S.set i (.da (em a))) elt (g a))
    (hx : ∀ (F1 : Hp) (s : Shared) (Hb : Hp) (C : Addr) (cl : List (Str × Addr)) (fp : List Addr) (xb : Value → Shared → Prop) (tk) (po) (a : α), xs[n0]? = some a → DN (jBX j F1 s Hb scope C cl fp xb tk po) (S.set i (.da (em a))) elt)
    (hN : j.X.N.Nodup) (hds : ds = xs.map em := by rfl) (hc : j.X.calm = true := by rfl) (hst : j.X.stack = j.X.env :: j.X.outer := by rfl) (hfr : j.X.env.frame = some j.X.env.locals := by rfl) (hs : ∀ x, foldedSetIterable iter j.X.env x = pure x := by intro _; rfl) : DN j S (.ListComp elt [⟨.Name x tp, iter, [], 0⟩] scope pos) := fun σ F H rp QQ => by
  subst hds
  refine wp_pe (pe_lcX (WK := WKj j) (wi := wpI j.X (.Name x tp) iter) (g := fun v σ H Q => ∀ (s : Shared) (Hb : Hp) (C : Addr) (cl : List (Str × Addr)) (fp : List Addr) (xb : Value → Shared → Prop), wpG (blkX j.X s Hb scope cl C fp xb) (.Name x tp) v σ H Q)
    (te := fun σ H Q => ∀ (s : Shared) (Hb : Hp) (C : Addr) (cl : List (Str × Addr)) (fp : List Addr) (xb : Value → Shared → Prop), L2.Takes (blkX j.X s Hb scope cl C fp xb) (fun c d _ H => WKj j c d H) → PassesOwn (model j.X.prog j.X.w) j.X.A (compEnvC scope cl C j.X.env) xb → wpE (blkX j.X s Hb scope cl C fp xb) elt σ H Q)
    hc hN hst hfr (j.tk.imp fun c d σ H ⟨C, hC, e1, e2, sm⟩ => by subst e1 e2; exact j.ex C hC H sm) pi_wp ok (fun s H C cl fp xb => ⟨fun pins s' σ H' v u Q I r h => h s H C cl fp xb pins s' u I r⟩) (fun s H C cl fp xb tk po => ⟨fun pins s' σ H' Q I h => h s H C cl fp xb tk po pins s' I⟩) hs) ?_
  refine hi σ F H rp _ fun Jt F1 H1 s1 ⟨G, Y, W, hG, hY⟩ => fun D hD => ?_
  rw [List.length_map] at W hY
  have rp1 := rp.step s1
  have hFD : F1 D = none := s1.e.free hD
  have hf0 := rp1.f0
  refine lc_it (g := fun v σ H Q => ∀ (s : Shared) (Hb : Hp) (C : Addr) (cl : List (Str × Addr)) (fp : List Addr) (xb : Value → Shared → Prop), wpG (blkX j.X s Hb scope cl C fp xb) (.Name x tp) v σ H Q) (tt := tYes)
    (te := fun σ H Q => ∀ (s : Shared) (Hb : Hp) (C : Addr) (cl : List (Str × Addr)) (fp : List Addr) (xb : Value → Shared → Prop), L2.Takes (blkX j.X s Hb scope cl C fp xb) (fun c d _ H => WKj j c d H) → PassesOwn (model j.X.prog j.X.w) j.X.A (compEnvC scope cl C j.X.env) xb → wpE (blkX j.X s Hb scope cl C fp xb) elt σ H Q)
    (σ := σ) W (vs := [i]) (Qd := QQ (.ref D)) (fun n H' => n ≤ n0 ∧ ∃ F' acc, Same F1 F' ∧ Same F' H' ∧ F' D = none ∧ Same H1 H' ∧ (∀ a o, F' a = some o → F1 a = some o ∨ H1 a = none) ∧ H' D = some (.lst acc) ∧ Ats j.X.K F' ((xs.take n).map g) acc)
    ⟨Nat.zero_le _, F1, [], fun _ _ z => z, fun a o z => by rw [upd_ne (ne_of_none (s1.e _ _ z) hD)]; exact s1.e _ _ z, hFD, fun a o z => by rw [upd_ne (ne_of_none z hD)]; exact z, fun _ _ z => .inl z, upd_same, rfl⟩
    (fun n H' _ ⟨_, F', acc, a, b, _⟩ => hG F' H' a b) ?_ (fun H' ⟨hle, _⟩ => absurd hle (by omega))
  rintro n v H' H3 hn ⟨hle, F', acc, a1, a2, a3, a4, a5, a6, a7⟩ y
  obtain ⟨d, F3, hd, s3, ad⟩ := hY n F' H' v H3 hn a1 a2 y
  rw [List.getElem?_map, List.getElem?_eq_getElem hn] at hd
  cases hd
  have hm : xs[n]? = some xs[n] := List.getElem?_eq_getElem hn
  have rpw : Rp j (S.set i .un) (σ.set i none) F3 H3 := by
    have st : Stp F1 H1 F3 H3 := ⟨a1.trans s3.f, s3.e, a4.trans s3.h, fun a o q => by
      rcases s3.new a o q with q | q
      · exact a5 a o q
      · exact .inr (a4.free q)⟩
    exact (rp1.step st).setUn
  have e13 : Same F1 F3 := a1.trans s3.f
  have hF3 : F3 D = none := by
    cases z : F3 D with
    | none => rfl
    | some o =>
      rcases s3.new D o z with z | z
      · rw [a3] at z; cases z
      · rw [a6] at z; cases z
  intro s Hb C cl fp xb
  -- the target needs no wish
  have tg : ∀ (tkq : True), wpG (blkX j.X s Hb scope cl C fp xb) (.Name x tp) v (σ.set i none) H3 (fun σ2 H2 => H2 = H3 ∧ σ2 = (σ.set i none).set i (some v)) := fun _ => by
    have l := hl s Hb C cl fp xb
    exact wp_pg (pg_name l.nd l.N l.l l.f) ⟨rfl, rfl⟩
  refine fun pins s5 u I r => thn (tg trivial pins s5 u I r) fun _ s6 ⟨σ2, H2, I2, e1, e2⟩ => ?_
  subst e1 e2
  refine ⟨_, _, I2, ?_, ?_⟩
  · show ((σ.set i none).set i (some v)).set i none = σ.set i none
    rw [List.set_set, List.set_set]
  dsimp only [tYes]
  rw [if_pos rfl]

  intro s7 Hb7 C7 cl7 fp7 xb7 tk7 po7
  have rp2 : Rp (jBX j F1 s7 Hb7 scope C7 cl7 fp7 xb7 tk7 po7) (S.set i (.da (em xs[n]))) ((σ.set i none).set i (some v)) F3 H2 := by
    have h1 := (rp_blkX (tk := tk7) (po := po7) rpw e13 hf0).setDa (i := i) (d := em xs[n]) (v := v) ad
    rw [List.set_set] at h1
    exact h1
  by_cases hlast : n = n0
  · subst hlast
    exact hx F1 s7 Hb7 C7 cl7 fp7 xb7 tk7 po7 xs[n] hm _ F3 H2 rp2 _
  · refine he F1 s7 Hb7 C7 cl7 fp7 xb7 tk7 po7 n xs[n] (by omega) hm _ F3 H2 rp2 _ fun u5 F5 H5 s8 a8 => ?_
    have hD5 : H5 D = some (.lst acc) := s8.h _ _ (s3.h _ _ a6)
    have hF5 : F5 D = none := by
      cases z : F5 D with
      | none => rfl
      | some o =>
        rcases s8.new D o z with z | z
        · rw [hF3] at z; cases z
        · rw [s3.h _ _ a6] at z; cases z
    have hlen : acc.length = n := by rw [a7.length, List.length_map, List.length_take]; omega
    refine ⟨acc, hD5, sz_lt (by omega), by omega, F5, acc ++ [u5], e13.trans s8.f, fun a o q => ?_, hF5, fun a o q => ?_, fun a o q => ?_, upd_same, ?_⟩
    · rw [upd_ne (ne_of_none q hF5)]
      exact s8.e _ _ q
    · rw [upd_ne (ne_of_none q hD)]
      exact s8.h _ _ (s3.h _ _ (a4 _ _ q))
    · rcases s8.new a o q with q | q
      · rcases s3.new a o q with q | q
        · exact a5 a o q
        · exact .inr (a4.free q)
      · exact .inr (a4.free (s3.h.free q))
    · rw [List.take_succ, hm, List.map_append]
      exact (Ats.mono (s3.f.trans s8.f) _ _ a7).append (Ats.one a8)
end
end DL
/-! MS: sets in their order, in plain Lean. -/
namespace DL
/-- the number so far, n - 1 ahead of all -/
def numP (ns : List Int) (n : Nat) : Nat → Int
  | 0 => 0
  | i + 1 => 2 * numP ns n i + ((if decide (((n : Int) - 1 + (i : Nat) * (-1)) ∈ ns) = true then 1 else 0) + numP ns n i) % 2
def setL (n : Nat) (m : Int) : List Int := ((List.range n).filter fun (t : Nat) => decide (m / 2 ^ t % 4 ∈ ([1, 2] : List Int))).map fun (t : Nat) => (t : Int)
def diffL (n : Nat) (a b : List Int) : List Int := ((List.range n).filter fun (t : Nat) => !decide (decide ((t : Int) ∈ a) = decide ((t : Int) ∈ b))).map fun (t : Nat) => (t : Int)
/-- whether the thing t is in the set of the number m -/
def gry (m : Int) (t : Nat) : Bool := decide (m / 2 ^ t % 4 ∈ ([1, 2] : List Int))
theorem gry_iff {m : Int} {t : Nat} : gry m t = true ↔ m / 2 ^ t % 4 = 1 ∨ m / 2 ^ t % 4 = 2 := by
  unfold gry
  rw [decide_eq_true_eq]
  simp
theorem mem_setL {n : Nat} {m : Int} {t : Nat} : (t : Int) ∈ setL n m ↔ t < n ∧ gry m t = true := by
  unfold setL
  constructor
  · intro h
    obtain ⟨u, hu, e⟩ := List.mem_map.mp h
    have : u = t := by omega
    subst this
    obtain ⟨h1, h2⟩ := List.mem_filter.mp hu
    exact ⟨List.mem_range.mp h1, h2⟩
  · rintro ⟨h1, h2⟩
    exact List.mem_map.mpr ⟨t, List.mem_filter.mpr ⟨List.mem_range.mpr h1, h2⟩, rfl⟩
theorem dec_set {n : Nat} {m : Int} {u : Nat} (hu : u < n) : decide ((u : Int) ∈ setL n m) = gry m u := by
  cases hg : gry m u with
  | true => exact decide_eq_true (mem_setL.mpr ⟨hu, hg⟩)
  | false =>
    refine decide_eq_false fun h => ?_
    rw [(mem_setL.mp h).2] at hg
    cases hg
theorem setL_range {n : Nat} {m i : Int} (h : i ∈ setL n m) : 0 ≤ i ∧ i < n := by
  unfold setL at h
  obtain ⟨u, hu, e⟩ := List.mem_map.mp h
  have := List.mem_range.mp (List.mem_filter.mp hu).1
  omega
theorem setL_sorted (n : Nat) (m : Int) : (setL n m).Pairwise (· < ·) := by
  unfold setL
  refine List.Pairwise.map _ (R := (· < ·)) (fun a b h => by omega) ?_
  exact (List.pairwise_lt_range (n := n)).filter _
theorem setL_length (n : Nat) (m : Int) : (setL n m).length ≤ n := by
  unfold setL
  rw [List.length_map]
  have := List.length_filter_le (fun (t : Nat) => decide (m / 2 ^ t % 4 ∈ ([1, 2] : List Int))) (List.range n)
  rwa [List.length_range] at this
theorem p2 (t : Nat) : (0 : Int) < 2 ^ t := Int.pow_pos (by decide)
theorem half (m : Int) (t : Nat) : m / 2 ^ (t + 1) = m / 2 ^ t / 2 := by
  rw [Int.pow_succ, Int.ediv_ediv_of_nonneg (Int.le_of_lt (p2 t))]
theorem gry_bits (m : Int) (t : Nat) : gry m t = true ↔ m / 2 ^ t % 2 ≠ m / 2 ^ (t + 1) % 2 := by
  rw [gry_iff, half]
  generalize m / 2 ^ t = a
  omega
theorem div_top {m : Int} {n : Nat} (h0 : 0 ≤ m) (h1 : m < 2 ^ n) : m / 2 ^ n = 0 := Int.ediv_eq_zero_of_lt h0 h1
theorem numP_setL {n : Nat} {m : Int} (h0 : 0 ≤ m) (h1 : m < 2 ^ n) : ∀ i, i ≤ n → numP (setL n m) n i = m / 2 ^ (n - i)
  | 0, _ => (div_top h0 h1).symm
  | i + 1, hi => by
    have ih := numP_setL h0 h1 i (by omega)
    show 2 * numP (setL n m) n i + ((if decide (((n : Int) - 1 + (i : Nat) * (-1)) ∈ setL n m) = true then 1 else 0) + numP (setL n m) n i) % 2 = _
    rw [ih]
    have et : ((n : Int) - 1 + (i : Nat) * (-1)) = ((n - (i + 1) : Nat) : Int) := by omega
    have hs : n - i = n - (i + 1) + 1 := by omega
    rw [et, hs]
    generalize hu : n - (i + 1) = u
    have hm : decide (((u : Nat) : Int) ∈ setL n m) = gry m u := dec_set (by omega)
    rw [hm]
    have hb := gry_bits m u
    rw [half] at hb ⊢
    generalize m / 2 ^ u = a at hb ⊢
    cases hg : gry m u with
    | true =>
      have := hb.mp hg
      rw [if_pos rfl]
      omega
    | false =>
      have : ¬ (a % 2 ≠ a / 2 % 2) := fun h => by
        rw [hb.mpr h] at hg
        cases hg
      rw [if_neg Bool.false_ne_true]
      omega
theorem num_set {n : Nat} {m : Int} (h0 : 0 ≤ m) (h1 : m < 2 ^ n) : numP (setL n m) n n = m := by
  rw [numP_setL h0 h1 n (Nat.le_refl n), Nat.sub_self]
  simp
/-! the number by the order -/
def ordT (s : Int × Int) (t : Int) : Int × Int := (s.1 + s.2 * (2 ^ (t + 1).toNat - 1), -s.2)
def ordP (l : List Int) : Int × Int := l.foldl ordT (0, 1)
def ordS (ns : List Int) : Int := (ordP ns.reverse).1
def stT (m : Int) (t : Nat) : Int × Int := if m / 2 ^ t % 2 = 0 then (m / 2 ^ t * 2 ^ t, 1) else ((m / 2 ^ t + 1) * 2 ^ t - 1, -1)
theorem foldl_filt {α β : Type} (f : β → α → β) (p : α → Bool) : ∀ (l : List α) (b : β), (l.filter p).foldl f b = l.foldl (fun b a => if p a = true then f b a else b) b
  | [], _ => rfl
  | a :: l, b => by
    rw [List.filter_cons]
    by_cases h : p a = true
    · rw [if_pos h, List.foldl_cons, List.foldl_cons, if_pos h, foldl_filt f p l]
    · rw [if_neg h, List.foldl_cons, if_neg h, foldl_filt f p l]
theorem st_step (m : Int) (u : Nat) : (if gry m u = true then ordT (stT m (u + 1)) ((u : Nat) : Int) else stT m (u + 1)) = stT m u := by
  have hb := gry_bits m u
  have hp := p2 u
  have e2 : ((u : Int) + 1).toNat = u + 1 := by omega
  unfold stT ordT
  rw [half] at hb
  rw [half, e2, Int.pow_succ]
  generalize m / 2 ^ u = a at hb ⊢
  generalize (2 : Int) ^ u = p at hp ⊢
  cases hg : gry m u with
  | true =>
    have hd := hb.mp hg
    rw [if_pos rfl]
    by_cases c : a / 2 % 2 = 0
    · have c2 : ¬ a % 2 = 0 := by omega
      rw [if_pos c, if_neg c2]
      have ha : a = 2 * (a / 2) + 1 := by omega
      refine Prod.ext ?_ rfl
      show a / 2 * (p * 2) + 1 * (p * 2 - 1) = (a + 1) * p - 1
      generalize a / 2 = q at ha
      subst ha
      rw [Int.one_mul, show (2 * q + 1 + 1) = q * 2 + 2 by omega, Int.add_mul, Int.mul_comm p 2, ← Int.mul_assoc]
      omega
    · have c2 : a % 2 = 0 := by omega
      rw [if_neg c, if_pos c2]
      have ha : a = 2 * (a / 2) := by omega
      refine Prod.ext ?_ rfl
      show (a / 2 + 1) * (p * 2) - 1 + -1 * (p * 2 - 1) = a * p
      generalize a / 2 = q at ha
      subst ha
      rw [Int.add_mul, Int.one_mul, Int.mul_comm p 2, ← Int.mul_assoc, Int.mul_comm 2 q]
      omega
  | false =>
    have hd : a % 2 = a / 2 % 2 := by
      by_cases h : a % 2 = a / 2 % 2
      · exact h
      · rw [hb.mpr h] at hg
        cases hg
    rw [if_neg Bool.false_ne_true]
    by_cases c : a / 2 % 2 = 0
    · have c2 : a % 2 = 0 := by omega
      rw [if_pos c, if_pos c2]
      have ha : a = 2 * (a / 2) := by omega
      refine Prod.ext ?_ rfl
      show a / 2 * (p * 2) = a * p
      generalize a / 2 = q at ha
      subst ha
      rw [Int.mul_comm p 2, ← Int.mul_assoc, Int.mul_comm 2 q]
    · have c2 : ¬ a % 2 = 0 := by omega
      rw [if_neg c, if_neg c2]
      have ha : a = 2 * (a / 2) + 1 := by omega
      refine Prod.ext ?_ rfl
      show (a / 2 + 1) * (p * 2) - 1 = (a + 1) * p - 1
      generalize a / 2 = q at ha
      subst ha
      rw [show (2 * q + 1 + 1) = (q + 1) * 2 by omega, Int.mul_comm p 2, ← Int.mul_assoc]
theorem ord_down (m : Int) : ∀ k : Nat, ((List.range k).reverse.foldl (fun b (u : Nat) => if gry m u = true then ordT b ((u : Nat) : Int) else b) (stT m k)) = stT m 0
  | 0 => rfl
  | k + 1 => by
    rw [List.range_succ, List.reverse_append]
    show (List.range k).reverse.foldl _ (if gry m k = true then ordT (stT m (k + 1)) ((k : Nat) : Int) else stT m (k + 1)) = _
    rw [st_step]
    exact ord_down m k
theorem ord_set {n : Nat} {m : Int} (h0 : 0 ≤ m) (h1 : m < 2 ^ n) : ordS (setL n m) = m := by
  have e : ordP (setL n m).reverse = stT m 0 := by
    unfold ordP setL
    rw [← List.map_reverse, List.foldl_map, ← List.filter_reverse]
    have ht : stT m n = (0, 1) := by
      unfold stT
      rw [div_top h0 h1]
      simp
    rw [← ht, foldl_filt]
    exact ord_down m n
  unfold ordS
  rw [e]
  unfold stT
  simp only [Int.pow_zero, Int.ediv_one, Int.mul_one]
  split
  · rfl
  · show m + 1 - 1 = m
    omega
theorem ord_sign : ∀ (l : List Int) (s : Int × Int), s.2 = 1 ∨ s.2 = -1 → (l.foldl ordT s).2 = 1 ∨ (l.foldl ordT s).2 = -1
  | [], s, h => h
  | t :: l, s, h => ord_sign l (ordT s t) (by show -s.2 = 1 ∨ -s.2 = -1; omega)
/-! from each to the next -/
theorem gry_succ (q : Int) (b : Int) (hb : 0 ≤ b ∧ b < 2) (t : Nat) : gry (2 * q + b) (t + 1) = gry q t := by
  have e : (2 * q + b) / 2 ^ (t + 1) = q / 2 ^ t := by
    rw [Int.pow_succ, Int.mul_comm (2 ^ t) 2, ← Int.ediv_ediv_of_nonneg (by decide : (0 : Int) ≤ 2)]
    congr 1
    omega
  unfold gry
  rw [e]
theorem gry_zero (m : Int) : gry m 0 = decide (m % 4 = 1 ∨ m % 4 = 2) := by
  unfold gry
  rw [Int.pow_zero, Int.ediv_one]
  simp
theorem one_bit : ∀ (n : Nat) (m : Int), 0 ≤ m → m < 2 ^ (n + 1) → ∃ t, (List.range (n + 1)).filter (fun u => !decide (gry m u = gry ((m + 1) % 2 ^ (n + 1)) u)) = [t]
  | 0, m, h0, h1 => by
    have : m = 0 ∨ m = 1 := by
      have : (2 : Int) ^ (0 + 1) = 2 := rfl
      omega
    rcases this with rfl | rfl
    · exact ⟨0, by decide⟩
    · exact ⟨0, by decide⟩
  | n + 1, m, h0, h1 => by
    have ep : (2 : Int) ^ (n + 1 + 1) = 2 * 2 ^ (n + 1) := by rw [Int.pow_succ, Int.mul_comm]
    have hp := p2 (n + 1)
    rw [ep] at h1 ⊢
    rw [List.range_succ_eq_map, List.filter_cons, List.filter_map]
    by_cases hm : m % 2 = 0
    · -- the last thing changes
      have e1 : (m + 1) % (2 * 2 ^ (n + 1)) = m + 1 := Int.emod_eq_of_lt (by omega) (by omega)
      rw [e1]
      have hq : m = 2 * (m / 2) + 0 := by omega
      have hq1 : m + 1 = 2 * (m / 2) + 1 := by omega
      have g0 : gry m 0 ≠ gry (m + 1) 0 := by
        rw [gry_zero, gry_zero]
        intro h
        have h := decide_eq_decide.mp h
        omega
      have z : (!decide (gry m 0 = gry (m + 1) 0)) = true := by simp [g0]
      rw [if_pos z]
      refine ⟨0, ?_⟩
      have em : ((List.range (n + 1)).filter ((fun u => !decide (gry m u = gry (m + 1) u)) ∘ Nat.succ)) = [] := by
        rw [List.filter_eq_nil_iff]
        intro t _
        have a1 : gry m (t + 1) = gry (m / 2) t := by
          have := gry_succ (m / 2) 0 (by omega) t
          rwa [← hq] at this
        have a2 : gry (m + 1) (t + 1) = gry (m / 2) t := by
          have := gry_succ (m / 2) 1 (by omega) t
          rwa [← hq1] at this
        show ¬ (!decide (gry m (t + 1) = gry (m + 1) (t + 1))) = true
        rw [a1, a2]
        simp
      rw [em]
      rfl
    · -- as the halves do
      obtain ⟨t, ht⟩ := one_bit n (m / 2) (by omega) (by omega)
      have hq : m = 2 * (m / 2) + 1 := by omega
      have e2 : (m + 1) % (2 * 2 ^ (n + 1)) = 2 * ((m / 2 + 1) % 2 ^ (n + 1)) + 0 := by
        rw [show m + 1 = 2 * (m / 2 + 1) by omega, Int.mul_emod_mul_of_pos _ _ (by decide)]
        omega
      have g0 : gry m 0 = gry ((m + 1) % (2 * 2 ^ (n + 1))) 0 := by
        rw [gry_zero, gry_zero]
        have hev : (2 * (2 : Int) ^ (n + 1)) = 4 * 2 ^ n := by rw [Int.pow_succ]; omega
        have : (m + 1) % (2 * 2 ^ (n + 1)) % 4 = (m + 1) % 4 := by
          rw [hev]
          exact Int.emod_emod_of_dvd _ ⟨2 ^ n, rfl⟩
        rw [this]
        apply decide_eq_decide.mpr
        omega
      have z : (!decide (gry m 0 = gry ((m + 1) % (2 * 2 ^ (n + 1))) 0)) = false := by simp [g0]
      rw [z, if_neg Bool.false_ne_true]
      refine ⟨t + 1, ?_⟩
      have em : ((fun u => !decide (gry m u = gry ((m + 1) % (2 * 2 ^ (n + 1))) u)) ∘ Nat.succ) = fun u => !decide (gry (m / 2) u = gry ((m / 2 + 1) % 2 ^ (n + 1)) u) := by
        funext u
        show (!decide (gry m (u + 1) = gry ((m + 1) % (2 * 2 ^ (n + 1))) (u + 1))) = _
        have a1 : gry m (u + 1) = gry (m / 2) u := by
          have := gry_succ (m / 2) 1 (by omega) u
          rwa [← hq] at this
        rw [a1, e2, gry_succ _ 0 (by omega) u]
      rw [em, ht]
      rfl
theorem diff_one {n : Nat} {m : Int} (hn : 1 ≤ n) (h0 : 0 ≤ m) (h1 : m < 2 ^ n) : ∃ t : Int, diffL n (setL n m) (setL n ((m + 1) % 2 ^ n)) = [t] := by
  obtain ⟨k, rfl⟩ : ∃ k, n = k + 1 := ⟨n - 1, by omega⟩
  obtain ⟨t, ht⟩ := one_bit k m h0 h1
  refine ⟨(t : Int), ?_⟩
  unfold diffL
  have e : (List.range (k + 1)).filter (fun (t : Nat) => !decide (decide ((t : Int) ∈ setL (k + 1) m) = decide ((t : Int) ∈ setL (k + 1) ((m + 1) % 2 ^ (k + 1))))) = [t] := by
    rw [← ht]
    apply List.filter_congr
    intro u hu
    have hu := List.mem_range.mp hu
    have d : ∀ m', decide ((u : Int) ∈ setL (k + 1) m') = gry m' u := fun m' => dec_set hu
    rw [d, d]
  rw [e]
  rfl
/-! more things -/
theorem pow_le (n u : Nat) : (2 : Int) ^ n ≤ 2 ^ (n + u) := by
  induction u with
  | zero => exact Int.le_refl _
  | succ u ih =>
    have h := p2 (n + u)
    rw [← Nat.add_assoc, Int.pow_succ]
    omega
theorem setL_more {n n' : Nat} {m : Int} (h : n ≤ n') (h0 : 0 ≤ m) (h1 : m < 2 ^ n) : setL n' m = setL n m := by
  obtain ⟨k, rfl⟩ : ∃ k, n' = n + k := ⟨n' - n, by omega⟩
  unfold setL
  rw [List.range_add, List.filter_append]
  have e : ((List.range k).map (n + ·)).filter (fun (t : Nat) => decide (m / 2 ^ t % 4 ∈ ([1, 2] : List Int))) = [] := by
    rw [List.filter_eq_nil_iff]
    intro t ht
    obtain ⟨u, _, rfl⟩ := List.mem_map.mp ht
    have hlt : m < 2 ^ (n + u) := Int.lt_of_lt_of_le h1 (pow_le n u)
    rw [div_top h0 hlt]
    decide
  rw [e, List.append_nil]
end DL
/-! MP: picks in their order, in plain Lean. -/
namespace DL
/-- in how many ways -/
def bin : Nat → Nat → Nat
  | _, 0 => 1
  | 0, _ + 1 => 0
  | n + 1, k + 1 => bin n k + bin n (k + 1)
theorem bin_zero (n : Nat) : bin n 0 = 1 := by cases n <;> rfl
theorem bin_succ (n k : Nat) : bin (n + 1) (k + 1) = bin n k + bin n (k + 1) := rfl
theorem bin_gt : ∀ {n k : Nat}, n < k → bin n k = 0
  | 0, k + 1, _ => rfl
  | n + 1, k + 1, h => by rw [bin_succ, bin_gt (show n < k by omega), bin_gt (show n < k + 1 by omega)]
theorem bin_self : ∀ n : Nat, bin n n = 1
  | 0 => rfl
  | n + 1 => by rw [bin_succ, bin_self n, bin_gt (Nat.lt_succ_self n)]
theorem bin_pos : ∀ {n k : Nat}, k ≤ n → 1 ≤ bin n k
  | n, 0, _ => by rw [bin_zero]; exact Nat.le_refl 1
  | n + 1, k + 1, h => by
    rw [bin_succ]
    have := bin_pos (show k ≤ n by omega)
    omega
theorem bin_mono (n k : Nat) : bin n k ≤ bin (n + 1) k := by
  cases k with
  | zero => rw [bin_zero, bin_zero]; exact Nat.le_refl 1
  | succ k => rw [bin_succ]; omega
theorem bin_mono' {n n' : Nat} (k : Nat) (h : n ≤ n') : bin n k ≤ bin n' k := by
  induction h with
  | refl => exact Nat.le_refl _
  | step _ ih => exact Nat.le_trans ih (bin_mono _ k)
theorem bin_two {n k : Nat} (h0 : 0 < k) (h1 : k < n) : 2 ≤ bin n k := by
  obtain ⟨k, rfl⟩ : ∃ j, k = j + 1 := ⟨k - 1, by omega⟩
  obtain ⟨n, rfl⟩ : ∃ j, n = j + 1 := ⟨n - 1, by omega⟩
  rw [bin_succ]
  have a := bin_pos (show k ≤ n by omega)
  have b := bin_pos (show k + 1 ≤ n by omega)
  omega
/-- the product rule -/
theorem bin_mul : ∀ n k : Nat, bin n (k + 1) * (k + 1) + bin n k * k = bin n k * n
  | 0, 0 => rfl
  | 0, k + 1 => by rw [bin_gt (show 0 < k + 1 + 1 by omega), bin_gt (show 0 < k + 1 by omega)]; simp
  | n + 1, 0 => by
    have h := bin_mul n 0
    rw [bin_zero] at h ⊢
    rw [bin_succ, bin_zero]
    omega
  | n + 1, k + 1 => by
    have h1 := bin_mul n (k + 1)
    have h2 := bin_mul n k
    rw [bin_succ n (k + 1), bin_succ n k]
    generalize bin n (k + 1 + 1) = a at h1 ⊢
    generalize bin n (k + 1) = b at h1 h2 ⊢
    generalize bin n k = c at h2 ⊢
    simp only [Nat.add_mul, Nat.mul_add, Nat.mul_one, Nat.one_mul] at h1 h2 ⊢
    omega
/-- the greatest thing, not above left, ahead of which are no more than m -/
def fnd (few m : Nat) : Nat → Nat
  | 0 => 0
  | l + 1 => if m < bin (l + 1) few then fnd few m l else l + 1
theorem fnd_le (few m : Nat) : ∀ l, fnd few m l ≤ l
  | 0 => Nat.le_refl 0
  | l + 1 => by
    unfold fnd
    split
    · exact Nat.le_succ_of_le (fnd_le few m l)
    · exact Nat.le_refl _
theorem fnd_bin {few m : Nat} (hf : 0 < few) : ∀ l, bin (fnd few m l) few ≤ m
  | 0 => by
    show bin 0 few ≤ m
    rw [bin_gt hf]
    exact Nat.zero_le _
  | l + 1 => by
    unfold fnd
    split
    · exact fnd_bin hf l
    · omega
theorem fnd_next {few m : Nat} : ∀ l, m < bin l few → 0 < few → fnd few m l < l ∧ m < bin (fnd few m l + 1) few
  | 0, h, hf => by rw [bin_gt hf] at h; omega
  | l + 1, h, hf => by
    unfold fnd
    rw [if_pos h]
    by_cases h2 : m < bin l few
    · have := fnd_next l h2 hf
      exact ⟨by omega, this.2⟩
    · have e : fnd few m l = l := by
        cases l with
        | zero => rfl
        | succ l => unfold fnd; rw [if_neg h2]
      rw [e]
      exact ⟨Nat.lt_succ_self l, h⟩
/-- the pick of a number, from the greatest thing on -/
def pkD : Nat → Nat → Nat → List Nat
  | 0, _, _ => []
  | k + 1, left, m => fnd (k + 1) m left :: pkD k (fnd (k + 1) m left) (bin (fnd (k + 1) m left + 1) (k + 1) - 1 - m)
/-- the number of a pick, told from the greatest thing on -/
def rkD : List Nat → Nat
  | [] => 0
  | l :: r => bin (l + 1) (r.length + 1) - 1 - rkD r
def Desc (n : Nat) : List Nat → Prop
  | [] => True
  | l :: r => l < n ∧ Desc l r
theorem pkD_length : ∀ k left m, (pkD k left m).length = k
  | 0, _, _ => rfl
  | k + 1, left, m => by
    show (pkD k _ _).length + 1 = k + 1
    rw [pkD_length]
/-- what is left over is a number of the smaller picks -/
theorem rest_lt {k n m : Nat} (h : m < bin n (k + 1)) : bin (fnd (k + 1) m n + 1) (k + 1) - 1 - m < bin (fnd (k + 1) m n) k := by
  obtain ⟨_, h2⟩ := fnd_next n h (Nat.succ_pos k)
  have h3 := fnd_bin (few := k + 1) (m := m) (Nat.succ_pos k) n
  rw [bin_succ] at h2 ⊢
  omega
theorem pkD_desc : ∀ (k n m : Nat), m < bin n k → Desc n (pkD k n m)
  | 0, _, _, _ => trivial
  | k + 1, n, m, h => ⟨(fnd_next n h (Nat.succ_pos k)).1, pkD_desc k _ _ (rest_lt h)⟩
theorem rkD_pkD : ∀ (k n m : Nat), m < bin n k → rkD (pkD k n m) = m
  | 0, n, m, h => by
    rw [bin_zero] at h
    show 0 = m
    omega
  | k + 1, n, m, h => by
    have ih := rkD_pkD k _ _ (rest_lt h)
    obtain ⟨_, h2⟩ := fnd_next n h (Nat.succ_pos k)
    show bin (fnd (k + 1) m n + 1) ((pkD k _ _).length + 1) - 1 - rkD (pkD k _ _) = m
    rw [pkD_length, ih]
    omega
theorem rkD_lt : ∀ (D : List Nat) (n : Nat), Desc n D → rkD D < bin n D.length
  | [], n, _ => by
    show 0 < bin n 0
    rw [bin_zero]
    exact Nat.one_pos
  | l :: r, n, ⟨h1, h2⟩ => by
    have ih := rkD_lt r l h2
    have h3 := bin_mono' (r.length + 1) (show l + 1 ≤ n by omega)
    have h4 := bin_succ l r.length
    show bin (l + 1) (r.length + 1) - 1 - rkD r < bin n (r.length + 1)
    omega
/-- one thing more: at first as without it -/
theorem pkD_below {k n m : Nat} (h : m < bin n (k + 1)) : pkD (k + 1) (n + 1) m = pkD (k + 1) n m := by
  have e : fnd (k + 1) m (n + 1) = fnd (k + 1) m n := by
    show (if m < bin (n + 1) (k + 1) then fnd (k + 1) m n else n + 1) = _
    rw [if_pos (Nat.lt_of_lt_of_le h (bin_mono n (k + 1)))]
  show fnd (k + 1) m (n + 1) :: pkD k (fnd (k + 1) m (n + 1)) (bin (fnd (k + 1) m (n + 1) + 1) (k + 1) - 1 - m) = _
  rw [e]
  rfl
theorem pkD_above {k n m : Nat} (h : m < bin (n + 1) (k + 1)) (h2 : bin n (k + 1) ≤ m) : pkD (k + 1) (n + 1) m = n :: pkD k n (bin (n + 1) (k + 1) - 1 - m) := by
  have e0 : fnd (k + 1) m n = n := by
    cases n with
    | zero => rfl
    | succ l => unfold fnd; rw [if_neg (by omega)]
  have e : fnd (k + 1) m (n + 1) = n := by
    show (if m < bin (n + 1) (k + 1) then fnd (k + 1) m n else n + 1) = _
    rw [if_pos h, e0]
  show fnd (k + 1) m (n + 1) :: pkD k (fnd (k + 1) m (n + 1)) (bin (fnd (k + 1) m (n + 1) + 1) (k + 1) - 1 - m) = _
  rw [e]
theorem pkD_more {k n n' m : Nat} (h : m < bin n k) (hn : n ≤ n') : pkD k n' m = pkD k n m := by
  cases k with
  | zero => rfl
  | succ k =>
    induction hn with
    | refl => rfl
    | step hle ih => rw [pkD_below (Nat.lt_of_lt_of_le h (bin_mono' (k + 1) hle)), ih]
/-- the first, the last -/
def down : Nat → List Nat
  | 0 => []
  | j + 1 => j :: down j
theorem down_length : ∀ j, (down j).length = j
  | 0 => rfl
  | j + 1 => by show (down j).length + 1 = j + 1; rw [down_length]
theorem mem_down {i : Nat} : ∀ {j : Nat}, i ∈ down j ↔ i < j
  | 0 => by simp [down]
  | j + 1 => by
    show i ∈ j :: down j ↔ _
    rw [List.mem_cons, mem_down]
    omega
theorem pkD_first : ∀ (k n : Nat), k ≤ n → pkD k n 0 = down k
  | 0, _, _ => rfl
  | k + 1, n, h => by
    -- all that are above k are too great
    have e : ∀ n, k ≤ n → fnd (k + 1) 0 n = k := by
      intro n hn
      induction hn with
      | refl =>
        cases k with
        | zero => rfl
        | succ l => unfold fnd; rw [if_neg (by rw [bin_gt (Nat.lt_succ_self _)]; omega)]
      | step hle ih =>
        show (if 0 < bin (_ + 1) (k + 1) then fnd (k + 1) 0 _ else _ + 1) = k
        rw [if_pos (show 0 < _ from bin_pos (Nat.succ_le_succ hle)), ih]
    show fnd (k + 1) 0 n :: pkD k (fnd (k + 1) 0 n) (bin (fnd (k + 1) 0 n + 1) (k + 1) - 1 - 0) = k :: down k
    rw [e n (by omega), bin_self]
    show k :: pkD k k 0 = _
    rw [pkD_first k k (Nat.le_refl k)]
theorem pkD_last {k n : Nat} (h : k ≤ n) : pkD (k + 1) (n + 1) (bin (n + 1) (k + 1) - 1) = n :: down k := by
  have h1 := bin_pos h
  have h2 := bin_succ n k
  rw [pkD_above (by omega) (by omega), show bin (n + 1) (k + 1) - 1 - (bin (n + 1) (k + 1) - 1) = 0 by omega, pkD_first k n h]
/-! one goes out and one comes in -/
def outL (a b : List Nat) : List Nat := a.filter fun x => !decide (x ∈ b)
def Swp (a b : List Nat) : Prop := (∃ x, outL a b = [x]) ∧ ∃ y, outL b a = [y]
theorem Swp.symm {a b : List Nat} (h : Swp a b) : Swp b a := ⟨h.2, h.1⟩
theorem desc_lt : ∀ {D : List Nat} {n : Nat}, Desc n D → ∀ x ∈ D, x < n
  | l :: r, n, ⟨h1, h2⟩, x, hx => by
    rcases List.mem_cons.mp hx with rfl | hx
    · exact h1
    · exact Nat.lt_trans (desc_lt h2 x hx) h1
theorem outL_cons {a b : List Nat} {c : Nat} (ha : ∀ x ∈ a, x < c) : outL (c :: a) (c :: b) = outL a b := by
  unfold outL
  rw [List.filter_cons, if_neg (by simp)]
  apply List.filter_congr
  intro x hx
  have := ha x hx
  have e : (x ∈ c :: b) ↔ x ∈ b := by
    rw [List.mem_cons]
    constructor
    · rintro (h | h)
      · omega
      · exact h
    · exact Or.inr
  rw [decide_eq_decide.mpr e]
theorem Swp.cons {a b : List Nat} {c : Nat} (ha : ∀ x ∈ a, x < c) (hb : ∀ x ∈ b, x < c) (h : Swp a b) : Swp (c :: a) (c :: b) := by
  unfold Swp
  rw [outL_cons ha, outL_cons hb]
  exact h
theorem outL_nil_of {a b : List Nat} (h : ∀ x ∈ a, x ∈ b) : outL a b = [] := by
  unfold outL
  rw [List.filter_eq_nil_iff]
  intro x hx
  simp [h x hx]
theorem outL_one {a b : List Nat} {c : Nat} (h : ∀ x ∈ a, x ∈ b) (hc : c ∉ b) : outL (c :: a) b = [c] := by
  unfold outL
  rw [List.filter_cons, if_pos (by simp [hc])]
  have := outL_nil_of h
  unfold outL at this
  rw [this]
theorem swp_next : ∀ (n k m : Nat), m + 1 < bin n k → Swp (pkD k n m) (pkD k n (m + 1))
  | n, 0, m, h => by rw [bin_zero] at h; omega
  | 0, k + 1, m, h => by rw [bin_gt (Nat.succ_pos k)] at h; omega
  | n + 1, k + 1, m, h => by
    have hb := bin_succ n k
    by_cases h1 : m + 1 < bin n (k + 1)
    · rw [pkD_below h1, pkD_below (by omega)]
      exact swp_next n (k + 1) m h1
    · by_cases h2 : bin n (k + 1) ≤ m
      · rw [pkD_above (by omega) h2, pkD_above h (by omega)]
        have e : bin (n + 1) (k + 1) - 1 - m = (bin (n + 1) (k + 1) - 1 - (m + 1)) + 1 := by omega
        rw [e]
        have h3 : bin (n + 1) (k + 1) - 1 - (m + 1) + 1 < bin n k := by omega
        exact (Swp.cons (desc_lt (pkD_desc k n _ (by omega))) (desc_lt (pkD_desc k n _ h3)) (swp_next n k _ h3)).symm
      · -- from the last without the greatest thing to the first with it
        have e : m = bin n (k + 1) - 1 := by omega
        have hpos : 0 < bin n (k + 1) := by omega
        have hkn : k + 1 ≤ n := by
          by_cases c : k + 1 ≤ n
          · exact c
          · rw [bin_gt (by omega)] at hpos; omega
        obtain ⟨n, rfl⟩ : ∃ j, n = j + 1 := ⟨n - 1, by omega⟩
        rw [pkD_below (by omega), pkD_above h (by omega), e, pkD_last (by omega), show bin (n + 1 + 1) (k + 1) - 1 - (bin (n + 1) (k + 1) - 1 + 1) = bin (n + 1) k - 1 by omega]
        cases k with
        | zero =>
          show Swp [n] [n + 1]
          exact ⟨⟨n, outL_one (by simp) (by simp)⟩, ⟨n + 1, outL_one (by simp) (by simp)⟩⟩
        | succ k =>
          rw [pkD_last (by omega)]
          show Swp (n :: k :: down k) ((n + 1) :: n :: down k)
          refine ⟨⟨k, ?_⟩, ⟨n + 1, ?_⟩⟩
          · unfold outL
            rw [List.filter_cons, if_neg (by simp)]
            exact outL_one (fun x hx => by simp [hx]) (by
              simp only [List.mem_cons, mem_down]
              omega)
          · refine outL_one (fun x hx => ?_) ?_
            · rcases List.mem_cons.mp hx with rfl | hx
              · simp
              · simp [hx]
            · simp only [List.mem_cons, mem_down]
              omega
theorem swp_round {n k : Nat} (h : k < n) : Swp (pkD (k + 1) (n + 1) (bin (n + 1) (k + 1) - 1)) (pkD (k + 1) (n + 1) 0) := by
  rw [pkD_last (by omega), pkD_first (k + 1) (n + 1) (by omega)]
  show Swp (n :: down k) (k :: down k)
  refine ⟨⟨n, outL_one (fun x hx => by simp [hx]) ?_⟩, ⟨k, outL_one (fun x hx => by simp [hx]) ?_⟩⟩
  · simp only [List.mem_cons, mem_down]
    omega
  · simp only [List.mem_cons, mem_down]
    omega
/-- from each to the next, round the end -/
theorem swp_all {n k m : Nat} (h0 : 0 < k) (h1 : k < n) (h : m < bin n k) : Swp (pkD k n m) (pkD k n ((m + 1) % bin n k)) := by
  obtain ⟨k, rfl⟩ : ∃ j, k = j + 1 := ⟨k - 1, by omega⟩
  obtain ⟨n, rfl⟩ : ∃ j, n = j + 1 := ⟨n - 1, by omega⟩
  by_cases c : m + 1 < bin (n + 1) (k + 1)
  · rw [Nat.mod_eq_of_lt c]
    exact swp_next _ _ _ c
  · have e : m = bin (n + 1) (k + 1) - 1 := by omega
    have e2 : m + 1 = bin (n + 1) (k + 1) := by omega
    rw [e2, Nat.mod_self, e]
    exact swp_round (by omega)
end DL
/-! M13: texts of picks, in plain Lean. -/
namespace DL
open PySem PySem.Spec PyProof.Rows L2 TL
/-! ### pieces -/
theorem spl_mem (S : List Nat) : ∀ (k : Nat) (acc l : List Nat), ∀ p ∈ spl S k acc l, ∀ c ∈ p, c ∈ acc ∨ c ∈ l
  | _, acc, [], p, hp, c, hc => by
    unfold spl at hp
    rw [List.mem_singleton] at hp
    subst hp
    exact .inl hc
  | 0, acc, d :: r, p, hp, c, hc => by
    unfold spl at hp
    split at hp
    · rcases List.mem_cons.mp hp with rfl | hp
      · exact .inl hc
      · rcases spl_mem S _ _ _ p hp c hc with h | h
        · cases h
        · exact .inr (List.mem_cons_of_mem _ h)
    · rcases spl_mem S _ _ _ p hp c hc with h | h
      · rcases List.mem_append.mp h with h | h
        · exact .inl h
        · exact .inr (by rw [List.mem_singleton] at h; subst h; exact List.mem_cons_self)
      · exact .inr (List.mem_cons_of_mem _ h)
  | k + 1, acc, _ :: r, p, hp, c, hc => by
    unfold spl at hp
    rcases spl_mem S k acc r p hp c hc with h | h
    · exact .inl h
    · exact .inr (List.mem_cons_of_mem _ h)
theorem spl_len (S : List Nat) : ∀ (k : Nat) (acc l : List Nat), ((spl S k acc l).map List.length).sum ≤ acc.length + l.length
  | _, acc, [] => by
    unfold spl
    simp
  | 0, acc, d :: r => by
    unfold spl
    split
    · have := spl_len S (S.length - 1) [] r
      simp only [List.map_cons, List.sum_cons, List.length_cons, List.length_nil] at this ⊢
      omega
    · have := spl_len S 0 (acc ++ [d]) r
      simp only [List.length_append, List.length_cons, List.length_nil] at this ⊢
      omega
  | k + 1, acc, _ :: r => by
    unfold spl
    have := spl_len S k acc r
    simp only [List.length_cons]
    omega
theorem spl_ne (S : List Nat) : ∀ (k : Nat) (acc l : List Nat), spl S k acc l ≠ []
  | _, acc, [] => by unfold spl; simp
  | 0, acc, d :: r => by
    unfold spl
    split
    · simp
    · exact spl_ne S _ _ _
  | k + 1, acc, _ :: r => by
    unfold spl
    exact spl_ne S _ _ _
def blank : Str := " "
def figs : Str := "0123456789"
theorem tl_blank : tl blank = [32] := by decide +kernel
theorem blank_all : blank.cps.all (· < 256) = true := by decide +kernel
theorem split_tl (z : Str) : (Txt.split z blank).map tl = spl [32] 0 [] (tl z) := by
  have h := split_spl z blank (by rw [tl_blank]; simp) (kind_ok blank_all)
  rw [tl_blank] at h
  exact h
theorem split_ne (z : Str) : Txt.split z blank ≠ [] := fun e => by
  have h := split_tl z
  rw [e] at h
  exact spl_ne _ _ _ _ h.symm
theorem len_tl (z : Str) : z.length = (tl z).length := by
  show z.cps.size = _
  simp [tl]
theorem split_sum (z : Str) : ((Txt.split z blank).map (·.length)).sum ≤ z.length := by
  have h := spl_len [32] 0 [] (tl z)
  rw [← split_tl, List.map_map] at h
  have e : (Txt.split z blank).map (·.length) = (Txt.split z blank).map (List.length ∘ tl) := List.map_congr_left fun x _ => len_tl x
  rw [e, len_tl z]
  simpa using h
theorem mem_sum {l : List Nat} {a : Nat} (h : a ∈ l) : a ≤ l.sum := by
  induction l with
  | nil => cases h
  | cons b r ih =>
    rw [List.sum_cons]
    rcases List.mem_cons.mp h with rfl | h
    · omega
    · have := ih h
      omega
theorem split_len {z p : Str} (h : p ∈ Txt.split z blank) : p.length ≤ z.length :=
  Nat.le_trans (mem_sum (List.mem_map.mpr ⟨p, h, rfl⟩)) (split_sum z)
/-- all signs are signs -/
def okT (z : Str) : Prop := ∀ c ∈ tl z, c < 0x110000
theorem okT_str {z : Str} (h : okT z) : PyData.strOk z = true := by
  unfold PyData.strOk
  rw [← Array.all_toList]
  exact List.all_eq_true.mpr fun c hc => decide_eq_true (h c hc)
theorem okT_split {z p : Str} (hz : okT z) (h : p ∈ Txt.split z blank) : okT p := fun c hc => by
  have h1 : tl p ∈ spl [32] 0 [] (tl z) := by
    rw [← split_tl]
    exact List.mem_map.mpr ⟨p, h, rfl⟩
  rcases spl_mem _ _ _ _ _ h1 c hc with h | h
  · cases h
  · exact hz c h
theorem okT_app {x y : Str} (hx : okT x) (hy : okT y) : okT (x ++ y) := fun c hc => by
  rw [tl_append] at hc
  rcases List.mem_append.mp hc with h | h
  · exact hx c h
  · exact hy c h
theorem okT_cut {z : Str} {lo hi : Option Int} (hz : okT z) : okT (cutS z lo hi) := fun c hc =>
  hz c (List.mem_of_mem_drop (List.mem_of_mem_take hc))
theorem okT_dec {z : Str} (h : z.cps.toList.all (fun c => decide (c < 0x110000)) = true) : okT z := fun c hc => of_decide_eq_true (List.all_eq_true.mp h c hc)
theorem joinL_mem {S : List Nat} : ∀ {ps : List (List Nat)} {c : Nat}, c ∈ joinL S ps → c ∈ S ∨ ∃ p ∈ ps, c ∈ p
  | [], c, h => by
    unfold joinL at h
    cases h
  | [p], c, h => by
    unfold joinL at h
    exact .inr ⟨p, List.mem_cons_self, h⟩
  | p :: q :: r, c, h => by
    unfold joinL at h
    rcases List.mem_append.mp h with h | h
    · exact .inr ⟨p, List.mem_cons_self, h⟩
    · rcases List.mem_append.mp h with h | h
      · exact .inl h
      · rcases joinL_mem h with h | ⟨s, hs, h⟩
        · exact .inl h
        · exact .inr ⟨s, List.mem_cons_of_mem _ hs, h⟩
theorem okT_join {y : Str} {ps : List Str} (hy : okT y) (hp : ∀ p ∈ ps, okT p) : okT (Txt.join y ps) := fun c hc => by
  rw [join_eq, tl_join] at hc
  rcases joinL_mem hc with h | ⟨p, h1, h2⟩
  · exact hy c h
  · obtain ⟨q, hq, rfl⟩ := List.mem_map.mp h1
    exact hp q hq c h2
/-! ### a word -/
def lead (w : Str) : Bool := match tl w with
  | [] => false
  | c :: _ => decide ((⟨#[c]⟩ : Str) = "0") && !decide (w = "0")
def isNum (w : Str) : Bool := !(decide (w = "") || (!decide (Txt.stripChars w figs = "") || (decide (3 < (w.length : Int)) || lead w)))
def valI (w : Str) : Int := (tl w).foldl (fun a c => 10 * a + Txt.find figs ⟨#[c]⟩) 0
def lnum (w : Str) : Int := if (decide ((1 : Int) ≤ w.length) && decide ((w.length : Int) ≤ 3)) = true ∧ ((tl w).filter fun c => !decide (c ∈ tl figs)) = [] then (if lead w = true then -1 else valI w) else -1
/-! ### rising -/
def risN (m : Int) : List Int → Int → Bool
  | [], _ => true
  | i :: ds, a => (decide (a + 1 ≤ i) && decide (i ≤ m - 1)) && risN m ds i
def badK (ns : List Int) : List Nat := (List.range (ns.length - 1)).filter fun k => decide (ns.getD k 0 ≥ ns.getD (k + 1) 0)
theorem badK_cons (a b : Int) (r : List Int) : badK (a :: b :: r) = [] ↔ a < b ∧ badK (b :: r) = [] := by
  unfold badK
  simp only [List.filter_eq_nil_iff, List.mem_range, List.length_cons, decide_eq_true_eq]
  constructor
  · intro h
    refine ⟨?_, fun k hk => ?_⟩
    · have := h 0 (by omega)
      simp at this
      omega
    · have := h (k + 1) (by omega)
      simpa using this
  · rintro ⟨h1, h2⟩ k hk
    cases k with
    | zero => simp; omega
    | succ k =>
      have := h2 k (by omega)
      simpa using this
theorem ris_bad {m : Int} : ∀ {ns : List Int} {a : Int}, risN m ns a = (decide (∀ n ∈ ns, n < m) && decide (badK (a :: ns) = []))
  | [], a => by
    unfold risN badK
    simp
  | n :: r, a => by
    unfold risN
    rw [ris_bad (ns := r) (a := n)]
    have e := badK_cons a n r
    rw [Bool.eq_iff_iff]
    simp only [Bool.and_eq_true, decide_eq_true_eq, List.mem_cons, forall_eq_or_imp, e]
    constructor
    · rintro ⟨⟨h1, h2⟩, h3, h4⟩
      exact ⟨⟨by omega, h3⟩, by omega, h4⟩
    · rintro ⟨⟨h1, h2⟩, h3, h4⟩
      exact ⟨⟨by omega, by omega⟩, h2, h4⟩
def dueW (ws : List Str) : Option (List Int) := if ws.all isNum && risN 200 (ws.map valI) (-1) then some (ws.map valI) else none
def dueT (z : Str) : Option (List Int) := if z = "none" then some [] else dueW (Txt.split z blank)
end DL
/-! M13b: a word, in plain Lean. -/
namespace DL
open PySem PySem.Spec PyProof.Rows L2 TL PySem.Builtin.Str
theorem tl_inj1 {x y : Str} (h : tl x = tl y) : x = y := by
  have := map_tl_inj (l := [x]) (m := [y]) (by simpa using h)
  simpa using this
theorem tl_nil {x : Str} (h : tl x = []) : x = "" := tl_inj1 (by rw [h]; decide +kernel)
theorem figs_has (c : Nat) : figs.cps.contains c = decide (c ∈ tl figs) := by
  show figs.cps.contains c = decide (c ∈ figs.cps.toList)
  rw [Bool.eq_iff_iff, decide_eq_true_eq, Array.contains_iff_mem, Array.mem_toList_iff]
theorem tw_all {goes : Nat → Bool} : ∀ {l : List Nat}, (l.takeWhile goes).length = l.length → ∀ c ∈ l, goes c = true
  | [], _, c, h => by cases h
  | d :: r, e, c, h => by
    rw [List.takeWhile_cons] at e
    cases hd : goes d with
    | false => rw [hd] at e; simp at e
    | true =>
      rw [hd] at e
      rcases List.mem_cons.mp h with rfl | h
      · exact hd
      · exact tw_all (by simpa using e) c h
theorem tw_of {goes : Nat → Bool} : ∀ {l : List Nat}, (∀ c ∈ l, goes c = true) → l.takeWhile goes = l
  | [], _ => rfl
  | d :: r, h => by
    rw [List.takeWhile_cons, h d List.mem_cons_self, if_pos rfl, tw_of fun c hc => h c (List.mem_cons_of_mem _ hc)]
theorem tw_lt {goes : Nat → Bool} : ∀ {l : List Nat} {c : Nat}, c ∈ l → goes c = false → (l.takeWhile goes).length < l.length
  | d :: r, c, h, g => by
    rw [List.takeWhile_cons]
    cases hd : goes d with
    | false => simp
    | true =>
      rcases List.mem_cons.mp h with rfl | h
      · rw [hd] at g; cases g
      · simpa using tw_lt h g
theorem tw_drop {goes : Nat → Bool} : ∀ {l : List Nat} {c : Nat}, c ∈ l → goes c = false → ∃ d ∈ l.drop (l.takeWhile goes).length, goes d = false
  | d :: r, c, h, g => by
    rw [List.takeWhile_cons]
    cases hd : goes d with
    | false => exact ⟨d, by simp, hd⟩
    | true =>
      rcases List.mem_cons.mp h with rfl | h
      · rw [hd] at g; cases g
      · simpa using tw_drop h g
theorem strip_iff (w y : Str) : Txt.stripChars w y = "" ↔ ∀ c ∈ tl w, y.cps.contains c = true := by
  unfold Txt.stripChars
  rw [stripBy_eq]
  have hl := len_tl w
  constructor
  · intro e c hc
    have h1 : tl (strSub w (stripLo y.cps.contains true w) (stripHi y.cps.contains true w (stripLo y.cps.contains true w))) = [] := by
      rw [e]; decide +kernel
    rw [tl_strSub] at h1
    cases hg : y.cps.contains c with
    | true => rfl
    | false =>
      exfalso
      have hlo : stripLo y.cps.contains true w = ((tl w).takeWhile y.cps.contains).length := by unfold stripLo; rw [if_pos rfl]
      have hlt := tw_lt hc hg
      obtain ⟨d, hd, gd⟩ := tw_drop hc hg
      rw [← hlo] at hlt hd
      have hhi : stripHi y.cps.contains true w (stripLo y.cps.contains true w) = w.length - (((tl w).drop (stripLo y.cps.contains true w)).reverse.takeWhile y.cps.contains).length := by unfold stripHi; rw [if_pos rfl]
      have h2 := tw_lt (goes := y.cps.contains) (List.mem_reverse.mpr hd) gd
      rw [List.length_reverse, List.length_drop] at h2
      have h3 := congrArg List.length h1
      rw [List.length_take, List.length_drop, List.length_nil] at h3
      omega
  · intro h
    refine tl_nil ?_
    have hlo : stripLo y.cps.contains true w = (tl w).length := by
      unfold stripLo
      rw [if_pos rfl, tw_of h]
    rw [tl_strSub, hlo, List.drop_of_length_le (Nat.le_refl _), List.take_nil]
theorem isNum_iff (w : Str) : isNum w = true ↔ w.length ≠ 0 ∧ w.length ≤ 3 ∧ (∀ c ∈ tl w, c ∈ tl figs) ∧ lead w = false := by
  unfold isNum
  have h0 : w = "" ↔ w.length = 0 := by
    constructor
    · rintro rfl; decide +kernel
    · intro h
      rw [len_tl] at h
      exact tl_nil (List.eq_nil_of_length_eq_zero h)
  have h1 : Txt.stripChars w figs = "" ↔ ∀ c ∈ tl w, c ∈ tl figs := by
    rw [strip_iff]
    refine forall_congr' fun c => forall_congr' fun _ => ?_
    rw [figs_has, decide_eq_true_eq]
  rw [Bool.not_eq_true', Bool.or_eq_false_iff, Bool.or_eq_false_iff, Bool.or_eq_false_iff, decide_eq_false_iff_not, Bool.not_eq_false', decide_eq_true_eq, decide_eq_false_iff_not, h0, h1]
  constructor
  · rintro ⟨a, b, c, d⟩
    exact ⟨a, by omega, b, d⟩
  · rintro ⟨a, b, c, d⟩
    exact ⟨a, c, by omega, d⟩
theorem lnum_eq (w : Str) : lnum w = if isNum w = true then valI w else -1 := by
  unfold lnum
  have h1 : ((tl w).filter fun c => !decide (c ∈ tl figs)) = [] ↔ ∀ c ∈ tl w, c ∈ tl figs := by
    rw [List.filter_eq_nil_iff]
    refine forall_congr' fun c => forall_congr' fun _ => ?_
    simp
  have h2 := isNum_iff w
  have h3 : (decide ((1 : Int) ≤ w.length) && decide ((w.length : Int) ≤ 3)) = true ↔ w.length ≠ 0 ∧ w.length ≤ 3 := by
    rw [Bool.and_eq_true, decide_eq_true_eq, decide_eq_true_eq]
    omega
  by_cases hn : isNum w = true
  · rw [if_pos hn]
    obtain ⟨a, b, c, d⟩ := h2.mp hn
    rw [if_pos ⟨h3.mpr ⟨a, b⟩, h1.mpr c⟩, d]
    rfl
  · rw [if_neg hn]
    split
    · rename_i h
      cases hd : lead w with
      | true => rfl
      | false => exact absurd (h2.mpr ⟨(h3.mp h.1).1, (h3.mp h.1).2, h1.mp h.2, hd⟩) hn
    · rfl
def tellOk (l : List Nat) : Bool := decide (PySem.intText? ⟨l.toArray⟩ = some (valI ⟨l.toArray⟩)) && decide (0 ≤ valI ⟨l.toArray⟩)
theorem told1 : ∀ a ∈ tl figs, tellOk [a] = true := by decide +kernel
theorem told2 : ∀ a ∈ tl figs, ∀ b ∈ tl figs, tellOk [a, b] = true := by decide +kernel
theorem told3 : ∀ a ∈ tl figs, ∀ b ∈ tl figs, ∀ c ∈ tl figs, tellOk [a, b, c] = true := by decide +kernel
theorem num_val {w : Str} (h : isNum w = true) : PySem.intText? w = some (valI w) ∧ 0 ≤ valI w := by
  obtain ⟨h1, h2, h3, _⟩ := (isNum_iff w).mp h
  have hw : w = ⟨(tl w).toArray⟩ := tl_inj1 rfl
  rw [len_tl] at h1 h2
  have key : tellOk (tl w) = true := by
    generalize tl w = l at h1 h2 h3
    match l, h1, h2, h3 with
    | [], h1, _, _ => exact absurd rfl h1
    | [a], _, _, h3 => exact told1 a (h3 a (by simp))
    | [a, b], _, _, h3 => exact told2 a (h3 a (by simp)) b (h3 b (by simp))
    | [a, b, c], _, _, h3 => exact told3 a (h3 a (by simp)) b (h3 b (by simp)) c (h3 c (by simp))
    | _ :: _ :: _ :: _ :: _, _, h2, _ => simp at h2
  unfold tellOk at key
  rw [← hw, Bool.and_eq_true, decide_eq_true_eq, decide_eq_true_eq] at key
  exact key
end DL
/-! M13c: written and read back, in plain Lean. -/
namespace DL
open PySem PySem.Spec PyProof.Rows L2 TL PySem.Builtin.Str
def shw (i : Int) : Str := (toString i : String)
def wr (ns : List Int) : Str := if 0 < ns.length then Txt.join blank (ns.map shw) else "none"
def shwOk (n : Nat) : Bool := isNum (shw n) && decide (valI (shw n) = n) && !decide (32 ∈ tl (shw n)) && !decide (shw n = "none") && (tl (shw n)).all fun c => decide (c < 0x110000)
theorem shw_all : (List.range 200).all shwOk = true := by decide +kernel

structure ShwOk (t : Int) : Prop where
  num : isNum (shw t) = true
  val : valI (shw t) = t
  bl : 32 ∉ tl (shw t)
  non : shw t ≠ "none"
  ok : okT (shw t)
theorem shw_ok {t : Int} (h0 : 0 ≤ t) (h1 : t < 200) : ShwOk t := by
  obtain ⟨n, rfl⟩ : ∃ n : Nat, t = n := ⟨t.toNat, by omega⟩
  have h := List.all_eq_true.mp shw_all n (List.mem_range.mpr (by omega))
  unfold shwOk at h
  simp only [Bool.and_eq_true, decide_eq_true_eq, Bool.not_eq_true', decide_eq_false_iff_not] at h
  obtain ⟨⟨⟨⟨a, b⟩, c⟩, d⟩, e⟩ := h
  exact ⟨a, b, c, d, fun c hc => of_decide_eq_true (List.all_eq_true.mp e c hc)⟩
theorem ris_bnd {m : Int} : ∀ {ns : List Int} {a : Int}, risN m ns a = true → ∀ t ∈ ns, a + 1 ≤ t ∧ t < m
  | [], a, _, t, h => by cases h
  | n :: r, a, h, t, ht => by
    unfold risN at h
    rw [Bool.and_eq_true, Bool.and_eq_true, decide_eq_true_eq, decide_eq_true_eq] at h
    rcases List.mem_cons.mp ht with rfl | ht
    · exact ⟨h.1.1, by omega⟩
    · have := ris_bnd h.2 t ht
      exact ⟨by omega, this.2⟩
theorem ris_len {m : Int} : ∀ {ns : List Int} {a : Int}, risN m ns a = true → a < m → a + ns.length < m
  | [], a, _, h => by simpa using h
  | n :: r, a, h, _ => by
    unfold risN at h
    rw [Bool.and_eq_true, Bool.and_eq_true, decide_eq_true_eq, decide_eq_true_eq] at h
    have := ris_len h.2 (by omega)
    rw [List.length_cons]
    push_cast
    omega
section
variable {ns : List Int} (h : risN 200 ns (-1) = true)
include h
theorem wr_mem {p : Str} (hp : p ∈ ns.map shw) : ∃ t ∈ ns, p = shw t ∧ ShwOk t := by
  obtain ⟨t, ht, rfl⟩ := List.mem_map.mp hp
  have b := ris_bnd h t ht
  exact ⟨t, ht, rfl, shw_ok (by omega) b.2⟩
theorem wr_split (hne : ns ≠ []) : Txt.split (Txt.join blank (ns.map shw)) blank = ns.map shw :=
  split_join tl_blank blank_all (fun e => hne (List.map_eq_nil_iff.mp e)) fun p hp => by
    obtain ⟨t, _, rfl, ok⟩ := wr_mem h hp
    exact ok.bl
theorem wr_vals : (ns.map shw).map valI = ns := by
  rw [List.map_map]
  have e : ns.map (valI ∘ shw) = ns.map id := List.map_congr_left fun t ht => by
    have b := ris_bnd h t ht
    exact (shw_ok (by omega) b.2).val
  rw [e, List.map_id]
theorem wr_nums : (ns.map shw).all isNum = true := List.all_eq_true.mpr fun p hp => by
  obtain ⟨t, _, rfl, ok⟩ := wr_mem h hp
  exact ok.num
theorem wr_join_ne (hne : ns ≠ []) : Txt.join blank (ns.map shw) ≠ "none" := fun e => by
  have s := wr_split h hne
  rw [e, show Txt.split "none" blank = [("none" : Str)] by decide +kernel] at s
  have : ("none" : Str) ∈ ns.map shw := by rw [← s]; exact List.mem_cons_self
  obtain ⟨t, _, e2, ok⟩ := wr_mem h this
  exact ok.non e2.symm
theorem wr_len_ne (hne : ns ≠ []) : (Txt.join blank (ns.map shw)).length ≠ 0 := fun e => by
  have s := wr_split h hne
  have e2 : Txt.join blank (ns.map shw) = "" := tl_nil (List.eq_nil_of_length_eq_zero (by rw [← len_tl]; exact e))
  rw [e2, show Txt.split "" blank = [("" : Str)] by decide +kernel] at s
  have : ("" : Str) ∈ ns.map shw := by rw [← s]; exact List.mem_cons_self
  obtain ⟨t, _, e3, ok⟩ := wr_mem h this
  have := ((isNum_iff _).mp ok.num).1
  rw [← e3] at this
  exact this (by decide +kernel)
theorem due_wr : dueT (wr ns) = some ns := by
  unfold dueT wr
  by_cases hne : ns = []
  · subst hne
    rfl
  · have hl : 0 < ns.length := List.length_pos_iff.mpr hne
    rw [if_pos hl, if_neg (wr_join_ne h hne), wr_split h hne]
    unfold dueW
    rw [wr_nums h, wr_vals h, h]
    rfl
theorem wr_okT : okT (wr ns) := by
  unfold wr
  split
  · exact okT_join (okT_dec (by decide +kernel)) fun p hp => by
      obtain ⟨t, _, rfl, ok⟩ := wr_mem h hp
      exact ok.ok
  · exact okT_dec (by decide +kernel)
theorem wr_few : ns.length ≤ 200 := by
  have := ris_len h (by decide)
  omega
theorem wr_sum : ((ns.map shw).map (·.length)).sum + (ns.map shw).length * blank.length ≤ 800 := by
  have hf := wr_few h
  have e : ∀ l : List Str, (∀ p ∈ l, p.length ≤ 3) → (l.map (·.length)).sum ≤ 3 * l.length := fun l => by
    induction l with
    | nil => intro _; simp
    | cons a r ih =>
      intro hp
      have := hp a List.mem_cons_self
      have := ih fun p h => hp p (List.mem_cons_of_mem _ h)
      simp only [List.map_cons, List.sum_cons, List.length_cons]
      omega
  have := e (ns.map shw) fun p hp => by
    obtain ⟨t, _, rfl, ok⟩ := wr_mem h hp
    exact ((isNum_iff _).mp ok.num).2.1
  rw [List.length_map] at this ⊢
  have hb : blank.length = 1 := by decide +kernel
  rw [hb]
  omega
theorem wr_len : (wr ns).length ≤ 800 := by
  unfold wr
  split
  · rw [join_eq]
    exact Nat.le_trans (StrLaws.join_length_le blank _) (wr_sum h)
  · exact Nat.le_trans (show ("none" : Str).length ≤ 4 by decide +kernel) (by decide)
end
/-! ### the law's reading -/
theorem due_iff (ws : List Str) : (¬ ((-1 : Int) ∈ ws.map lnum) ∧ (ws.map lnum).filter (fun n => decide ((199 : Int) < n)) = [] ∧ badK (ws.map lnum) = []) ↔ (ws.all isNum && risN 200 (ws.map valI) (-1)) = true := by
  have hv : ws.all isNum = true → ws.map lnum = ws.map valI := fun h => List.map_congr_left fun w hw => by
    rw [lnum_eq, if_pos (List.all_eq_true.mp h w hw)]
  have hm : ¬ ((-1 : Int) ∈ ws.map lnum) ↔ ws.all isNum = true := by
    rw [List.all_eq_true, List.mem_map]
    constructor
    · intro h w hw
      cases hn : isNum w with
      | true => rfl
      | false => exact absurd ⟨w, hw, by rw [lnum_eq, hn]; rfl⟩ h
    · rintro h ⟨w, hw, e⟩
      rw [lnum_eq, if_pos (h w hw)] at e
      have := (num_val (h w hw)).2
      omega
  rw [Bool.and_eq_true, hm]
  refine and_congr_right fun h => ?_
  rw [hv h, ris_bad, Bool.and_eq_true, decide_eq_true_eq, decide_eq_true_eq, List.filter_eq_nil_iff]
  have h0 : ∀ n ∈ ws.map valI, 0 ≤ n := fun n hn => by
    obtain ⟨w, hw, rfl⟩ := List.mem_map.mp hn
    exact (num_val (List.all_eq_true.mp h w hw)).2
  have e1 : (∀ n ∈ ws.map valI, ¬ decide ((199 : Int) < n) = true) ↔ ∀ n ∈ ws.map valI, n < 200 := by
    refine forall_congr' fun n => forall_congr' fun _ => ?_
    rw [decide_eq_true_eq]
    omega
  have e2 : badK (-1 :: ws.map valI) = [] ↔ badK (ws.map valI) = [] := by
    generalize ws.map valI = l at h0
    cases l with
    | nil => simp [badK]
    | cons a r =>
      rw [badK_cons]
      have := h0 a List.mem_cons_self
      constructor
      · exact fun h => h.2
      · exact fun h => ⟨by omega, h⟩
  rw [e1, e2]
theorem due_vals {ws : List Str} (h : ws.all isNum = true) : ws.map lnum = ws.map valI := List.map_congr_left fun w hw => by
  rw [lnum_eq, if_pos (List.all_eq_true.mp h w hw)]
/-! ### one blank more -/
def repl1 (z y : Str) : Str := if ((occurrences z blank 0 z.length 1).isEmpty || (blank.length == 0 && y.length == 0)) = true then z else glued y (partsBetween z (occurrences z blank 0 z.length 1) blank.length)
theorem repl1_ok {z y : Str} (hz : okT z) (hy : okT y) : okT (repl1 z y) := by
  unfold repl1
  split
  · exact hz
  · refine okT_join (y := y) hy fun p hp c hc => ?_
    unfold partsBetween at hp
    obtain ⟨q, _, rfl⟩ := List.mem_map.mp hp
    have hc : c ∈ tl (strSub z q.1 q.2) := hc
    rw [tl_strSub] at hc
    exact hz c (List.mem_of_mem_drop (List.mem_of_mem_take hc))
theorem repl1_len {z y : Str} : (repl1 z y).length ≤ 2 * z.length + 2 * y.length := by
  unfold repl1
  split
  · omega
  · rw [StrLaws.glued_eq_join]
    have h1 := StrLaws.join_length_le y (partsBetween z (occurrences z blank 0 z.length 1) blank.length)
    have h2 := length_partsBetween z (occurrences z blank 0 z.length 1) blank.length
    have h3 := StrLaws.occ_length_le z blank 0 z.length 1
    have e : ∀ l : List Str, (∀ p ∈ l, p.length ≤ z.length) → (l.map (·.length)).sum ≤ l.length * z.length := fun l => by
      induction l with
      | nil => intro _; simp
      | cons a r ih =>
        intro hp
        have := hp a List.mem_cons_self
        have := ih fun p h => hp p (List.mem_cons_of_mem _ h)
        simp only [List.map_cons, List.sum_cons, List.length_cons, Nat.succ_mul]
        omega
    have h4 := e (partsBetween z (occurrences z blank 0 z.length 1) blank.length) fun p hp => by
      unfold partsBetween at hp
      obtain ⟨q, _, rfl⟩ := List.mem_map.mp hp
      show (strSub z q.1 q.2).length ≤ _
      rw [len_tl, tl_strSub, List.length_take, List.length_drop, ← len_tl]
      omega
    have h5 : (partsBetween z (occurrences z blank 0 z.length 1) blank.length).length ≤ 2 := by omega
    have h6 := Nat.mul_le_mul_right z.length h5
    have h7 := Nat.mul_le_mul_right y.length h5
    omega
end DL
/-! DLY: texts. -/
namespace DL
open PySem PySem.Spec PyProof.Rows L2
def sts (xs : List Str) : List Da := xs.map Da.str
theorem ats_strs {K : PySem.W.Frag} {F : Hp} : ∀ (xs : List Str), Ats K F (sts xs) (xs.map V.str)
  | [] => rfl
  | x :: xs => ⟨.str x, xs.map V.str, rfl, rfl, ats_strs xs⟩
theorem strs_ats {K : PySem.W.Frag} {F : Hp} : ∀ {xs : List Str} {vs : List V}, Ats K F (sts xs) vs → vs = xs.map V.str
  | [], vs, h => h
  | x :: xs, vs, ⟨v, r, e, a, h⟩ => by
    rw [e, show v = V.str x from a, strs_ats h]
    rfl
theorem sts_length (xs : List Str) : (sts xs).length = xs.length := List.length_map ..
section
variable {j : J} {S : List Sl}
theorem md_split {a b : Str} (hb : (b.length == 0) = false) (hz : a.length ≤ 1000000) : MtD j "str.split" (.str a) [.str b] (.lst (sts (Txt.split a b))) := fun F H e v vs av ay QQ kk => by
  obtain ⟨u, rfl, eu⟩ := ats1 ay
  refine wp_mt mt_split ⟨a, b, av, by rw [show u = _ from eu], hb, Nat.le_trans (Nat.add_le_add_right hz 2) (by decide), fun p hp => ?_⟩
  have st := Stp.alloc e hp (.lst ((Txt.split a b).map V.str))
  exact kk _ _ _ st ⟨p, _, rfl, upd_same, ats_strs _⟩
theorem md_join {a : Str} {ys : List Str} (hz : (ys.map (·.length)).sum + ys.length * a.length ≤ 16777216) : MtD j "str.join" (.str a) [.lst (sts ys)] (.str (Txt.join a ys)) := fun F H e v vs av ay QQ kk => by
  obtain ⟨u, rfl, ⟨p, ws, e1, h1, a1⟩⟩ := ats1 ay
  cases strs_ats a1
  exact wp_mt mt_join ⟨a, p, ys, av, by rw [e1], .inl (.of (e _ _ h1)), hz, kk _ F H (.refl e) rfl⟩
theorem md_stripC {a b : Str} (hz : a.length ≤ 1000000) : MtD j "str.strip" (.str a) [.str b] (.str (Txt.stripChars a b)) := fun F H e v vs av ay QQ kk => by
  obtain ⟨u, rfl, eu⟩ := ats1 ay
  exact wp_mt mt_stripChars ⟨a, b, av, by rw [show u = _ from eu], sz_le hz, kk _ F H (.refl e) rfl⟩
theorem md_find {a b : Str} : MtD j "str.find" (.str a) [.str b] (.int (Txt.find a b)) := fun F H e v vs av ay QQ kk => by
  obtain ⟨u, rfl, eu⟩ := ats1 ay
  exact wp_mt mt_find ⟨a, b, av, by rw [show u = _ from eu], kk _ F H (.refl e) rfl⟩
theorem cd_int_str {a : Str} {n : Int} (h : PySem.intText? a = some n) (hz : a.length ≤ 640) : CallD j (.type "int") [.str a] (.int n) := fun F H e vs a1 QQ kk => by
  obtain ⟨v, e0, av⟩ := ats1 a1
  exact wp_call call_int_str ⟨a, n, by rw [e0, show v = _ from av], h, hz, kk _ F H (.refl e) rfl⟩
theorem sl_strD {z : Str} {lo hi : Option Int} (hz : z.length ≤ 1000000) : SlD j (.str z) lo hi (.str (cutS z lo hi)) :=
  ⟨_, sl_str, fun F H e vx av QQ kk => ⟨z, av, sz_le hz, kk _ F H (.refl e) rfl⟩⟩
theorem od_ninSign {c : Nat} {z : Str} : OpD j (compareOp .NotIn) (.str ⟨#[c]⟩) (.str z) (.bl (!decide (c ∈ z.cps.toList))) := fun F H e vx vy ax ay QQ kk =>
  wp_op op_notIn_sign ⟨c, z, ax, ay, kk _ F H (.refl e) rfl⟩
/-- the signs of a text -/
def sgs (z : Str) : List Da := z.cps.toList.map fun c => Da.str ⟨#[c]⟩
theorem yd_str {K : PySem.W.Frag} {z : Str} {F1 : Hp} : Yd K (Its z) F1 (sgs z) := by
  refine ⟨fun _ => True, fun i H v H' => H' = H ∧ ∃ c, z.cps[i]? = some c ∧ v = .str ⟨#[c]⟩, ?_, fun _ _ _ _ => trivial, fun i F H x H3 hi e1 e2 y => ?_⟩
  · have : (sgs z).length = z.cps.size := by unfold sgs; simp
    rw [this]
    exact walk_str
  · obtain ⟨rfl, c, hc, rfl⟩ := y
    refine ⟨.str ⟨#[c]⟩, F, ?_, .refl e2, rfl⟩
    unfold sgs
    rw [List.getElem?_map, Array.getElem?_toList, hc]
    rfl
theorem di_str {tg e : Expr} {z : Str} (h : DE j S e (.str z)) : DI j S tg e (sgs z) := fun σ F H rp R k =>
  wp_pi (pi_str pe_wp) (h σ F H rp _ fun v F1 H1 s1 a1 => ⟨z, a1, k _ F1 H1 s1 yd_str⟩)
/-- a or b, a a text -/
theorem de_orS {a b : Expr} {z : Str} {d : Da} {pos : Pos} (ha : DE j S a (.str z)) (hz : z.length ≤ 1000000) (h1 : ((z.length : Int) != 0) = true → d = .str z) (h2 : ((z.length : Int) != 0) = false → DE j S b d) : DE j S (.BoolOp .Or (a :: b :: []) pos) d := fun σ F H rp QQ kk =>
  wp_pe (pe_orT pe_wp (pe_one pe_wp)) (ha σ F H rp _ fun v F1 H1 s1 a1 => by
    have a1 : v = .str z := a1
    subst a1
    refine ⟨((z.length : Int) != 0), ⟨sz_le hz, rfl⟩, ?_⟩
    cases hb : ((z.length : Int) != 0) with
    | true => exact iteT (kk _ F1 H1 s1 (by rw [h1 hb]; exact rfl))
    | false => exact iteF (h2 hb σ F1 H1 (rp.step s1) _ fun u F2 H2 s2 a2 => kk u F2 H2 (s1.trans s2) a2))
end
section
variable {P : Program} {w : World} {K : PySem.W.Frag} {mg : Str → Option Value} {base : Heap} {j : J} {S : List Sl} {k n i : Nat} {x y : Str} {f : Addr} {G : List Da → Da → Prop} {Xc : List Da → Addr → Prop} {e : Expr} {es : List Expr} {ds : List Da} {d : Da} {C : Addr} {p cp : Pos}
theorem de_callLX (h : FnX P w K mg base k y G Xc) (hm : mg y = some (.ref f)) (nm : NM j.X x i) (hS : S[i]? = some (.da (.fn f))) (hr : Room n j.X.A) (hk : k ≤ n) (ha : DA j S (e :: es) ds) (g : G ds d)
    (on : On j.X P w K mg base := by exact ⟨rfl, rfl, rfl, rfl, rfl⟩) (he : starEach (e :: es) j.X.env = (false, eval e j.X.env) :: starEach es j.X.env := by rfl) (hpl : (backTo cp (starEach es j.X.env)).any (·.1) = false := by rfl) : DE j S (.Call (.Name x p) (e :: es) [] cp) d := fun σ F H rp QQ kk => by
  obtain ⟨rfl, rfl, rfl, rfl, rfl⟩ := on
  obtain ⟨f', fd, ps, ok, hm', hkp, hb⟩ := h.ex
  cases hm.symm.trans hm'
  obtain ⟨v, e1, ev⟩ := rp.get hS
  cases (show v = .ref f from ev)
  refine wp_pe (pe_callL ok (hr.mono hk) nm.N nm.v hkp hb .nil (passL (X := j.X)) pa_wp nm.d nm.c he hpl) ⟨e1, ha σ F H rp _ fun vs F1 H1 s1 a1 => ?_⟩
  rw [List.append_nil]
  exact ⟨F1, ds, s1.e, a1, .inl ⟨d, g, fun v F' H' s2 a2 => kk v F' H' (s1.trans s2) a2⟩⟩
theorem dn_callLX (h : FnX P w K mg base k y G Xc) (hm : mg y = some (.ref f)) (nm : NM j.X x i) (hS : S[i]? = some (.da (.fn f))) (hr : Room n j.X.A) (hk : k ≤ n) (ha : DA j S (e :: es) ds) (g : Xc ds C) (hC : j.EX C)
    (on : On j.X P w K mg base := by exact ⟨rfl, rfl, rfl, rfl, rfl⟩) (he : starEach (e :: es) j.X.env = (false, eval e j.X.env) :: starEach es j.X.env := by rfl) (hpl : (backTo cp (starEach es j.X.env)).any (·.1) = false := by rfl) : DN j S (.Call (.Name x p) (e :: es) [] cp) := fun σ F H rp QQ => by
  obtain ⟨rfl, rfl, rfl, rfl, rfl⟩ := on
  obtain ⟨f', fd, ps, ok, hm', hkp, hb⟩ := h.ex
  cases hm.symm.trans hm'
  obtain ⟨v, e1, ev⟩ := rp.get hS
  cases (show v = .ref f from ev)
  refine wp_pe (pe_callL ok (hr.mono hk) nm.N nm.v hkp hb .nil (passes_call (E := j.xk) j.tk fun _ _ _ _ h => h) pa_wp nm.d nm.c he hpl) ⟨e1, ha σ F H rp _ fun vs F1 H1 s1 a1 => ?_⟩
  rw [List.append_nil]
  exact ⟨F1, ds, s1.e, a1, .inr ⟨C, g, fun H' s2 => j.ex C hC H' ((rp.h0.trans s1.h).trans s2)⟩⟩
/-- tuple(e), an exception leaving e -/
theorem dn_callTy {mg : Str → Option Value} {x : Str} {T : String} {p pos : Pos} (h : FreeN mg x) (hv : bootBuiltins x = some (.type T)) (ha : DAN j S (e :: es)) (hg : Gl j.X x := by rfl) (em : j.X.mg = mg := by rfl)
    (hcr : CallR j.X (.type T) (wpC j.X (.type T)) := call_wp) (he : starEach (e :: es) j.X.env = (false, eval e j.X.env) :: starEach es j.X.env := by rfl) (hpl : (backTo pos (starEach es j.X.env)).any (·.1) = false := by rfl) : DN j S (.Call (.Name x p) (e :: es) [] pos) := fun σ F H rp QQ => by
  subst em
  exact wp_pe (pe_callTy hcr hg h.m hv pa_wp h.n h.db he hpl) (ha σ F H rp _)
end
end DL
/-! DLY2: text.replace(.., .., 1), in a list behind a written text. -/
namespace DL
open PySem PySem.Spec PyProof.Rows L2
section
variable {M : Model} {A : Around} {E : Value → Shared → Prop} {s : Shared}
theorem replace1_tree (x y z : Str) (t u v k : Tok) (h0 : (u == 0 || v == 0) = false) (huv : (u == v) = false) (hyz : (y == z) = false)
    (hl : Builtin.Str.tooLong (x.length + (Builtin.Str.occurrences x y 0 x.length 1).length * z.length) = false) :
    Gives (Builtin.«str.replace» ⟨[.str x t, .str y u, .str z v, .int 1 k], []⟩) (if ((Builtin.Str.occurrences x y 0 x.length 1).isEmpty || (y.length == 0 && z.length == 0)) = true then .val (.str x t) else .str (Builtin.Str.glued z (Builtin.Str.partsBetween x (Builtin.Str.occurrences x y 0 x.length 1) y.length))) := by
  show Gives (if ((Builtin.Str.occurrences x y 0 x.length 1).isEmpty || (y.length == 0 && z.length == 0)) = true then (do rule "str.replace.nothing"; ret (.str x t)) else
          (do let same ← isSame (.str y u) (.str z v)
              if same = true then (do rule "str.replace.old-is-new"; ret (.str x t)) else
              if Builtin.Str.tooLong (x.length + (Builtin.Str.occurrences x y 0 x.length 1).length * z.length) = true then unsupported "str.replace:memory" else
              retStr (Builtin.Str.glued z (Builtin.Str.partsBetween x (Builtin.Str.occurrences x y 0 x.length 1) y.length)))) _
  cases hc : ((Builtin.Str.occurrences x y 0 x.length 1).isEmpty || (y.length == 0 && z.length == 0))
  · rw [isSame_str_other y z u v h0 huv hyz, hl]
    exact .of_eq rfl
  · exact .rule (.of_eq rfl)

theorem replace1_call {prog : Program} {w : World} {A : Around} {E : Value → Shared → Prop} {s : Shared} {x y z : Str} {t u v k : Tok} {Q : Value → Shared → Prop} (hu : u ≠ 0) (hv : v ≠ 0) (huv : u ≠ v) (hyz : (y == z) = false) (hx : x.length ≤ 1000000) (hz : z.length ≤ 10) (hy : y = blank)
    (hq : ∀ t' n, Q (.str (repl1 x z) t') { s with toks := n }) : wpAny (model prog w) A (call (.builtin "str.replace") [.str x t, .str y u, .str z v, .int 1 k]) Q E s := by
  subst hy
  have hl : Builtin.Str.tooLong (x.length + (Builtin.Str.occurrences x blank 0 x.length 1).length * z.length) = false := by
    have h1 := StrLaws.occ_length_le x blank 0 x.length 1
    have h2 : (Builtin.Str.occurrences x blank 0 x.length 1).length * z.length ≤ 1 * 10 := Nat.mul_le_mul h1 hz
    unfold Builtin.Str.tooLong sizeLine
    exact decide_eq_false (by have e : (2 : Nat) ^ 24 = 16777216 := by decide
                              omega)
  refine call_gives F.slot_str_replace (typeIs_str _ _ _) F.entry_str_replace (F.args_str_replace_4 _ _ _ _)
    (replace1_tree x blank z t u v k (by simp [hu, hv]) (by simp [huv]) hyz hl) ?_
  have hl2 := repl1_len (z := x) (y := z)
  unfold repl1 at hq hl2
  cases hc : ((Builtin.Str.occurrences x blank 0 x.length 1).isEmpty || (blank.length == 0 && z.length == 0))
  · rw [hc] at hq hl2
    simp only [Bool.false_eq_true, if_false] at hq hl2 ⊢
    exact ⟨Nat.le_trans hl2 (by rw [sizeLine_eq]; omega), hq _ _⟩
  · rw [hc] at hq
    simp only [if_true] at hq ⊢
    exact hq t s.toks
end
section
variable {j : J} {S : List Sl}
/-- as DE, behind a token -/
def DEt (j : J) (S : List Sl) (e : Expr) (d : Da) : Prop :=
  ∀ (σ : L2.St) (F H : Hp), Rp j S σ F H → ∀ QQ : VK, (∀ (v : V) (F' H' : Hp), Stp F H F' H' → At j.X.K F' d v → QQ v H') → ∀ (pins : List (Addr × Obj)) (s : Shared), 1 ≤ s.toks → Inv j.X pins σ H s → wpAny (model j.X.prog j.X.w) j.X.A (eval e j.X.env) (EP j.X pins σ QQ) j.X.xe s
def DAt (j : J) (S : List Sl) (es : List Expr) (ds : List Da) : Prop :=
  ∀ (σ : L2.St) (F H : Hp), Rp j S σ F H → ∀ QQ : List V → Hp → Prop, (∀ (vs : List V) (F' H' : Hp), Stp F H F' H' → Ats j.X.K F' ds vs → QQ vs H') → ∀ (pos : Pos) (pins : List (Addr × Obj)) (s : Shared), 1 ≤ s.toks → Inv j.X pins σ H s → wpAny (model j.X.prog j.X.w) j.X.A (spliced (backTo pos (starEach es j.X.env))) (AP j.X pins σ QQ) j.X.xe s
theorem dat_of {es : List Expr} {ds : List Da} (h : DA j S es ds) : DAt j S es ds := fun σ F H rp QQ kk pos pins s _ I => h σ F H rp QQ kk pos pins s I
theorem det_of {e : Expr} {d : Da} (h : DE j S e d) : DEt j S e d := fun σ F H rp QQ kk pins s _ I => h σ F H rp QQ kk pins s I
theorem dat_cons {e : Expr} {es : List Expr} {d : Da} {ds : List Da} (h : DEt j S e d) (hr : DAt j S es ds) (hs : starEach (e :: es) j.X.env = (false, eval e j.X.env) :: starEach es j.X.env := by rfl) : DAt j S (e :: es) (d :: ds) := fun σ F H rp QQ kk pos pins s h0 I => by
  rw [hs]
  show wpAny _ _ (spliced ((false, eval e j.X.env) :: backTo pos (starEach es j.X.env))) _ _ s
  refine Calls.spliced_cons (wpAny_mono (PySem.wpAny_toks (h σ F H rp (fun v H1 => ∃ F1, Stp F H F1 H1 ∧ At j.X.K F1 d v) (fun v F1 H1 s1 a1 => ⟨F1, s1, a1⟩) pins s h0 I)) (fun u s1 q => ?_) fun _ _ z => z.2)
  obtain ⟨hk, x, H1, I1, r1, F1, st1, a1⟩ := q
  refine thn (hr σ F1 H1 (rp.step st1) (fun vs H2 => QQ (x :: vs) H2) (fun vs F2 H2 s2 a2 => kk _ F2 H2 (st1.trans s2) ⟨x, vs, rfl, At.mono s2.f _ _ a1, a2⟩) pos pins s1 (Nat.le_trans h0 hk) I1) fun us s2 ⟨xs, H2, I2, r2, q2⟩ => ?_
  exact ⟨x :: xs, H2, I2, .cons r1 r2, q2⟩
/-- 'y' + b at the head of a list: a token is out behind it -/
theorem da_consK {y : Str} {k : Nat} {c0 p0 : Pos} {b : Expr} {z : Str} {es : List Expr} {ds : List Da} (hb : DE j S b (.str z)) (hz : y.length + z.length ≤ 1000000) (hr : DAt j S es ds)
    (hs : starEach (.BinOp (.Constant (.str y) k c0) .Add b p0 :: es) j.X.env = (false, eval (.BinOp (.Constant (.str y) k c0) .Add b p0) j.X.env) :: starEach es j.X.env := by rfl) : DA j S (.BinOp (.Constant (.str y) k c0) .Add b p0 :: es) (.str (y ++ z) :: ds) := fun σ F H rp QQ kk pos pins s I => by
  rw [hs]
  show wpAny _ _ (spliced ((false, eval (.BinOp (.Constant (.str y) k c0) .Add b p0) j.X.env) :: backTo pos (starEach es j.X.env))) _ _ s
  refine Calls.spliced_cons (wpAny_BinOp (Calls.Constant_str ?_))
  have I0 : Inv j.X pins σ H { s with toks := s.toks + 1 } := I.tok _
  have h1 : (1 : Nat) ≤ ({ s with toks := s.toks + 1 } : Shared).toks := Nat.le_add_left _ _
  refine wpAny_mono (PySem.wpAny_toks_of h1 (hb σ F H rp (fun v H1 => ∃ F1, Stp F H F1 H1 ∧ v = .str z) (fun v F1 H1 s1 a1 => ⟨F1, s1, a1⟩) pins _ I0)) (fun u s1 q => ?_) fun _ _ z => z.2
  obtain ⟨hk, x, H1, I1, r1, F1, st1, a1⟩ := q
  subst a1
  have oa := od_addS (j := j) (a := y) (b := z) hz F1 H1 (rp.step st1).ext (.str y) (.str z) rfl rfl (fun v H2 => ∃ F2, Stp F1 H1 F2 H2 ∧ At j.X.K F2 (.str (y ++ z)) v) (fun v F2 H2 s2 a2 => ⟨F2, s2, a2⟩) pins s1 σ _ u I1 ⟨s.toks, rfl⟩ r1
  refine wpAny_mono (PySem.wpAny_toks_of hk oa) (fun u2 s2 q2 => ?_) fun _ _ z => z.2
  obtain ⟨hk2, x2, H2, I2, r2, F2, st2, a2⟩ := q2
  refine thn (hr σ F2 H2 ((rp.step st1).step st2) (fun vs H3 => QQ (x2 :: vs) H3) (fun vs F3 H3 s3 a3 => kk _ F3 H3 ((st1.trans st2).trans s3) ⟨x2, vs, rfl, At.mono s3.f _ _ a2, a3⟩) pos pins s2 hk2 I2) fun us s3 ⟨xs, H3, I3, r3, q3⟩ => ?_
  exact ⟨x2 :: xs, H3, I3, .cons r2 r3, q3⟩
/-- z.replace(' ', y, 1) -/
theorem det_repl {o : Expr} {x y : Str} {k0 k1 k2 : Nat} {c0 c1 c2 apos pos : Pos} {sp : Str} (ho : DE j S o (.str x)) (hx : x.length ≤ 1000000) (hy : y.length ≤ 10) (hb : sp = blank) (hyz : (sp == y) = false := by decide +kernel)
    (hst : starEach [.Constant (.str sp) k0 c0, .Constant (.str y) k1 c1, .Constant (.int 1) k2 c2] j.X.env = [(false, eval (.Constant (.str sp) k0 c0) j.X.env), (false, eval (.Constant (.str y) k1 c1) j.X.env), (false, eval (.Constant (.int 1) k2 c2) j.X.env)] := by rfl)
    (hbase : attributeBase o "replace" j.X.env (eval o j.X.env) = eval o j.X.env := by rfl) (hline : (apos.endLine == pos.line) = true := by rfl) :
    DEt j S (.Call (.Attribute o "replace" apos) [.Constant (.str sp) k0 c0, .Constant (.str y) k1 c1, .Constant (.int 1) k2 c2] [] pos) (.str (repl1 x y)) := fun σ F H rp QQ kk pins s h0 I => by
  refine wpAny_Call_method_lateS hbase (by rw [hst]; rfl) hline ?_
  rw [hst]
  refine (wpAny_mono (PySem.wpAny_toks (ho σ F H rp (fun v H1 => ∃ F1, Stp F H F1 H1 ∧ v = .str x) (fun v F1 H1 s1 a1 => ⟨F1, s1, a1⟩) pins s I)) (fun v s1 q => ?_) fun _ _ z => z.2)
  obtain ⟨hk, v', H1, I1, r1, F1, st1, e1⟩ := q
  subst e1
  obtain ⟨tx, e2⟩ := r1
  subst e2
  refine ⟨"str", _, PySem.F.plainAttrs_str, PySem.F.slot_str_replace, PySem.F.type_str_replace, typeIs_str _ _ _, (fun _ e => nomatch e), Calls.callWith_builtin rfl (Calls.evalArgs_plain (Calls.spliced_cons ?_))⟩
  refine Calls.Constant_str (k := k0) (pos := c0) (Calls.spliced_cons (Calls.Constant_str (k := k1) (pos := c1) (Calls.spliced_cons (wpAny_Constant_int (k := k2) (pos := c2) (Calls.spliced_nil ?_)))))
  exact replace1_call (by show s1.toks ≠ 0; omega) (by show s1.toks + 1 ≠ 0; omega) (by show s1.toks ≠ s1.toks + 1; omega) hyz hx hy hb fun t' n => ⟨.str (repl1 x y), H1, I1.tok n, ⟨t', rfl⟩, kk _ F1 H1 st1 rfl⟩
end
end DL
namespace DL
open PySem PySem.Spec PyProof.Rows L2
/-! ### the row: places, facts, the run of its top -/
abbrev prg : Program := PySem.Challenge.pw_doorpicks_k13_written_and_read
def top (i : Nat) : Stmt := prg.main.body.getD i (.Pass ⟨0, 0, 0, 0⟩)
abbrev s__wall : Stmt := top 0
abbrev s_is_number : Stmt := top 10
abbrev s_is_within : Stmt := top 11
abbrev s_is_rising : Stmt := top 12
abbrev s_ways : Stmt := top 13
abbrev s_written : Stmt := top 16
abbrev s_thing_of : Stmt := top 17
abbrev s_read : Stmt := top 18
abbrev s_Picks_init : Stmt := inClass (top 20) 0
abbrev s_Picks_many : Stmt := inClass (top 20) 1
abbrev s_Picks_need : Stmt := inClass (top 20) 2
abbrev s_Picks_number : Stmt := inClass (top 20) 3
abbrev s_Picks_at : Stmt := inClass (top 20) 4
abbrev s_Picks_step : Stmt := inClass (top 20) 5
abbrev s_Picks_change : Stmt := inClass (top 20) 6
abbrev s_Picks_compared : Stmt := inClass (top 20) 7
abbrev s_Sets_init : Stmt := inClass (top 22) 0
abbrev s_Sets_many : Stmt := inClass (top 22) 1
abbrev s_Sets_number : Stmt := inClass (top 22) 2
abbrev s_Sets_at : Stmt := inClass (top 22) 3
abbrev s_Sets_step : Stmt := inClass (top 22) 4
abbrev s_Sets_change : Stmt := inClass (top 22) 5
abbrev s_l_mixed : Stmt := top 24
abbrev s_l_cell_at : Stmt := top 25
abbrev s_l_wide : Stmt := top 26
abbrev s_l_size : Stmt := top 27
abbrev s_l_kind : Stmt := top 28
abbrev s_l_done : Stmt := top 29
abbrev s_l_number_of : Stmt := top 30
abbrev s_l_due : Stmt := top 31
abbrev s_l_spoilt : Stmt := top 32
abbrev s_law : Stmt := top 33
def fns : List He.DefD := ([dd ("_wall", none) "_wall" "_wall" s__wall, dd ("is_number", none) "is_number" "is_number" s_is_number, dd ("is_within", none) "is_within" "is_within" s_is_within, dd ("is_rising", none) "is_rising" "is_rising" s_is_rising, dd ("ways", none) "ways" "ways" s_ways, dd ("written", none) "written" "written" s_written, dd ("thing_of", none) "thing_of" "thing_of" s_thing_of, dd ("read", none) "read" "read" s_read, dd ("Picks", some "__init__") "__init__" "Picks.__init__" s_Picks_init, dd ("Picks", some "many") "many" "Picks.many" s_Picks_many, dd ("Picks", some "need") "need" "Picks.need" s_Picks_need, dd ("Picks", some "number") "number" "Picks.number" s_Picks_number, dd ("Picks", some "at") "at" "Picks.at" s_Picks_at, dd ("Picks", some "step") "step" "Picks.step" s_Picks_step, dd ("Picks", some "change") "change" "Picks.change" s_Picks_change, dd ("Picks", some "compared") "compared" "Picks.compared" s_Picks_compared, dd ("Sets", some "__init__") "__init__" "Sets.__init__" s_Sets_init, dd ("Sets", some "many") "many" "Sets.many" s_Sets_many, dd ("Sets", some "number") "number" "Sets.number" s_Sets_number, dd ("Sets", some "at") "at" "Sets.at" s_Sets_at, dd ("Sets", some "step") "step" "Sets.step" s_Sets_step, dd ("Sets", some "change") "change" "Sets.change" s_Sets_change, dd ("_law_mixed", none) "_law_mixed" "_law_mixed" s_l_mixed, dd ("_law_cell_at", none) "_law_cell_at" "_law_cell_at" s_l_cell_at, dd ("_law_wide", none) "_law_wide" "_law_wide" s_l_wide, dd ("_law_size", none) "_law_size" "_law_size" s_l_size, dd ("_law_kind", none) "_law_kind" "_law_kind" s_l_kind, dd ("_law_done", none) "_law_done" "_law_done" s_l_done, dd ("_law_number_of", none) "_law_number_of" "_law_number_of" s_l_number_of, dd ("_law_due", none) "_law_due" "_law_due" s_l_due] : List He.DefD) ++ ([dd ("_law_spoilt", none) "_law_spoilt" "_law_spoilt" s_l_spoilt, dd ("law", none) "law" "law" s_law] : List He.DefD)
def fas : List He.Fa := ([.glo "_wall", .glo "is_number", .glo "is_within", .glo "is_rising", .glo "ways", .glo "written", .glo "thing_of", .glo "read", .glo "_law_mixed", .glo "_law_cell_at", .glo "_law_wide", .glo "_law_size", .glo "_law_kind", .glo "_law_done", .glo "_law_number_of", .glo "_law_due", .glo "_law_spoilt", .glo "law", .glo "PickError", .glo "NoBounds", .glo "NoPick", .glo "NoNumber", .glo "NoChange", .glo "NoText", .glo "Picks", .glo "Sets", .free "len", .free "range", .free "isinstance", .free "int"] : List He.Fa) ++ ([.free "bool", .free "tuple", .free "list", .free "str", .free "min", .free "max", .free "reversed", .free "ValueError", .int "MOST_THINGS" 200, .str "FIGURES" "0123456789", .exc "PickError", .exc "NoBounds", .exc "NoPick", .exc "NoNumber", .exc "NoChange", .exc "NoText", .cls "Picks", .mkr "Picks", .noat "Picks" "things", .noat "Picks" "size", .meth "Picks" "many", .meth "Picks" "need", .meth "Picks" "number", .meth "Picks" "at", .meth "Picks" "step", .meth "Picks" "change", .meth "Picks" "compared", .cls "Sets", .mkr "Sets", .noat "Sets" "things"] : List He.Fa) ++ ([.meth "Sets" "many", .meth "Sets" "number", .meth "Sets" "at", .meth "Sets" "step", .meth "Sets" "change", .exm "PickError" "PickError" true, .exm "NoBounds" "PickError" true, .exm "NoPick" "PickError" true, .exm "NoNumber" "PickError" true, .exm "NoChange" "PickError" true, .exm "NoText" "PickError" true] : List He.Fa)
def tests : List (PySem.W.Frag → Bool) := [excB "NoBounds", kitV "NoBounds", kitE "NoBounds" "NoBounds" true, kitE "NoBounds" "NoPick" false, kitE "NoBounds" "NoNumber" false, kitE "NoBounds" "NoChange" false, kitE "NoBounds" "NoText" false, excB "NoPick", kitV "NoPick", kitE "NoPick" "NoBounds" false, kitE "NoPick" "NoPick" true, kitE "NoPick" "NoNumber" false, kitE "NoPick" "NoChange" false, kitE "NoPick" "NoText" false, excB "NoNumber", kitV "NoNumber", kitE "NoNumber" "NoBounds" false, kitE "NoNumber" "NoPick" false, kitE "NoNumber" "NoNumber" true, kitE "NoNumber" "NoChange" false, kitE "NoNumber" "NoText" false, excB "NoChange", kitV "NoChange", kitE "NoChange" "NoBounds" false, kitE "NoChange" "NoPick" false, kitE "NoChange" "NoNumber" false, kitE "NoChange" "NoChange" true, kitE "NoChange" "NoText" false, excB "NoText", kitV "NoText", kitE "NoText" "NoBounds" false, kitE "NoText" "NoPick" false, kitE "NoText" "NoNumber" false, kitE "NoText" "NoChange" false, kitE "NoText" "NoText" true]
abbrev Rw : PySem.W.OpenRow := PySem.W.OpenLaw.row PySem.Challenge.rw_doorpicks_k13_written_and_read
abbrev hk : PySem.W.Hook := hookM 6 fas tests fns
def ob (s : PySem.W.SharedT) : Seen := lookG 6 fas tests fns (HandSHeadRun.getT s)
theorem ob_eq (s : PySem.W.SharedT) : ob s = hk.obs s.abs := lookG_eq (HandSHeadRun.getT_eq s)
def loose : List Str := (["_wall", "__name__", "PickError", "NoBounds", "NoPick", "NoNumber", "NoChange", "NoText", "MOST_THINGS", "is_number", "is_within", "is_rising", "ways", "FIGURES", "written", "thing_of", "read", "Picks", "Sets", "_law_mixed", "_law_cell_at", "_law_wide", "_law_size", "_law_kind", "_law_done", "_law_number_of", "_law_due", "_law_spoilt"] : List Str)
theorem run (w : World) : HandSHeadRun.RunEq Rw (PySem.W.view Rw.prog [33]) hk ob 6000 loose w := by
  intro os
  kernel_rfl
/-- what the top has written, and where it stands -/
structure Wd (K : PySem.W.Frag) (mg : Str → Option Value) : Prop where
  told : Told fas tests fns K
  at_ : ∃ h : Heap, PySem.W.Frag.In K h ∧ h.Ns mainGlobals mg
section
variable {K : PySem.W.Frag} {mg : Str → Option Value}
theorem g__wall (T : Wd K mg) : mg "_wall" = some (.ref (He.ga K "_wall")) := by
  obtain ⟨h, X, G⟩ := T.at_
  exact He.glo_ok X G (T.told.fact 0)
theorem g_is_number (T : Wd K mg) : mg "is_number" = some (.ref (He.ga K "is_number")) := by
  obtain ⟨h, X, G⟩ := T.at_
  exact He.glo_ok X G (T.told.fact 1)
theorem g_is_within (T : Wd K mg) : mg "is_within" = some (.ref (He.ga K "is_within")) := by
  obtain ⟨h, X, G⟩ := T.at_
  exact He.glo_ok X G (T.told.fact 2)
theorem g_is_rising (T : Wd K mg) : mg "is_rising" = some (.ref (He.ga K "is_rising")) := by
  obtain ⟨h, X, G⟩ := T.at_
  exact He.glo_ok X G (T.told.fact 3)
theorem g_ways (T : Wd K mg) : mg "ways" = some (.ref (He.ga K "ways")) := by
  obtain ⟨h, X, G⟩ := T.at_
  exact He.glo_ok X G (T.told.fact 4)
theorem g_written (T : Wd K mg) : mg "written" = some (.ref (He.ga K "written")) := by
  obtain ⟨h, X, G⟩ := T.at_
  exact He.glo_ok X G (T.told.fact 5)
theorem g_thing_of (T : Wd K mg) : mg "thing_of" = some (.ref (He.ga K "thing_of")) := by
  obtain ⟨h, X, G⟩ := T.at_
  exact He.glo_ok X G (T.told.fact 6)
theorem g_read (T : Wd K mg) : mg "read" = some (.ref (He.ga K "read")) := by
  obtain ⟨h, X, G⟩ := T.at_
  exact He.glo_ok X G (T.told.fact 7)
theorem g__law_mixed (T : Wd K mg) : mg "_law_mixed" = some (.ref (He.ga K "_law_mixed")) := by
  obtain ⟨h, X, G⟩ := T.at_
  exact He.glo_ok X G (T.told.fact 8)
theorem g__law_cell_at (T : Wd K mg) : mg "_law_cell_at" = some (.ref (He.ga K "_law_cell_at")) := by
  obtain ⟨h, X, G⟩ := T.at_
  exact He.glo_ok X G (T.told.fact 9)
theorem g__law_wide (T : Wd K mg) : mg "_law_wide" = some (.ref (He.ga K "_law_wide")) := by
  obtain ⟨h, X, G⟩ := T.at_
  exact He.glo_ok X G (T.told.fact 10)
theorem g__law_size (T : Wd K mg) : mg "_law_size" = some (.ref (He.ga K "_law_size")) := by
  obtain ⟨h, X, G⟩ := T.at_
  exact He.glo_ok X G (T.told.fact 11)
theorem g__law_kind (T : Wd K mg) : mg "_law_kind" = some (.ref (He.ga K "_law_kind")) := by
  obtain ⟨h, X, G⟩ := T.at_
  exact He.glo_ok X G (T.told.fact 12)
theorem g__law_done (T : Wd K mg) : mg "_law_done" = some (.ref (He.ga K "_law_done")) := by
  obtain ⟨h, X, G⟩ := T.at_
  exact He.glo_ok X G (T.told.fact 13)
theorem g__law_number_of (T : Wd K mg) : mg "_law_number_of" = some (.ref (He.ga K "_law_number_of")) := by
  obtain ⟨h, X, G⟩ := T.at_
  exact He.glo_ok X G (T.told.fact 14)
theorem g__law_due (T : Wd K mg) : mg "_law_due" = some (.ref (He.ga K "_law_due")) := by
  obtain ⟨h, X, G⟩ := T.at_
  exact He.glo_ok X G (T.told.fact 15)
theorem g__law_spoilt (T : Wd K mg) : mg "_law_spoilt" = some (.ref (He.ga K "_law_spoilt")) := by
  obtain ⟨h, X, G⟩ := T.at_
  exact He.glo_ok X G (T.told.fact 16)
theorem g_law (T : Wd K mg) : mg "law" = some (.ref (He.ga K "law")) := by
  obtain ⟨h, X, G⟩ := T.at_
  exact He.glo_ok X G (T.told.fact 17)
theorem g_PickError (T : Wd K mg) : mg "PickError" = some (.ref (He.ga K "PickError")) := by
  obtain ⟨h, X, G⟩ := T.at_
  exact He.glo_ok X G (T.told.fact 18)
theorem g_NoBounds (T : Wd K mg) : mg "NoBounds" = some (.ref (He.ga K "NoBounds")) := by
  obtain ⟨h, X, G⟩ := T.at_
  exact He.glo_ok X G (T.told.fact 19)
theorem g_NoPick (T : Wd K mg) : mg "NoPick" = some (.ref (He.ga K "NoPick")) := by
  obtain ⟨h, X, G⟩ := T.at_
  exact He.glo_ok X G (T.told.fact 20)
theorem g_NoNumber (T : Wd K mg) : mg "NoNumber" = some (.ref (He.ga K "NoNumber")) := by
  obtain ⟨h, X, G⟩ := T.at_
  exact He.glo_ok X G (T.told.fact 21)
theorem g_NoChange (T : Wd K mg) : mg "NoChange" = some (.ref (He.ga K "NoChange")) := by
  obtain ⟨h, X, G⟩ := T.at_
  exact He.glo_ok X G (T.told.fact 22)
theorem g_NoText (T : Wd K mg) : mg "NoText" = some (.ref (He.ga K "NoText")) := by
  obtain ⟨h, X, G⟩ := T.at_
  exact He.glo_ok X G (T.told.fact 23)
theorem g_Picks (T : Wd K mg) : mg "Picks" = some (.ref (He.ga K "Picks")) := by
  obtain ⟨h, X, G⟩ := T.at_
  exact He.glo_ok X G (T.told.fact 24)
theorem g_Sets (T : Wd K mg) : mg "Sets" = some (.ref (He.ga K "Sets")) := by
  obtain ⟨h, X, G⟩ := T.at_
  exact He.glo_ok X G (T.told.fact 25)
theorem t_len (T : Wd K mg) : FreeN mg "len" := by
  obtain ⟨h, X, G⟩ := T.at_
  exact ⟨He.free_ok X G (T.told.fact 26), by decide +kernel, by decide +kernel⟩
theorem t_range (T : Wd K mg) : FreeN mg "range" := by
  obtain ⟨h, X, G⟩ := T.at_
  exact ⟨He.free_ok X G (T.told.fact 27), by decide +kernel, by decide +kernel⟩
theorem t_isinstance (T : Wd K mg) : FreeN mg "isinstance" := by
  obtain ⟨h, X, G⟩ := T.at_
  exact ⟨He.free_ok X G (T.told.fact 28), by decide +kernel, by decide +kernel⟩
theorem t_int (T : Wd K mg) : FreeN mg "int" := by
  obtain ⟨h, X, G⟩ := T.at_
  exact ⟨He.free_ok X G (T.told.fact 29), by decide +kernel, by decide +kernel⟩
theorem t_bool (T : Wd K mg) : FreeN mg "bool" := by
  obtain ⟨h, X, G⟩ := T.at_
  exact ⟨He.free_ok X G (T.told.fact 30), by decide +kernel, by decide +kernel⟩
theorem t_tuple (T : Wd K mg) : FreeN mg "tuple" := by
  obtain ⟨h, X, G⟩ := T.at_
  exact ⟨He.free_ok X G (T.told.fact 31), by decide +kernel, by decide +kernel⟩
theorem t_list (T : Wd K mg) : FreeN mg "list" := by
  obtain ⟨h, X, G⟩ := T.at_
  exact ⟨He.free_ok X G (T.told.fact 32), by decide +kernel, by decide +kernel⟩
theorem t_str (T : Wd K mg) : FreeN mg "str" := by
  obtain ⟨h, X, G⟩ := T.at_
  exact ⟨He.free_ok X G (T.told.fact 33), by decide +kernel, by decide +kernel⟩
theorem t_min (T : Wd K mg) : FreeN mg "min" := by
  obtain ⟨h, X, G⟩ := T.at_
  exact ⟨He.free_ok X G (T.told.fact 34), by decide +kernel, by decide +kernel⟩
theorem t_max (T : Wd K mg) : FreeN mg "max" := by
  obtain ⟨h, X, G⟩ := T.at_
  exact ⟨He.free_ok X G (T.told.fact 35), by decide +kernel, by decide +kernel⟩
theorem t_reversed (T : Wd K mg) : FreeN mg "reversed" := by
  obtain ⟨h, X, G⟩ := T.at_
  exact ⟨He.free_ok X G (T.told.fact 36), by decide +kernel, by decide +kernel⟩
theorem t_ValueError (T : Wd K mg) : FreeN mg "ValueError" := by
  obtain ⟨h, X, G⟩ := T.at_
  exact ⟨He.free_ok X G (T.told.fact 37), by decide +kernel, by decide +kernel⟩
theorem t_MOST_THINGS (T : Wd K mg) : GlobD K mg "MOST_THINGS" (.int 200) := by
  obtain ⟨h, X, G⟩ := T.at_
  obtain ⟨t, e⟩ := He.int_ok X G (T.told.fact 38)
  exact ⟨⟨.int 200, _, e, ⟨t, rfl⟩, fun _ => rfl⟩, by decide +kernel⟩
theorem t_FIGURES (T : Wd K mg) : GlobD K mg "FIGURES" (.str "0123456789") := by
  obtain ⟨h, X, G⟩ := T.at_
  obtain ⟨t, e⟩ := He.str_ok X G (T.told.fact 39)
  exact ⟨⟨.str "0123456789", _, e, ⟨t, rfl⟩, fun _ => rfl⟩, by decide +kernel⟩
abbrev ePickError (K : PySem.W.Frag) : Addr := He.ga K "PickError"
theorem x_PickError (T : Wd K mg) : ExcD K mg "PickError" (ePickError K) := by
  obtain ⟨h1, h2, h3, h4⟩ := He.exc_ok (T.told.fact 40)
  exact ⟨h1, g_PickError T, h2, h3, h4, by decide +kernel⟩
abbrev eNoBounds (K : PySem.W.Frag) : Addr := He.ga K "NoBounds"
theorem x_NoBounds (T : Wd K mg) : ExcD K mg "NoBounds" (eNoBounds K) := by
  obtain ⟨h1, h2, h3, h4⟩ := He.exc_ok (T.told.fact 41)
  exact ⟨h1, g_NoBounds T, h2, h3, h4, by decide +kernel⟩
abbrev eNoPick (K : PySem.W.Frag) : Addr := He.ga K "NoPick"
theorem x_NoPick (T : Wd K mg) : ExcD K mg "NoPick" (eNoPick K) := by
  obtain ⟨h1, h2, h3, h4⟩ := He.exc_ok (T.told.fact 42)
  exact ⟨h1, g_NoPick T, h2, h3, h4, by decide +kernel⟩
abbrev eNoNumber (K : PySem.W.Frag) : Addr := He.ga K "NoNumber"
theorem x_NoNumber (T : Wd K mg) : ExcD K mg "NoNumber" (eNoNumber K) := by
  obtain ⟨h1, h2, h3, h4⟩ := He.exc_ok (T.told.fact 43)
  exact ⟨h1, g_NoNumber T, h2, h3, h4, by decide +kernel⟩
abbrev eNoChange (K : PySem.W.Frag) : Addr := He.ga K "NoChange"
theorem x_NoChange (T : Wd K mg) : ExcD K mg "NoChange" (eNoChange K) := by
  obtain ⟨h1, h2, h3, h4⟩ := He.exc_ok (T.told.fact 44)
  exact ⟨h1, g_NoChange T, h2, h3, h4, by decide +kernel⟩
abbrev eNoText (K : PySem.W.Frag) : Addr := He.ga K "NoText"
theorem x_NoText (T : Wd K mg) : ExcD K mg "NoText" (eNoText K) := by
  obtain ⟨h1, h2, h3, h4⟩ := He.exc_ok (T.told.fact 45)
  exact ⟨h1, g_NoText T, h2, h3, h4, by decide +kernel⟩
abbrev cPicks (K : PySem.W.Frag) : Addr := He.ga K "Picks"
theorem cl_Picks (T : Wd K mg) : Cls K (cPicks K) := He.cls_ok (T.told.fact 46)
def nPicks : List Str := ["things", "size"]
theorem mk_Picks (T : Wd K mg) : Mk K (cPicks K) (He.ma K (cPicks K) "__init__") := He.mkr_ok (T.told.fact 47)
theorem na_Picks_things (T : Wd K mg) : NoAttr K (cPicks K) "things" := He.noat_ok (T.told.fact 48)
theorem fld_Picks_things (T : Wd K mg) : FldD K (cPicks K) nPicks "things" 0 := ⟨cl_Picks T, na_Picks_things T, by decide +kernel, rfl⟩
theorem na_Picks_size (T : Wd K mg) : NoAttr K (cPicks K) "size" := He.noat_ok (T.told.fact 49)
theorem fld_Picks_size (T : Wd K mg) : FldD K (cPicks K) nPicks "size" 1 := ⟨cl_Picks T, na_Picks_size T, by decide +kernel, rfl⟩
theorem me_Picks_many (T : Wd K mg) : Meth K (cPicks K) "many" (He.ma K (cPicks K) "many") := He.meth_ok (T.told.fact 50)
theorem no_Picks_many : ("many" : Str) ∉ nPicks := by decide +kernel
theorem me_Picks_need (T : Wd K mg) : Meth K (cPicks K) "need" (He.ma K (cPicks K) "need") := He.meth_ok (T.told.fact 51)
theorem no_Picks_need : ("need" : Str) ∉ nPicks := by decide +kernel
theorem me_Picks_number (T : Wd K mg) : Meth K (cPicks K) "number" (He.ma K (cPicks K) "number") := He.meth_ok (T.told.fact 52)
theorem no_Picks_number : ("number" : Str) ∉ nPicks := by decide +kernel
theorem me_Picks_at (T : Wd K mg) : Meth K (cPicks K) "at" (He.ma K (cPicks K) "at") := He.meth_ok (T.told.fact 53)
theorem no_Picks_at : ("at" : Str) ∉ nPicks := by decide +kernel
theorem me_Picks_step (T : Wd K mg) : Meth K (cPicks K) "step" (He.ma K (cPicks K) "step") := He.meth_ok (T.told.fact 54)
theorem no_Picks_step : ("step" : Str) ∉ nPicks := by decide +kernel
theorem me_Picks_change (T : Wd K mg) : Meth K (cPicks K) "change" (He.ma K (cPicks K) "change") := He.meth_ok (T.told.fact 55)
theorem no_Picks_change : ("change" : Str) ∉ nPicks := by decide +kernel
theorem me_Picks_compared (T : Wd K mg) : Meth K (cPicks K) "compared" (He.ma K (cPicks K) "compared") := He.meth_ok (T.told.fact 56)
theorem no_Picks_compared : ("compared" : Str) ∉ nPicks := by decide +kernel
abbrev cSets (K : PySem.W.Frag) : Addr := He.ga K "Sets"
theorem cl_Sets (T : Wd K mg) : Cls K (cSets K) := He.cls_ok (T.told.fact 57)
def nSets : List Str := ["things"]
theorem mk_Sets (T : Wd K mg) : Mk K (cSets K) (He.ma K (cSets K) "__init__") := He.mkr_ok (T.told.fact 58)
theorem na_Sets_things (T : Wd K mg) : NoAttr K (cSets K) "things" := He.noat_ok (T.told.fact 59)
theorem fld_Sets_things (T : Wd K mg) : FldD K (cSets K) nSets "things" 0 := ⟨cl_Sets T, na_Sets_things T, by decide +kernel, rfl⟩
theorem me_Sets_many (T : Wd K mg) : Meth K (cSets K) "many" (He.ma K (cSets K) "many") := He.meth_ok (T.told.fact 60)
theorem no_Sets_many : ("many" : Str) ∉ nSets := by decide +kernel
theorem me_Sets_number (T : Wd K mg) : Meth K (cSets K) "number" (He.ma K (cSets K) "number") := He.meth_ok (T.told.fact 61)
theorem no_Sets_number : ("number" : Str) ∉ nSets := by decide +kernel
theorem me_Sets_at (T : Wd K mg) : Meth K (cSets K) "at" (He.ma K (cSets K) "at") := He.meth_ok (T.told.fact 62)
theorem no_Sets_at : ("at" : Str) ∉ nSets := by decide +kernel
theorem me_Sets_step (T : Wd K mg) : Meth K (cSets K) "step" (He.ma K (cSets K) "step") := He.meth_ok (T.told.fact 63)
theorem no_Sets_step : ("step" : Str) ∉ nSets := by decide +kernel
theorem me_Sets_change (T : Wd K mg) : Meth K (cSets K) "change" (He.ma K (cSets K) "change") := He.meth_ok (T.told.fact 64)
theorem no_Sets_change : ("change" : Str) ∉ nSets := by decide +kernel
theorem xm_PickError (T : Wd K mg) : PySem.W.exmOne K (.ref (ePickError K)) (.ref (ePickError K)) = some true := He.exm_ok (T.told.fact 65)
theorem xm_NoBounds (T : Wd K mg) : PySem.W.exmOne K (.ref (eNoBounds K)) (.ref (ePickError K)) = some true := He.exm_ok (T.told.fact 66)
theorem xm_NoPick (T : Wd K mg) : PySem.W.exmOne K (.ref (eNoPick K)) (.ref (ePickError K)) = some true := He.exm_ok (T.told.fact 67)
theorem xm_NoNumber (T : Wd K mg) : PySem.W.exmOne K (.ref (eNoNumber K)) (.ref (ePickError K)) = some true := He.exm_ok (T.told.fact 68)
theorem xm_NoChange (T : Wd K mg) : PySem.W.exmOne K (.ref (eNoChange K)) (.ref (ePickError K)) = some true := He.exm_ok (T.told.fact 69)
theorem xm_NoText (T : Wd K mg) : PySem.W.exmOne K (.ref (eNoText K)) (.ref (ePickError K)) = some true := He.exm_ok (T.told.fact 70)
theorem ec_NoBounds (T : Wd K mg) : ExcC K (eNoBounds K) := excB_ok (T.told.test 0)
theorem kv_NoBounds (T : Wd K mg) : PySem.W.kitOne K (.ref (eNoBounds K)) (.type "ValueError") = some true := of_decide_eq_true (T.told.test 1)
theorem kt_NoBounds_NoBounds (T : Wd K mg) : PySem.W.kitOne K (.ref (eNoBounds K)) (.ref (eNoBounds K)) = some true := of_decide_eq_true (T.told.test 2)
theorem kt_NoBounds_NoPick (T : Wd K mg) : PySem.W.kitOne K (.ref (eNoBounds K)) (.ref (eNoPick K)) = some false := of_decide_eq_true (T.told.test 3)
theorem kt_NoBounds_NoNumber (T : Wd K mg) : PySem.W.kitOne K (.ref (eNoBounds K)) (.ref (eNoNumber K)) = some false := of_decide_eq_true (T.told.test 4)
theorem kt_NoBounds_NoChange (T : Wd K mg) : PySem.W.kitOne K (.ref (eNoBounds K)) (.ref (eNoChange K)) = some false := of_decide_eq_true (T.told.test 5)
theorem kt_NoBounds_NoText (T : Wd K mg) : PySem.W.kitOne K (.ref (eNoBounds K)) (.ref (eNoText K)) = some false := of_decide_eq_true (T.told.test 6)
theorem k_NoBounds (T : Wd K mg) : GlobD K mg "NoBounds" (.fn (eNoBounds K)) := ⟨⟨.ref (eNoBounds K), _, g_NoBounds T, rfl, fun _ => rfl⟩, by decide +kernel⟩
theorem ec_NoPick (T : Wd K mg) : ExcC K (eNoPick K) := excB_ok (T.told.test 7)
theorem kv_NoPick (T : Wd K mg) : PySem.W.kitOne K (.ref (eNoPick K)) (.type "ValueError") = some true := of_decide_eq_true (T.told.test 8)
theorem kt_NoPick_NoBounds (T : Wd K mg) : PySem.W.kitOne K (.ref (eNoPick K)) (.ref (eNoBounds K)) = some false := of_decide_eq_true (T.told.test 9)
theorem kt_NoPick_NoPick (T : Wd K mg) : PySem.W.kitOne K (.ref (eNoPick K)) (.ref (eNoPick K)) = some true := of_decide_eq_true (T.told.test 10)
theorem kt_NoPick_NoNumber (T : Wd K mg) : PySem.W.kitOne K (.ref (eNoPick K)) (.ref (eNoNumber K)) = some false := of_decide_eq_true (T.told.test 11)
theorem kt_NoPick_NoChange (T : Wd K mg) : PySem.W.kitOne K (.ref (eNoPick K)) (.ref (eNoChange K)) = some false := of_decide_eq_true (T.told.test 12)
theorem kt_NoPick_NoText (T : Wd K mg) : PySem.W.kitOne K (.ref (eNoPick K)) (.ref (eNoText K)) = some false := of_decide_eq_true (T.told.test 13)
theorem k_NoPick (T : Wd K mg) : GlobD K mg "NoPick" (.fn (eNoPick K)) := ⟨⟨.ref (eNoPick K), _, g_NoPick T, rfl, fun _ => rfl⟩, by decide +kernel⟩
theorem ec_NoNumber (T : Wd K mg) : ExcC K (eNoNumber K) := excB_ok (T.told.test 14)
theorem kv_NoNumber (T : Wd K mg) : PySem.W.kitOne K (.ref (eNoNumber K)) (.type "ValueError") = some true := of_decide_eq_true (T.told.test 15)
theorem kt_NoNumber_NoBounds (T : Wd K mg) : PySem.W.kitOne K (.ref (eNoNumber K)) (.ref (eNoBounds K)) = some false := of_decide_eq_true (T.told.test 16)
theorem kt_NoNumber_NoPick (T : Wd K mg) : PySem.W.kitOne K (.ref (eNoNumber K)) (.ref (eNoPick K)) = some false := of_decide_eq_true (T.told.test 17)
theorem kt_NoNumber_NoNumber (T : Wd K mg) : PySem.W.kitOne K (.ref (eNoNumber K)) (.ref (eNoNumber K)) = some true := of_decide_eq_true (T.told.test 18)
theorem kt_NoNumber_NoChange (T : Wd K mg) : PySem.W.kitOne K (.ref (eNoNumber K)) (.ref (eNoChange K)) = some false := of_decide_eq_true (T.told.test 19)
theorem kt_NoNumber_NoText (T : Wd K mg) : PySem.W.kitOne K (.ref (eNoNumber K)) (.ref (eNoText K)) = some false := of_decide_eq_true (T.told.test 20)
theorem k_NoNumber (T : Wd K mg) : GlobD K mg "NoNumber" (.fn (eNoNumber K)) := ⟨⟨.ref (eNoNumber K), _, g_NoNumber T, rfl, fun _ => rfl⟩, by decide +kernel⟩
theorem ec_NoChange (T : Wd K mg) : ExcC K (eNoChange K) := excB_ok (T.told.test 21)
theorem kv_NoChange (T : Wd K mg) : PySem.W.kitOne K (.ref (eNoChange K)) (.type "ValueError") = some true := of_decide_eq_true (T.told.test 22)
theorem kt_NoChange_NoBounds (T : Wd K mg) : PySem.W.kitOne K (.ref (eNoChange K)) (.ref (eNoBounds K)) = some false := of_decide_eq_true (T.told.test 23)
theorem kt_NoChange_NoPick (T : Wd K mg) : PySem.W.kitOne K (.ref (eNoChange K)) (.ref (eNoPick K)) = some false := of_decide_eq_true (T.told.test 24)
theorem kt_NoChange_NoNumber (T : Wd K mg) : PySem.W.kitOne K (.ref (eNoChange K)) (.ref (eNoNumber K)) = some false := of_decide_eq_true (T.told.test 25)
theorem kt_NoChange_NoChange (T : Wd K mg) : PySem.W.kitOne K (.ref (eNoChange K)) (.ref (eNoChange K)) = some true := of_decide_eq_true (T.told.test 26)
theorem kt_NoChange_NoText (T : Wd K mg) : PySem.W.kitOne K (.ref (eNoChange K)) (.ref (eNoText K)) = some false := of_decide_eq_true (T.told.test 27)
theorem k_NoChange (T : Wd K mg) : GlobD K mg "NoChange" (.fn (eNoChange K)) := ⟨⟨.ref (eNoChange K), _, g_NoChange T, rfl, fun _ => rfl⟩, by decide +kernel⟩
theorem ec_NoText (T : Wd K mg) : ExcC K (eNoText K) := excB_ok (T.told.test 28)
theorem kv_NoText (T : Wd K mg) : PySem.W.kitOne K (.ref (eNoText K)) (.type "ValueError") = some true := of_decide_eq_true (T.told.test 29)
theorem kt_NoText_NoBounds (T : Wd K mg) : PySem.W.kitOne K (.ref (eNoText K)) (.ref (eNoBounds K)) = some false := of_decide_eq_true (T.told.test 30)
theorem kt_NoText_NoPick (T : Wd K mg) : PySem.W.kitOne K (.ref (eNoText K)) (.ref (eNoPick K)) = some false := of_decide_eq_true (T.told.test 31)
theorem kt_NoText_NoNumber (T : Wd K mg) : PySem.W.kitOne K (.ref (eNoText K)) (.ref (eNoNumber K)) = some false := of_decide_eq_true (T.told.test 32)
theorem kt_NoText_NoChange (T : Wd K mg) : PySem.W.kitOne K (.ref (eNoText K)) (.ref (eNoChange K)) = some false := of_decide_eq_true (T.told.test 33)
theorem kt_NoText_NoText (T : Wd K mg) : PySem.W.kitOne K (.ref (eNoText K)) (.ref (eNoText K)) = some true := of_decide_eq_true (T.told.test 34)
theorem k_NoText (T : Wd K mg) : GlobD K mg "NoText" (.fn (eNoText K)) := ⟨⟨.ref (eNoText K), _, g_NoText T, rfl, fun _ => rfl⟩, by decide +kernel⟩
theorem f__wall (T : Wd K mg) : ∃ fd, Fun K "_wall" "_wall" s__wall (He.fAd K ("_wall", none)) fd ∧ Binds K fd ["k"] [] := by
  obtain ⟨fd, F⟩ := T.told.fund 0
  have F2 : Fun K "_wall" "_wall" s__wall (He.fAd K ("_wall", none)) fd := fun_of F
  exact ⟨fd, F2, F2.binds fun _ _ _ _ _ _ us hl => match us, hl with | [_], _ => rfl⟩
abbrev N__wall : List Str := ["k"]
theorem sc__wall : FnScope ["k"] ["k"] (defScope s__wall) := ⟨rfl, rfl, rfl, by decide +kernel, rfl, by decide +kernel, by decide +kernel⟩
theorem f_is_number (T : Wd K mg) : ∃ fd, Fun K "is_number" "is_number" s_is_number (He.fAd K ("is_number", none)) fd ∧ Binds K fd ["thing"] [] := by
  obtain ⟨fd, F⟩ := T.told.fund 1
  have F2 : Fun K "is_number" "is_number" s_is_number (He.fAd K ("is_number", none)) fd := fun_of F
  exact ⟨fd, F2, F2.binds fun _ _ _ _ _ _ us hl => match us, hl with | [_], _ => rfl⟩
abbrev N_is_number : List Str := ["thing"]
theorem sc_is_number : FnScope ["thing"] ["thing"] (defScope s_is_number) := ⟨rfl, rfl, rfl, by decide +kernel, rfl, by decide +kernel, by decide +kernel⟩
theorem f_is_within (T : Wd K mg) : ∃ fd, Fun K "is_within" "is_within" s_is_within (He.fAd K ("is_within", none)) fd ∧ Binds K fd ["thing", "least", "most"] [] := by
  obtain ⟨fd, F⟩ := T.told.fund 2
  have F2 : Fun K "is_within" "is_within" s_is_within (He.fAd K ("is_within", none)) fd := fun_of F
  exact ⟨fd, F2, F2.binds fun _ _ _ _ _ _ us hl => match us, hl with | [_, _, _], _ => rfl⟩
abbrev N_is_within : List Str := ["thing", "least", "most"]
theorem sc_is_within : FnScope ["thing", "least", "most"] ["thing", "least", "most"] (defScope s_is_within) := ⟨rfl, rfl, rfl, by decide +kernel, rfl, by decide +kernel, by decide +kernel⟩
theorem f_is_rising (T : Wd K mg) : ∃ fd, Fun K "is_rising" "is_rising" s_is_rising (He.fAd K ("is_rising", none)) fd ∧ Binds K fd ["things", "many"] [] := by
  obtain ⟨fd, F⟩ := T.told.fund 3
  have F2 : Fun K "is_rising" "is_rising" s_is_rising (He.fAd K ("is_rising", none)) fd := fun_of F
  exact ⟨fd, F2, F2.binds fun _ _ _ _ _ _ us hl => match us, hl with | [_, _], _ => rfl⟩
abbrev N_is_rising : List Str := ["things", "many", "ahead", "thing"]
theorem sc_is_rising : FnScope ["things", "many", "ahead", "thing"] ["things", "many"] (defScope s_is_rising) := ⟨rfl, rfl, rfl, by decide +kernel, rfl, by decide +kernel, by decide +kernel⟩
theorem f_ways (T : Wd K mg) : ∃ fd, Fun K "ways" "ways" s_ways (He.fAd K ("ways", none)) fd ∧ Binds K fd ["many", "few"] [] := by
  obtain ⟨fd, F⟩ := T.told.fund 4
  have F2 : Fun K "ways" "ways" s_ways (He.fAd K ("ways", none)) fd := fun_of F
  exact ⟨fd, F2, F2.binds fun _ _ _ _ _ _ us hl => match us, hl with | [_, _], _ => rfl⟩
abbrev N_ways : List Str := ["many", "few", "found", "k"]
theorem sc_ways : FnScope ["many", "few", "found", "k"] ["many", "few"] (defScope s_ways) := ⟨rfl, rfl, rfl, by decide +kernel, rfl, by decide +kernel, by decide +kernel⟩
theorem f_written (T : Wd K mg) : ∃ fd, Fun K "written" "written" s_written (He.fAd K ("written", none)) fd ∧ Binds K fd ["pick"] [] := by
  obtain ⟨fd, F⟩ := T.told.fund 5
  have F2 : Fun K "written" "written" s_written (He.fAd K ("written", none)) fd := fun_of F
  exact ⟨fd, F2, F2.binds fun _ _ _ _ _ _ us hl => match us, hl with | [_], _ => rfl⟩
abbrev N_written : List Str := ["pick", "thing"]
theorem sc_written : FnScope ["pick", "thing"] ["pick"] (defScope s_written) := ⟨rfl, rfl, rfl, by decide +kernel, rfl, by decide +kernel, by decide +kernel⟩
theorem f_thing_of (T : Wd K mg) : ∃ fd, Fun K "thing_of" "thing_of" s_thing_of (He.fAd K ("thing_of", none)) fd ∧ Binds K fd ["word"] [] := by
  obtain ⟨fd, F⟩ := T.told.fund 6
  have F2 : Fun K "thing_of" "thing_of" s_thing_of (He.fAd K ("thing_of", none)) fd := fun_of F
  exact ⟨fd, F2, F2.binds fun _ _ _ _ _ _ us hl => match us, hl with | [_], _ => rfl⟩
abbrev N_thing_of : List Str := ["word"]
theorem sc_thing_of : FnScope ["word"] ["word"] (defScope s_thing_of) := ⟨rfl, rfl, rfl, by decide +kernel, rfl, by decide +kernel, by decide +kernel⟩
theorem f_read (T : Wd K mg) : ∃ fd, Fun K "read" "read" s_read (He.fAd K ("read", none)) fd ∧ Binds K fd ["text"] [] := by
  obtain ⟨fd, F⟩ := T.told.fund 7
  have F2 : Fun K "read" "read" s_read (He.fAd K ("read", none)) fd := fun_of F
  exact ⟨fd, F2, F2.binds fun _ _ _ _ _ _ us hl => match us, hl with | [_], _ => rfl⟩
abbrev N_read : List Str := ["text", "found", "word"]
theorem sc_read : FnScope ["text", "found", "word"] ["text"] (defScope s_read) := ⟨rfl, rfl, rfl, by decide +kernel, rfl, by decide +kernel, by decide +kernel⟩
theorem f_Picks_init (T : Wd K mg) : ∃ fd, Fun K "__init__" "Picks.__init__" s_Picks_init (He.fAd K ("Picks", some "__init__")) fd ∧ Binds K fd ["self", "things", "size"] [] := by
  obtain ⟨fd, F⟩ := T.told.fund 8
  have F2 : Fun K "__init__" "Picks.__init__" s_Picks_init (He.fAd K ("Picks", some "__init__")) fd := fun_of F
  exact ⟨fd, F2, F2.binds fun _ _ _ _ _ _ us hl => match us, hl with | [_, _, _], _ => rfl⟩
abbrev N_Picks_init : List Str := ["self", "things", "size"]
theorem sc_Picks_init : FnScope ["self", "things", "size"] ["self", "things", "size"] (defScope s_Picks_init) := ⟨rfl, rfl, rfl, by decide +kernel, rfl, by decide +kernel, by decide +kernel⟩
theorem f_Picks_many (T : Wd K mg) : ∃ fd, Fun K "many" "Picks.many" s_Picks_many (He.fAd K ("Picks", some "many")) fd ∧ Binds K fd ["self"] [] := by
  obtain ⟨fd, F⟩ := T.told.fund 9
  have F2 : Fun K "many" "Picks.many" s_Picks_many (He.fAd K ("Picks", some "many")) fd := fun_of F
  exact ⟨fd, F2, F2.binds fun _ _ _ _ _ _ us hl => match us, hl with | [_], _ => rfl⟩
abbrev N_Picks_many : List Str := ["self"]
theorem sc_Picks_many : FnScope ["self"] ["self"] (defScope s_Picks_many) := ⟨rfl, rfl, rfl, by decide +kernel, rfl, by decide +kernel, by decide +kernel⟩
theorem f_Picks_need (T : Wd K mg) : ∃ fd, Fun K "need" "Picks.need" s_Picks_need (He.fAd K ("Picks", some "need")) fd ∧ Binds K fd ["self", "pick"] [] := by
  obtain ⟨fd, F⟩ := T.told.fund 10
  have F2 : Fun K "need" "Picks.need" s_Picks_need (He.fAd K ("Picks", some "need")) fd := fun_of F
  exact ⟨fd, F2, F2.binds fun _ _ _ _ _ _ us hl => match us, hl with | [_, _], _ => rfl⟩
abbrev N_Picks_need : List Str := ["self", "pick"]
theorem sc_Picks_need : FnScope ["self", "pick"] ["self", "pick"] (defScope s_Picks_need) := ⟨rfl, rfl, rfl, by decide +kernel, rfl, by decide +kernel, by decide +kernel⟩
theorem f_Picks_number (T : Wd K mg) : ∃ fd, Fun K "number" "Picks.number" s_Picks_number (He.fAd K ("Picks", some "number")) fd ∧ Binds K fd ["self", "pick"] [] := by
  obtain ⟨fd, F⟩ := T.told.fund 11
  have F2 : Fun K "number" "Picks.number" s_Picks_number (He.fAd K ("Picks", some "number")) fd := fun_of F
  exact ⟨fd, F2, F2.binds fun _ _ _ _ _ _ us hl => match us, hl with | [_, _], _ => rfl⟩
abbrev N_Picks_number : List Str := ["self", "pick", "found", "place"]
theorem sc_Picks_number : FnScope ["self", "pick", "found", "place"] ["self", "pick"] (defScope s_Picks_number) := ⟨rfl, rfl, rfl, by decide +kernel, rfl, by decide +kernel, by decide +kernel⟩
theorem f_Picks_at (T : Wd K mg) : ∃ fd, Fun K "at" "Picks.at" s_Picks_at (He.fAd K ("Picks", some "at")) fd ∧ Binds K fd ["self", "number"] [] := by
  obtain ⟨fd, F⟩ := T.told.fund 12
  have F2 : Fun K "at" "Picks.at" s_Picks_at (He.fAd K ("Picks", some "at")) fd := fun_of F
  exact ⟨fd, F2, F2.binds fun _ _ _ _ _ _ us hl => match us, hl with | [_, _], _ => rfl⟩
abbrev N_Picks_at : List Str := ["self", "number", "found", "left", "few"]
theorem sc_Picks_at : FnScope ["self", "number", "found", "left", "few"] ["self", "number"] (defScope s_Picks_at) := ⟨rfl, rfl, rfl, by decide +kernel, rfl, by decide +kernel, by decide +kernel⟩
theorem f_Picks_step (T : Wd K mg) : ∃ fd, Fun K "step" "Picks.step" s_Picks_step (He.fAd K ("Picks", some "step")) fd ∧ Binds K fd ["self", "pick", "by"] [] := by
  obtain ⟨fd, F⟩ := T.told.fund 13
  have F2 : Fun K "step" "Picks.step" s_Picks_step (He.fAd K ("Picks", some "step")) fd := fun_of F
  exact ⟨fd, F2, F2.binds fun _ _ _ _ _ _ us hl => match us, hl with | [_, _, _], _ => rfl⟩
abbrev N_Picks_step : List Str := ["self", "pick", "by"]
theorem sc_Picks_step : FnScope ["self", "pick", "by"] ["self", "pick", "by"] (defScope s_Picks_step) := ⟨rfl, rfl, rfl, by decide +kernel, rfl, by decide +kernel, by decide +kernel⟩
theorem f_Picks_change (T : Wd K mg) : ∃ fd, Fun K "change" "Picks.change" s_Picks_change (He.fAd K ("Picks", some "change")) fd ∧ Binds K fd ["self", "pick"] [] := by
  obtain ⟨fd, F⟩ := T.told.fund 14
  have F2 : Fun K "change" "Picks.change" s_Picks_change (He.fAd K ("Picks", some "change")) fd := fun_of F
  exact ⟨fd, F2, F2.binds fun _ _ _ _ _ _ us hl => match us, hl with | [_, _], _ => rfl⟩
abbrev N_Picks_change : List Str := ["self", "pick", "later", "out", "fresh", "thing"]
theorem sc_Picks_change : FnScope ["self", "pick", "later", "out", "fresh", "thing"] ["self", "pick"] (defScope s_Picks_change) := ⟨rfl, rfl, rfl, by decide +kernel, rfl, by decide +kernel, by decide +kernel⟩
theorem f_Picks_compared (T : Wd K mg) : ∃ fd, Fun K "compared" "Picks.compared" s_Picks_compared (He.fAd K ("Picks", some "compared")) fd ∧ Binds K fd ["self", "one", "other"] [] := by
  obtain ⟨fd, F⟩ := T.told.fund 15
  have F2 : Fun K "compared" "Picks.compared" s_Picks_compared (He.fAd K ("Picks", some "compared")) fd := fun_of F
  exact ⟨fd, F2, F2.binds fun _ _ _ _ _ _ us hl => match us, hl with | [_, _, _], _ => rfl⟩
abbrev N_Picks_compared : List Str := ["self", "one", "other"]
theorem sc_Picks_compared : FnScope ["self", "one", "other"] ["self", "one", "other"] (defScope s_Picks_compared) := ⟨rfl, rfl, rfl, by decide +kernel, rfl, by decide +kernel, by decide +kernel⟩
theorem f_Sets_init (T : Wd K mg) : ∃ fd, Fun K "__init__" "Sets.__init__" s_Sets_init (He.fAd K ("Sets", some "__init__")) fd ∧ Binds K fd ["self", "things"] [] := by
  obtain ⟨fd, F⟩ := T.told.fund 16
  have F2 : Fun K "__init__" "Sets.__init__" s_Sets_init (He.fAd K ("Sets", some "__init__")) fd := fun_of F
  exact ⟨fd, F2, F2.binds fun _ _ _ _ _ _ us hl => match us, hl with | [_, _], _ => rfl⟩
abbrev N_Sets_init : List Str := ["self", "things"]
theorem sc_Sets_init : FnScope ["self", "things"] ["self", "things"] (defScope s_Sets_init) := ⟨rfl, rfl, rfl, by decide +kernel, rfl, by decide +kernel, by decide +kernel⟩
theorem f_Sets_many (T : Wd K mg) : ∃ fd, Fun K "many" "Sets.many" s_Sets_many (He.fAd K ("Sets", some "many")) fd ∧ Binds K fd ["self"] [] := by
  obtain ⟨fd, F⟩ := T.told.fund 17
  have F2 : Fun K "many" "Sets.many" s_Sets_many (He.fAd K ("Sets", some "many")) fd := fun_of F
  exact ⟨fd, F2, F2.binds fun _ _ _ _ _ _ us hl => match us, hl with | [_], _ => rfl⟩
abbrev N_Sets_many : List Str := ["self"]
theorem sc_Sets_many : FnScope ["self"] ["self"] (defScope s_Sets_many) := ⟨rfl, rfl, rfl, by decide +kernel, rfl, by decide +kernel, by decide +kernel⟩
theorem f_Sets_number (T : Wd K mg) : ∃ fd, Fun K "number" "Sets.number" s_Sets_number (He.fAd K ("Sets", some "number")) fd ∧ Binds K fd ["self", "some"] [] := by
  obtain ⟨fd, F⟩ := T.told.fund 18
  have F2 : Fun K "number" "Sets.number" s_Sets_number (He.fAd K ("Sets", some "number")) fd := fun_of F
  exact ⟨fd, F2, F2.binds fun _ _ _ _ _ _ us hl => match us, hl with | [_, _], _ => rfl⟩
abbrev N_Sets_number : List Str := ["self", "some", "found", "thing", "here"]
theorem sc_Sets_number : FnScope ["self", "some", "found", "thing", "here"] ["self", "some"] (defScope s_Sets_number) := ⟨rfl, rfl, rfl, by decide +kernel, rfl, by decide +kernel, by decide +kernel⟩
theorem f_Sets_at (T : Wd K mg) : ∃ fd, Fun K "at" "Sets.at" s_Sets_at (He.fAd K ("Sets", some "at")) fd ∧ Binds K fd ["self", "number"] [] := by
  obtain ⟨fd, F⟩ := T.told.fund 19
  have F2 : Fun K "at" "Sets.at" s_Sets_at (He.fAd K ("Sets", some "at")) fd := fun_of F
  exact ⟨fd, F2, F2.binds fun _ _ _ _ _ _ us hl => match us, hl with | [_, _], _ => rfl⟩
abbrev N_Sets_at : List Str := ["self", "number", "thing"]
theorem sc_Sets_at : FnScope ["self", "number", "thing"] ["self", "number"] (defScope s_Sets_at) := ⟨rfl, rfl, rfl, by decide +kernel, rfl, by decide +kernel, by decide +kernel⟩
theorem f_Sets_step (T : Wd K mg) : ∃ fd, Fun K "step" "Sets.step" s_Sets_step (He.fAd K ("Sets", some "step")) fd ∧ Binds K fd ["self", "some", "by"] [] := by
  obtain ⟨fd, F⟩ := T.told.fund 20
  have F2 : Fun K "step" "Sets.step" s_Sets_step (He.fAd K ("Sets", some "step")) fd := fun_of F
  exact ⟨fd, F2, F2.binds fun _ _ _ _ _ _ us hl => match us, hl with | [_, _, _], _ => rfl⟩
abbrev N_Sets_step : List Str := ["self", "some", "by"]
theorem sc_Sets_step : FnScope ["self", "some", "by"] ["self", "some", "by"] (defScope s_Sets_step) := ⟨rfl, rfl, rfl, by decide +kernel, rfl, by decide +kernel, by decide +kernel⟩
theorem f_Sets_change (T : Wd K mg) : ∃ fd, Fun K "change" "Sets.change" s_Sets_change (He.fAd K ("Sets", some "change")) fd ∧ Binds K fd ["self", "some"] [] := by
  obtain ⟨fd, F⟩ := T.told.fund 21
  have F2 : Fun K "change" "Sets.change" s_Sets_change (He.fAd K ("Sets", some "change")) fd := fun_of F
  exact ⟨fd, F2, F2.binds fun _ _ _ _ _ _ us hl => match us, hl with | [_, _], _ => rfl⟩
abbrev N_Sets_change : List Str := ["self", "some", "number", "later", "thing"]
theorem sc_Sets_change : FnScope ["self", "some", "number", "later", "thing"] ["self", "some"] (defScope s_Sets_change) := ⟨rfl, rfl, rfl, by decide +kernel, rfl, by decide +kernel, by decide +kernel⟩
theorem f_l_mixed (T : Wd K mg) : ∃ fd, Fun K "_law_mixed" "_law_mixed" s_l_mixed (He.fAd K ("_law_mixed", none)) fd ∧ Binds K fd ["_law_cell", "_law_k"] [] := by
  obtain ⟨fd, F⟩ := T.told.fund 22
  have F2 : Fun K "_law_mixed" "_law_mixed" s_l_mixed (He.fAd K ("_law_mixed", none)) fd := fun_of F
  exact ⟨fd, F2, F2.binds fun _ _ _ _ _ _ us hl => match us, hl with | [_, _], _ => rfl⟩
abbrev N_l_mixed : List Str := ["_law_cell", "_law_k", "_law_mix"]
theorem sc_l_mixed : FnScope ["_law_cell", "_law_k", "_law_mix"] ["_law_cell", "_law_k"] (defScope s_l_mixed) := ⟨rfl, rfl, rfl, by decide +kernel, rfl, by decide +kernel, by decide +kernel⟩
theorem f_l_cell_at (T : Wd K mg) : ∃ fd, Fun K "_law_cell_at" "_law_cell_at" s_l_cell_at (He.fAd K ("_law_cell_at", none)) fd ∧ Binds K fd ["_law_script", "_law_k"] [] := by
  obtain ⟨fd, F⟩ := T.told.fund 23
  have F2 : Fun K "_law_cell_at" "_law_cell_at" s_l_cell_at (He.fAd K ("_law_cell_at", none)) fd := fun_of F
  exact ⟨fd, F2, F2.binds fun _ _ _ _ _ _ us hl => match us, hl with | [_, _], _ => rfl⟩
abbrev N_l_cell_at : List Str := ["_law_script", "_law_k", "_law_cell"]
theorem sc_l_cell_at : FnScope ["_law_script", "_law_k", "_law_cell"] ["_law_script", "_law_k"] (defScope s_l_cell_at) := ⟨rfl, rfl, rfl, by decide +kernel, rfl, by decide +kernel, by decide +kernel⟩
theorem f_l_wide (T : Wd K mg) : ∃ fd, Fun K "_law_wide" "_law_wide" s_l_wide (He.fAd K ("_law_wide", none)) fd ∧ Binds K fd ["_law_cell", "_law_bound"] [] := by
  obtain ⟨fd, F⟩ := T.told.fund 24
  have F2 : Fun K "_law_wide" "_law_wide" s_l_wide (He.fAd K ("_law_wide", none)) fd := fun_of F
  exact ⟨fd, F2, F2.binds fun _ _ _ _ _ _ us hl => match us, hl with | [_, _], _ => rfl⟩
abbrev N_l_wide : List Str := ["_law_cell", "_law_bound", "_law_found", "_law_k"]
theorem sc_l_wide : FnScope ["_law_cell", "_law_bound", "_law_found", "_law_k"] ["_law_cell", "_law_bound"] (defScope s_l_wide) := ⟨rfl, rfl, rfl, by decide +kernel, rfl, by decide +kernel, by decide +kernel⟩
theorem f_l_size (T : Wd K mg) : ∃ fd, Fun K "_law_size" "_law_size" s_l_size (He.fAd K ("_law_size", none)) fd ∧ Binds K fd ["_law_cell"] [] := by
  obtain ⟨fd, F⟩ := T.told.fund 25
  have F2 : Fun K "_law_size" "_law_size" s_l_size (He.fAd K ("_law_size", none)) fd := fun_of F
  exact ⟨fd, F2, F2.binds fun _ _ _ _ _ _ us hl => match us, hl with | [_], _ => rfl⟩
abbrev N_l_size : List Str := ["_law_cell", "_law_things", "_law_sizes"]
theorem sc_l_size : FnScope ["_law_cell", "_law_things", "_law_sizes"] ["_law_cell"] (defScope s_l_size) := ⟨rfl, rfl, rfl, by decide +kernel, rfl, by decide +kernel, by decide +kernel⟩
theorem f_l_kind (T : Wd K mg) : ∃ fd, Fun K "_law_kind" "_law_kind" s_l_kind (He.fAd K ("_law_kind", none)) fd ∧ Binds K fd ["_law_e"] [] := by
  obtain ⟨fd, F⟩ := T.told.fund 26
  have F2 : Fun K "_law_kind" "_law_kind" s_l_kind (He.fAd K ("_law_kind", none)) fd := fun_of F
  exact ⟨fd, F2, F2.binds fun _ _ _ _ _ _ us hl => match us, hl with | [_], _ => rfl⟩
abbrev N_l_kind : List Str := ["_law_e", "_law_marks"]
theorem sc_l_kind : FnScope ["_law_e", "_law_marks"] ["_law_e"] (defScope s_l_kind) := ⟨rfl, rfl, rfl, by decide +kernel, rfl, by decide +kernel, by decide +kernel⟩
theorem f_l_done (T : Wd K mg) : ∃ fd, Fun K "_law_done" "_law_done" s_l_done (He.fAd K ("_law_done", none)) fd ∧ Binds K fd ["_law_work", "_law_thing"] [] := by
  obtain ⟨fd, F⟩ := T.told.fund 27
  have F2 : Fun K "_law_done" "_law_done" s_l_done (He.fAd K ("_law_done", none)) fd := fun_of F
  exact ⟨fd, F2, F2.binds fun _ _ _ _ _ _ us hl => match us, hl with | [_, _], _ => rfl⟩
abbrev N_l_done : List Str := ["_law_work", "_law_thing", "_law_found", "_law_error", "_law_e"]
theorem sc_l_done : FnScope ["_law_work", "_law_thing", "_law_found", "_law_error", "_law_e"] ["_law_work", "_law_thing"] (defScope s_l_done) := ⟨rfl, rfl, rfl, by decide +kernel, rfl, by decide +kernel, by decide +kernel⟩
theorem f_l_number_of (T : Wd K mg) : ∃ fd, Fun K "_law_number_of" "_law_number_of" s_l_number_of (He.fAd K ("_law_number_of", none)) fd ∧ Binds K fd ["_law_word"] [] := by
  obtain ⟨fd, F⟩ := T.told.fund 28
  have F2 : Fun K "_law_number_of" "_law_number_of" s_l_number_of (He.fAd K ("_law_number_of", none)) fd := fun_of F
  exact ⟨fd, F2, F2.binds fun _ _ _ _ _ _ us hl => match us, hl with | [_], _ => rfl⟩
abbrev N_l_number_of : List Str := ["_law_word", "_law_found", "_law_sign"]
theorem sc_l_number_of : FnScope ["_law_word", "_law_found", "_law_sign"] ["_law_word"] (defScope s_l_number_of) := ⟨rfl, rfl, rfl, by decide +kernel, rfl, by decide +kernel, by decide +kernel⟩
theorem f_l_due (T : Wd K mg) : ∃ fd, Fun K "_law_due" "_law_due" s_l_due (He.fAd K ("_law_due", none)) fd ∧ Binds K fd ["_law_text"] [] := by
  obtain ⟨fd, F⟩ := T.told.fund 29
  have F2 : Fun K "_law_due" "_law_due" s_l_due (He.fAd K ("_law_due", none)) fd := fun_of F
  exact ⟨fd, F2, F2.binds fun _ _ _ _ _ _ us hl => match us, hl with | [_], _ => rfl⟩
abbrev N_l_due : List Str := ["_law_text", "_law_numbers", "_law_word", "_law_one", "_law_k"]
theorem sc_l_due : FnScope ["_law_text", "_law_numbers", "_law_word", "_law_one", "_law_k"] ["_law_text"] (defScope s_l_due) := ⟨rfl, rfl, rfl, by decide +kernel, rfl, by decide +kernel, by decide +kernel⟩
theorem f_l_spoilt (T : Wd K mg) : ∃ fd, Fun K "_law_spoilt" "_law_spoilt" s_l_spoilt (He.fAd K ("_law_spoilt", none)) fd ∧ Binds K fd ["_law_text", "_law_mix"] [] := by
  obtain ⟨fd, F⟩ := T.told.fund 30
  have F2 : Fun K "_law_spoilt" "_law_spoilt" s_l_spoilt (He.fAd K ("_law_spoilt", none)) fd := fun_of F
  exact ⟨fd, F2, F2.binds fun _ _ _ _ _ _ us hl => match us, hl with | [_, _], _ => rfl⟩
abbrev N_l_spoilt : List Str := ["_law_text", "_law_mix", "_law_place", "_law_sign", "_law_way", "_law_words", "_law_spot", "_law_other"]
theorem sc_l_spoilt : FnScope ["_law_text", "_law_mix", "_law_place", "_law_sign", "_law_way", "_law_words", "_law_spot", "_law_other"] ["_law_text", "_law_mix"] (defScope s_l_spoilt) := ⟨rfl, rfl, rfl, by decide +kernel, rfl, by decide +kernel, by decide +kernel⟩
theorem f_law (T : Wd K mg) : ∃ fd, Fun K "law" "law" s_law (He.fAd K ("law", none)) fd ∧ Binds K fd ["_law_script"] [] := by
  obtain ⟨fd, F⟩ := T.told.fund 31
  have F2 : Fun K "law" "law" s_law (He.fAd K ("law", none)) fd := fun_of F
  exact ⟨fd, F2, F2.binds fun _ _ _ _ _ _ us hl => match us, hl with | [_], _ => rfl⟩
abbrev N_law : List Str := ["_law_script", "_law_k", "_law_cell", "_law_things", "_law_size_here", "_law_told", "_law_pick", "_law_text", "_law_handed", "_law_turn", "_law_other", "_law_wrong", "_law_thing"]
theorem sc_law : FnScope ["_law_script", "_law_k", "_law_cell", "_law_things", "_law_size_here", "_law_told", "_law_pick", "_law_text", "_law_handed", "_law_turn", "_law_other", "_law_wrong", "_law_thing"] ["_law_script"] (defScope s_law) := ⟨rfl, rfl, rfl, by decide +kernel, rfl, by decide +kernel, by decide +kernel⟩
end
end DL
namespace DL
open PySem PySem.Spec PyProof.Rows L2
/-! ### the program: counting.py -/
def isI : Da → Bool
  | .int _ => true
  | _ => false
def isIB : Da → Bool
  | .int _ => true
  | .bl _ => true
  | _ => false
def isB : Da → Bool
  | .bl _ => true
  | _ => false
theorem cd_isint {j : J} {d : Da} (h : (tyN d).isSome = true) : CallD j (.builtin "isinstance") [d, .ty "int"] (.bl (isIB d)) := by
  cases d with
  | non => exact cd_isi (b := false) (t := "NoneType") rfl (by decide +kernel)
  | bl _ => exact cd_isi (b := true) (t := "bool") rfl (by decide +kernel)
  | int _ => exact cd_isi (b := true) (t := "int") rfl (by decide +kernel)
  | str _ => exact cd_isi (b := false) (t := "str") rfl (by decide +kernel)
  | tup _ => exact cd_isi (b := false) (t := "tuple") rfl (by decide +kernel)
  | lst _ => exact cd_isi (b := false) (t := "list") rfl (by decide +kernel)
  | dic => exact cd_isi (b := false) (t := "dict") rfl (by decide +kernel)
  | _ => cases h
theorem cd_isbool {j : J} {d : Da} (h : (tyN d).isSome = true) : CallD j (.builtin "isinstance") [d, .ty "bool"] (.bl (isB d)) := by
  cases d with
  | non => exact cd_isi (b := false) (t := "NoneType") rfl (by decide +kernel)
  | bl _ => exact cd_isi (b := true) (t := "bool") rfl (by decide +kernel)
  | int _ => exact cd_isi (b := false) (t := "int") rfl (by decide +kernel)
  | str _ => exact cd_isi (b := false) (t := "str") rfl (by decide +kernel)
  | tup _ => exact cd_isi (b := false) (t := "tuple") rfl (by decide +kernel)
  | lst _ => exact cd_isi (b := false) (t := "list") rfl (by decide +kernel)
  | dic => exact cd_isi (b := false) (t := "dict") rfl (by decide +kernel)
  | _ => cases h
def isTL : Da → Bool
  | .tup _ => true
  | .lst _ => true
  | _ => false
theorem cd_istl {j : J} {d : Da} (h : (tyN d).isSome = true) : CallD j (.builtin "isinstance") [d, .tup [.ty "tuple", .ty "list"]] (.bl (isTL d)) := by
  cases d with
  | non => exact cd_isi2 (b := false) (c := false) (t := "NoneType") rfl (by decide +kernel) (by decide +kernel)
  | bl _ => exact cd_isi2 (b := false) (c := false) (t := "bool") rfl (by decide +kernel) (by decide +kernel)
  | int _ => exact cd_isi2 (b := false) (c := false) (t := "int") rfl (by decide +kernel) (by decide +kernel)
  | str _ => exact cd_isi2 (b := false) (c := false) (t := "str") rfl (by decide +kernel) (by decide +kernel)
  | tup _ => exact cd_isi2 (b := true) (c := false) (t := "tuple") rfl (by decide +kernel) (by decide +kernel)
  | lst _ => exact cd_isi2 (b := false) (c := true) (t := "list") rfl (by decide +kernel) (by decide +kernel)
  | dic => exact cd_isi2 (b := false) (c := false) (t := "dict") rfl (by decide +kernel) (by decide +kernel)
  | _ => cases h
theorem boot_isi : bootBuiltins "isinstance" = some (.builtin "isinstance") := by decide +kernel
theorem boot_tint : bootBuiltins "int" = some (.type "int") := by decide +kernel
theorem boot_tbool : bootBuiltins "bool" = some (.type "bool") := by decide +kernel
theorem boot_ttuple : bootBuiltins "tuple" = some (.type "tuple") := by decide +kernel
theorem boot_tlist : bootBuiltins "list" = some (.type "list") := by decide +kernel
section
variable {P : Program} {w : World} {K : PySem.W.Frag} {mg : Str → Option Value} {base : Heap} {j : J} {S : List Sl}
def G_is_number (ds : List Da) (d : Da) : Prop := ∃ x, ds = [x] ∧ (tyN x).isSome = true ∧ d = .bl (isI x)
theorem ok_is_number (T : Wd K mg) : Fn0 P w K mg base 1 "is_number" G_is_number := by
  refine mk_fn0 (k := 0) (f_is_number T) (g_is_number T) sc_is_number (fun ds d ⟨x, e, _⟩ => by rw [e]; rfl) fun fd cdv A outer s H E Fr ds R hr ⟨d, ⟨x, e, h, e2⟩, hR⟩ => ?_
  subst e e2
  refine db_one (ds_ret (d := .bl (isIB x && !isB x)) (de_and (de_callB (t_isinstance T) boot_isi (da_cons (nm 0) (da_cons (de_ty (t_int T) boot_tint) da_nil)) (cd_isint h))
    (fun _ => de_one (de_not (de_callB (t_isinstance T) boot_isi (da_cons (nm 0) (da_cons (de_ty (t_bool T) boot_tbool) da_nil)) (cd_isbool h))))) ?_)
  have e : (isIB x && !isB x) = isI x := by cases x <;> rfl
  show R (.bl (isIB x && !isB x))
  rw [e]
  exact hR
def inB (x : Da) (l m : Int) : Bool := match x with
  | .int i => decide (l ≤ i) && decide (i ≤ m)
  | _ => false
def G_is_within (ds : List Da) (d : Da) : Prop := ∃ x l m, ds = [x, .int l, .int m] ∧ (tyN x).isSome = true ∧ d = .bl (inB x l m)
theorem ok_is_within (T : Wd K mg) : Fn0 P w K mg base 2 "is_within" G_is_within := by
  have hn : Fn0 P w K mg base 1 "is_number" G_is_number := ok_is_number T
  refine mk_fn0 (k := 1) (f_is_within T) (g_is_within T) sc_is_within (fun ds d ⟨x, l, m, e, _⟩ => by rw [e]; rfl) fun fd cdv A outer s H E Fr ds R hr ⟨d, ⟨x, l, m, e, h, e2⟩, hR⟩ => ?_
  subst e e2
  cases hx : isI x with
  | false =>
    have e : inB x l m = false := by cases x <;> first | rfl | cases hx
    rw [e] at hR
    refine db_one (ds_ret (d := .bl (false && false)) (de_and (de_call0 hn hr (by decide) (da_cons (nm 0) da_nil) ⟨x, rfl, h, by rw [hx]⟩) (fun z => by cases z)) hR)
  | true =>
    obtain ⟨i, rfl⟩ : ∃ i, x = .int i := by cases x <;> first | exact ⟨_, rfl⟩ | cases hx
    refine db_one (ds_ret (de_and (de_call0 hn hr (by decide) (da_cons (nm 0) da_nil) ⟨_, rfl, rfl, rfl⟩) (fun _ => de_one (de_chain (nm 1) (nm 0) od_le (fun _ => nm 2) (fun _ => od_le)))) ?_)
    exact hR
/-- things in a row, each within what is left -/
def risL (m : Int) : List Da → Int → Bool
  | [], _ => true
  | .int i :: ds, a => (decide (a + 1 ≤ i) && decide (i ≤ m - 1)) && risL m ds i
  | _ :: _, _ => false
def items : Da → List Da
  | .tup ds => ds
  | .lst ds => ds
  | _ => []
def risD (x : Da) (m : Int) : Bool := isTL x && risL m (items x) (-1)
def G_is_rising (ds : List Da) (d : Da) : Prop := ∃ x m, ds = [x, .int m] ∧ (tyN x).isSome = true ∧ (∀ y ∈ items x, (tyN y).isSome = true) ∧ d = .bl (risD x m)
theorem drop_at {α : Type} {l : List α} {i : Nat} {a : α} (h : l[i]? = some a) : l.drop i = a :: l.drop (i + 1) := by
  obtain ⟨hi, e⟩ := List.getElem?_eq_some_iff.mp h
  rw [← e]
  exact List.drop_eq_getElem_cons hi
theorem ok_is_rising (T : Wd K mg) : Fn0 P w K mg base 3 "is_rising" G_is_rising := by
  have hn : Fn0 P w K mg base 2 "is_within" G_is_within := ok_is_within T
  refine mk_fn0 (k := 2) (f_is_rising T) (g_is_rising T) sc_is_rising (fun ds d ⟨x, m, e, _⟩ => by rw [e]; rfl) fun fd cdv A outer s H E Fr ds R hr ⟨d, ⟨x, m, e, h, hy, e2⟩, hR⟩ => ?_
  subst e e2
  have nd := sc_is_rising.nd
  refine db_cons (ds_if (t := !isTL x) (dt_not (dt_val (de_callB (t_isinstance T) boot_isi (da_cons (nm 0) (da_cons (de_tup (da_cons (de_ty (t_tuple T) boot_ttuple) (da_cons (de_ty (t_list T) boot_tlist) da_nil)) (by decide)) da_nil)) (cd_istl h)))) (fun ht => ?_) (fun ht => ?_))
  · have e : risD x m = false := by unfold risD; rw [show isTL x = false by simpa using ht]; rfl
    rw [e] at hR
    exact db_one (ds_ret de_bl hR)
  · have ht : isTL x = true := by simpa using ht
    refine db_nil ?_
    have e : risD x m = risL m (items x) (-1) := by unfold risD; rw [ht]; rfl
    rw [e] at hR
    refine db_cons (ds_set (lm 2 nd) (de_un de_int ud_neg) ?_)
    refine db_cons (ds_for (xs := items x) (ws := [3]) (fun k S' => ∃ a t, S' = [.da x, .da (.int m), .da (.int a), t] ∧ risL m (items x) (-1) = risL m ((items x).drop k) a) ?_ ?_ ?_ ?_)
    · cases x with
      | tup ds => exact di_tup (nm 0)
      | lst ds => exact di_list (nm 0)
      | _ => cases ht
    · exact ⟨-1, .un, rfl, rfl⟩
    · rintro i d S' hd ⟨a, t, rfl, e3⟩
      rw [drop_at hd] at e3
      refine dg_nm (lm 3 nd) (by simp) ?_
      refine db_cons (ds_if (t := !inB d (a + 1) (m - 1)) (dt_not (dt_val (de_call0 hn hr (by decide) (da_cons (nm 3) (da_cons (de_bin (nm 2) de_int od_add) (da_cons (de_bin (nm 1) de_int od_sub) da_nil))) ⟨_, _, _, rfl, hy d (List.mem_of_getElem? hd), rfl⟩))) (fun hb => ?_) (fun hb => ?_))
      · have hb : inB d (a + 1) (m - 1) = false := by simpa using hb
        have e4 : risL m (items x) (-1) = false := by
          rw [e3]
          cases d with
          | int i =>
            show ((decide (a + 1 ≤ i) && decide (i ≤ m - 1)) && _) = false
            rw [show (decide (a + 1 ≤ i) && decide (i ≤ m - 1)) = false from hb]
            rfl
          | _ => rfl
        rw [e4] at hR
        exact db_one (ds_ret de_bl hR)
      · have hb : inB d (a + 1) (m - 1) = true := by simpa using hb
        obtain ⟨i, rfl⟩ : ∃ i, d = .int i := by cases d <;> first | exact ⟨_, rfl⟩ | cases hb
        refine db_nil (db_one (ds_set (lm 2 nd) (nm 3) ⟨i, .da (.int i), rfl, ?_⟩))
        rw [e3]
        show ((decide (a + 1 ≤ i) && decide (i ≤ m - 1)) && _) = _
        rw [show (decide (a + 1 ≤ i) && decide (i ≤ m - 1)) = true from hb]
        rfl
    · rintro S' ⟨a, t, rfl, e3⟩
      rw [List.drop_length] at e3
      rw [e3] at hR
      exact db_one (ds_ret de_bl hR)
end
end DL
namespace DL
open PySem PySem.Spec PyProof.Rows L2
/-! ### common: rows of numbers -/
def intsOf (x : Da) : List Int := (items x).map fun d => match d with
  | .int i => i
  | _ => 0
theorem ints_of_ris {m : Int} : ∀ {ds : List Da} {a : Int}, risL m ds a = true → ds = (ds.map fun d => match d with
  | .int i => i
  | _ => 0).map Da.int
  | [], _, _ => rfl
  | .int i :: ds, a, h => by
    have h2 := (Bool.and_eq_true_iff.mp h).2
    rw [List.map_cons, List.map_cons, ← ints_of_ris h2]
  | .non :: _, _, h => by cases h
  | .bl _ :: _, _, h => by cases h
  | .str _ :: _, _, h => by cases h
  | .tup _ :: _, _, h => by cases h
  | .lst _ :: _, _, h => by cases h
  | .ob _ _ _ :: _, _, h => by cases h
  | .obw _ _ _ :: _, _, h => by cases h
  | .exc _ :: _, _, h => by cases h
  | .fn _ :: _, _, h => by cases h
  | .ty _ :: _, _, h => by cases h
  | .dic :: _, _, h => by cases h
  | .scr _ :: _, _, h => by cases h
/-- a rising tuple or list is one of whole numbers -/
theorem ris_cases {x : Da} {m : Int} (h : risD x m = true) : x = .tup ((intsOf x).map Da.int) ∨ x = .lst ((intsOf x).map Da.int) := by
  have h := Bool.and_eq_true_iff.mp h
  cases x with
  | tup ds => exact .inl (congrArg Da.tup (ints_of_ris h.2))
  | lst ds => exact .inr (congrArg Da.lst (ints_of_ris h.2))
  | _ => cases h.1
theorem od_in {j : J} {x : Da} {m i : Int} (h : risD x m = true) : OpD j (compareOp .In) (.int i) x (.bl (decide (i ∈ intsOf x))) := by
  rcases ris_cases h with e | e
  · rw [e]
    show OpD j (compareOp .In) (.int i) (.tup ((intsOf x).map Da.int)) (.bl (decide (i ∈ intsOf (.tup ((intsOf x).map Da.int)))))
    rw [show intsOf (.tup ((intsOf x).map Da.int)) = intsOf x by rw [← e]]
    exact od_inT
  · rw [e]
    show OpD j (compareOp .In) (.int i) (.lst ((intsOf x).map Da.int)) (.bl (decide (i ∈ intsOf (.lst ((intsOf x).map Da.int)))))
    rw [show intsOf (.lst ((intsOf x).map Da.int)) = intsOf x by rw [← e]]
    exact od_inL
/-- a datum whose kind, and whose items' kinds, isinstance knows -/
def Pln (x : Da) : Prop := (tyN x).isSome = true ∧ ∀ y ∈ items x, (tyN y).isSome = true
theorem boot_len' : bootBuiltins "len" = some (.builtin "len") := by decide +kernel
theorem inB_int {i l m : Int} : inB (.int i) l m = true ↔ l ≤ i ∧ i ≤ m := by
  show (decide (l ≤ i) && decide (i ≤ m)) = true ↔ _
  simp
theorem intsOf_tup (ns : List Int) : intsOf (.tup (ns.map Da.int)) = ns := by
  unfold intsOf
  show (ns.map Da.int).map _ = ns
  rw [List.map_map]
  exact (List.map_congr_left fun a _ => rfl).trans (List.map_id ns)
theorem intsOf_lst (ns : List Int) : intsOf (.lst (ns.map Da.int)) = ns := intsOf_tup ns
theorem atI_zero {α : Type} {l : List α} {a : α} (h : l[0]? = some a) : atI l 0 = some a := atI_nat (j := 0) h
theorem two_pos (n : Nat) : (0 : Int) < 2 ^ n := Int.pow_pos (by decide)
theorem ris_of : ∀ (ns : List Int) (a m : Int), ns.Pairwise (· < ·) → (∀ t ∈ ns, a < t ∧ t < m) → risL m (ns.map Da.int) a = true
  | [], _, _, _, _ => rfl
  | t :: ns, a, m, hp, hb => by
    obtain ⟨h1, h2⟩ := List.pairwise_cons.mp hp
    have hb1 := hb t List.mem_cons_self
    show ((decide (a + 1 ≤ t) && decide (t ≤ m - 1)) && risL m (ns.map Da.int) t) = true
    rw [ris_of ns t m h2 (fun u hu => ⟨h1 u hu, (hb u (List.mem_cons_of_mem _ hu)).2⟩), decide_eq_true (by omega), decide_eq_true (by omega)]
    rfl
theorem pln_ints (ns : List Int) : Pln (.tup (ns.map Da.int)) := ⟨rfl, fun y hy => by
  obtain ⟨i, _, rfl⟩ := List.mem_map.mp hy
  rfl⟩
theorem pln_intsL (ns : List Int) : Pln (.lst (ns.map Da.int)) := ⟨rfl, fun y hy => by
  obtain ⟨i, _, rfl⟩ := List.mem_map.mp hy
  rfl⟩
theorem asc_none {ns : List Int} (h : ns.Pairwise (· < ·)) (k : Nat) : ((List.range k).filter fun i : Nat => decide (i + 1 < ns.length) && decide (ns.getD (i + 1) 0 ≤ ns.getD i 0)) = [] := by
  rw [List.filter_eq_nil_iff]
  intro i _ hc
  obtain ⟨h1, h2⟩ := Bool.and_eq_true_iff.mp hc
  have h1 := of_decide_eq_true h1
  have h2 := of_decide_eq_true h2
  have h3 := List.pairwise_iff_getElem.mp h i (i + 1) (by omega) h1 (by omega)
  rw [List.getD_eq_getElem?_getD, List.getD_eq_getElem?_getD, List.getElem?_eq_getElem h1, List.getElem?_eq_getElem (by omega : i < ns.length)] at h2
  have h2 : ns[i + 1] ≤ ns[i] := h2
  omega
theorem ok1 (ns : List Int) : OkD 1 (.tup (ns.map Da.int)) := okd_tup okds_ints
theorem ok1L (ns : List Int) : OkD 1 (.lst (ns.map Da.int)) := okd_lst okds_ints
theorem inB_nat {n : Nat} (h : n ≤ 200) : inB (.int (n : Int)) 0 200 = true := inB_int.mpr ⟨by omega, by omega⟩
theorem atI_getD {l : List Int} {i : Int} (h0 : 0 ≤ i) (h1 : i < (l.length : Nat)) : atI (l.map Da.int) i = some (.int (l.getD i.toNat 0)) := by
  obtain ⟨n, rfl⟩ : ∃ n : Nat, i = n := ⟨i.toNat, by omega⟩
  have hn : n < l.length := by omega
  refine atI_nat ?_
  rw [List.getElem?_map, Int.toNat_natCast, List.getElem?_eq_getElem hn, List.getD_eq_getElem?_getD, List.getElem?_eq_getElem hn]
  rfl
theorem atI_map {α : Type} {l : List α} (f : α → Da) {i : Int} (h0 : 0 ≤ i) (h1 : i < (l.length : Nat)) : ∃ a, l[i.toNat]? = some a ∧ atI (l.map f) i = some (f a) := by
  obtain ⟨n, rfl⟩ : ∃ n : Nat, i = n := ⟨i.toNat, by omega⟩
  have hn : n < l.length := by omega
  refine ⟨l[n], by rw [Int.toNat_natCast]; exact List.getElem?_eq_getElem hn, atI_nat ?_⟩
  rw [List.getElem?_map, List.getElem?_eq_getElem hn]
  rfl
theorem boot_min : bootBuiltins "min" = some (.builtin "min") := by decide +kernel
theorem boot_max : bootBuiltins "max" = some (.builtin "max") := by decide +kernel
theorem ris_pair {m : Int} : ∀ {ns : List Int} {a : Int}, risL m (ns.map Da.int) a = true → ns.Pairwise (· < ·) ∧ ∀ t ∈ ns, a < t ∧ t < m
  | [], a, _ => ⟨.nil, fun t ht => by cases ht⟩
  | i :: ns, a, h => by
    obtain ⟨h1, h2⟩ := Bool.and_eq_true_iff.mp h
    obtain ⟨h3, h4⟩ := Bool.and_eq_true_iff.mp h1
    have h3 := of_decide_eq_true h3
    have h4 := of_decide_eq_true h4
    obtain ⟨p, b⟩ := ris_pair h2
    refine ⟨List.pairwise_cons.mpr ⟨fun t ht => (b t ht).1, p⟩, fun t ht => ?_⟩
    rcases List.mem_cons.mp ht with rfl | ht
    · omega
    · have := b t ht
      omega
theorem ris_ints {x : Da} {m : Int} (h : risD x m = true) : risL m ((intsOf x).map Da.int) (-1) = true := by
  have h2 := (Bool.and_eq_true_iff.mp h).2
  rcases ris_cases h with e | e
  · rw [e] at h2
    exact h2
  · rw [e] at h2
    exact h2
theorem cd_len_ris {j : J} {x : Da} {m : Int} (h : risD x m = true) : CallD j (.builtin "len") [x] (.int (intsOf x).length) := by
  rcases ris_cases h with e | e
  · have := cd_len_tup (j := j) (ds := (intsOf x).map Da.int)
    rw [List.length_map, ← e] at this
    exact this
  · have := cd_len_lst (j := j) (ds := (intsOf x).map Da.int)
    rw [List.length_map, ← e] at this
    exact this
theorem ix_ris {j : J} {x : Da} {m i : Int} (h : risD x m = true) (h0 : 0 ≤ i) (h1 : i < ((intsOf x).length : Nat)) : IxD j x (.int i) (.int ((intsOf x).getD i.toNat 0)) := by
  rcases ris_cases h with e | e
  · have := ix_tupD (j := j) (atI_getD h0 h1)
    rw [← e] at this
    exact this
  · have := ix_lst (j := j) (atI_getD h0 h1)
    rw [← e] at this
    exact this
theorem di_ris {j : J} {S : List Sl} {tg e : Expr} {x : Da} {m : Int} (h : risD x m = true) (he : DE j S e x) : DI j S tg e ((intsOf x).map Da.int) := by
  rcases ris_cases h with q | q
  · exact di_tup (by rw [← q]; exact he)
  · exact di_list (by rw [← q]; exact he)
theorem od_nin {j : J} {x : Da} {m i : Int} (h : risD x m = true) : OpD j (compareOp .NotIn) (.int i) x (.bl (!decide (i ∈ intsOf x))) := by
  rcases ris_cases h with e | e
  · have := od_ninT (j := j) (i := i) (ns := intsOf x)
    rw [← e] at this
    exact this
  · have := od_ninL (j := j) (i := i) (ns := intsOf x)
    rw [← e] at this
    exact this
theorem dt_w_is {j : J} {S : List Sl} {e : Expr} {b b' : Bool} (h : DTw j S e b) (q : b = b') : DTw j S e b' := q ▸ h
end DL
namespace DL
open PySem PySem.Spec PyProof.Rows L2 TL
/-! ### k13: the program's texts -/
theorem risL_N (m : Int) : ∀ (ns : List Int) (a : Int), risL m (ns.map Da.int) a = risN m ns a
  | [], a => rfl
  | n :: r, a => by
    show ((decide (a + 1 ≤ n) && decide (n ≤ m - 1)) && risL m (r.map Da.int) n) = ((decide (a + 1 ≤ n) && decide (n ≤ m - 1)) && risN m r n)
    rw [risL_N m r n]
theorem log_small {t : Int} (h : 0 ≤ t) (h2 : t < 200) : t.natAbs.log2 < 1920 := Nat.lt_of_le_of_lt (Nat.log2_le_self _) (by omega)
theorem boot_tstr : bootBuiltins "str" = some (.type "str") := by decide +kernel
theorem ty_str {K : PySem.W.Frag} {z : Str} : ∀ F v, At K F (.str z) v → tyV K "str" v F := fun F v a => by
  have a : v = .str z := a
  subst a
  exact rfl
section
variable {P : Program} {w : World} {K : PySem.W.Frag} {mg : Str → Option Value} {base : Heap}
def G_written (ds : List Da) (d : Da) : Prop := ∃ x, ds = [x] ∧ Pln x ∧ risD x 200 = true ∧ d = .str (wr (intsOf x))
def X_written (K : PySem.W.Frag) (ds : List Da) (C : Addr) : Prop := ∃ x, ds = [x] ∧ Pln x ∧ risD x 200 = false ∧ C = eNoPick K
theorem ok_written (T : Wd K mg) : FnX P w K mg base 4 "written" G_written (X_written K) := by
  have hs : Fn0 P w K mg base 3 "is_rising" G_is_rising := ok_is_rising T
  refine mk_fnX (k := 3) (f_written T) (g_written T) sc_written (fun ds d ⟨x, e, _⟩ => by rw [e]; rfl) (fun ds d ⟨x, e, _⟩ => by rw [e]; rfl) fun fd cdv A outer s H E Fr EX hex ds R hr alt => ?_
  obtain ⟨x, rfl, hx⟩ : ∃ x, ds = [x] ∧ Pln x := by
    rcases alt with ⟨d, ⟨x, e, h, _⟩, _⟩ | ⟨C', ⟨x, e, h, _⟩, _⟩
    · exact ⟨x, e, h⟩
    · exact ⟨x, e, h⟩
  have nd := sc_written.nd
  refine db_cons (ds_if (t := !risD x 200) (dt_not (dt_val (de_call0 hs hr (by decide) (da_cons (nm 0) (da_cons (de_glob (t_MOST_THINGS T)) da_nil)) ⟨_, _, rfl, hx.1, hx.2, rfl⟩))) (fun ht => ?_) (fun ht => ?_))
  · have ht : risD x 200 = false := by simpa using ht
    rcases alt with ⟨d, ⟨y, e, _, hy, _⟩, _⟩ | ⟨C', ⟨y, e, _, _, rfl⟩, hC⟩
    · cases e
      rw [ht] at hy
      cases hy
    · exact db_one (ds_raise (x_NoPick T) hC)
  · have ht : risD x 200 = true := by simpa using ht
    refine db_nil ?_
    rcases alt with ⟨d, ⟨y, e, _, hy, rfl⟩, hR⟩ | ⟨C', ⟨y, e, _, hy, rfl⟩, hC⟩
    · cases e
      have hr2 : risN 200 (intsOf x) (-1) = true := by rw [← risL_N]; exact ris_ints ht
      refine db_one (ds_ret (d := .str (wr (intsOf x))) (de_ife (dt_cmp (de_callB (t_len T) boot_len' (da_cons (nm 0) da_nil) (cd_len_ris ht)) de_int od_gt) (fun hl => ?_) (fun hl => ?_)) hR)
      · have hl := of_decide_eq_true hl
        unfold wr
        rw [if_pos (by omega)]
        refine de_is (de_bm F.plainAttrs_str F.slot_str_join F.type_str_join de_str (da_cons (de_is (de_lc (i := 1) (intsOf x) Da.int (fun _ => true) (fun t : Int => Da.str (shw t)) (di_ris ht (nm 0)) (by have := wr_few hr2; omega) (blkOk_by (N := N_written) (sc := defScope s_written) (by decide +kernel)) (fun _ _ _ _ _ => lm 1 nd) (fun F1 s Hb C cl fp a ha => dts_nil)
          (fun F1 s Hb C cl fp t hm _ => ?_) nd) (d' := .lst (sts ((intsOf x).map shw))) ?_) da_nil) (md_join (Nat.le_trans (wr_sum hr2) (by decide))) ty_str) rfl
        · have b := ris_bnd hr2 t hm
          exact de_callTy (t_str T) boot_tstr (da_cons (nm 1) da_nil) (cd_str_int (log_small (by omega) b.2))
        · rw [List.filter_eq_self.mpr (fun _ _ => rfl)]
          unfold sts
          rw [List.map_map]
          rfl
      · have hl := of_decide_eq_false hl
        unfold wr
        rw [if_neg (by omega)]
        exact de_str
    · cases e
      rw [ht] at hy
      cases hy
def G_thing (ds : List Da) (d : Da) : Prop := ∃ z, ds = [.str z] ∧ z.length ≤ 100000 ∧ isNum z = true ∧ d = .int (valI z)
def X_thing (K : PySem.W.Frag) (ds : List Da) (C : Addr) : Prop := ∃ z, ds = [.str z] ∧ z.length ≤ 100000 ∧ isNum z = false ∧ C = eNoText K
theorem lead_at {z : Str} (h : z ≠ "") : ∃ c, atI z.cps.toList 0 = some c ∧ lead z = (decide ((⟨#[c]⟩ : Str) = "0") && !decide (z = "0")) := by
  unfold lead
  cases e : tl z with
  | nil => exact absurd (tl_nil e) h
  | cons c r =>
    refine ⟨c, ?_, rfl⟩
    have e : z.cps.toList = c :: r := e
    rw [e]
    exact atI_zero rfl
theorem ok_thing (T : Wd K mg) : FnX P w K mg base 1 "thing_of" G_thing (X_thing K) := by
  refine mk_fnX (k := 0) (f_thing_of T) (g_thing_of T) sc_thing_of (fun ds d ⟨x, e, _⟩ => by rw [e]; rfl) (fun ds d ⟨x, e, _⟩ => by rw [e]; rfl) fun fd cdv A outer s H E Fr EX hex ds R hr alt => ?_
  obtain ⟨z, rfl, hz⟩ : ∃ z, ds = [.str z] ∧ z.length ≤ 100000 := by
    rcases alt with ⟨d, ⟨x, e, h, _⟩, _⟩ | ⟨C', ⟨x, e, h, _⟩, _⟩
    · exact ⟨x, e, h⟩
    · exact ⟨x, e, h⟩
  have nd := sc_thing_of.nd
  refine db_cons (ds_if (t := !isNum z) (dt_w (dt_w_is (dw_or (x := decide (z = "")) (y := !decide (Txt.stripChars z figs = "") || (decide (3 < (z.length : Int)) || lead z)) (dt_cmp (nm 0) de_str od_eqS) (fun h => ?_)) (by unfold isNum; rw [Bool.not_not]))) (fun ht => ?_) (fun ht => ?_))
  · obtain ⟨c, hc, hl⟩ := lead_at (of_decide_eq_false h)
    rw [hl]
    exact dw_or (dt_cmp (de_bm F.plainAttrs_str F.slot_str_strip F.type_str_strip (nm 0) (da_cons (de_glob (t_FIGURES T)) da_nil) (md_stripC (by omega)) ty_str) de_str od_neS)
      (fun _ => dw_or (dt_cmp (de_callB (t_len T) boot_len' (da_cons (nm 0) da_nil) (cd_len_str (by omega))) de_int od_gt)
      (fun _ => dw_or1 (dt_w (dw_and (dt_cmp (de_ix (nm 0) de_int (ix_strD (by omega) hc)) de_str od_eqS) (fun _ => dw_and1 (dt_cmp (nm 0) de_str od_neS))))))
  · have ht : isNum z = false := by simpa using ht
    rcases alt with ⟨d, ⟨y, e, _, hy, _⟩, _⟩ | ⟨C', ⟨y, e, _, _, rfl⟩, hC⟩
    · cases e
      rw [ht] at hy
      cases hy
    · exact db_one (ds_raise (x_NoText T) hC)
  · have ht : isNum z = true := by simpa using ht
    refine db_nil ?_
    rcases alt with ⟨d, ⟨y, e, _, hy, rfl⟩, hR⟩ | ⟨C', ⟨y, e, _, hy, rfl⟩, hC⟩
    · cases e
      have h3 := ((isNum_iff z).mp ht).2.1
      exact db_one (ds_ret (de_callTy (t_int T) boot_tint (da_cons (nm 0) da_nil) (cd_int_str (num_val ht).1 (by omega))) hR)
    · cases e
      rw [ht] at hy
      cases hy
def G_read (ds : List Da) (d : Da) : Prop := ∃ z ns, ds = [.str z] ∧ z.length ≤ 100000 ∧ dueT z = some ns ∧ d = .tup (ns.map Da.int)
def X_read (K : PySem.W.Frag) (ds : List Da) (C : Addr) : Prop := ∃ z, ds = [.str z] ∧ z.length ≤ 100000 ∧ dueT z = none ∧ C = eNoText K
theorem first_bad {ws : List Str} (h : ws.all isNum = false) : ∃ n0, n0 < ws.length ∧ (∀ a, ws[n0]? = some a → isNum a = false) ∧ ∀ k a, k < n0 → ws[k]? = some a → isNum a = true := by
  induction ws with
  | nil => cases h
  | cons a r ih =>
    cases ha : isNum a with
    | false => exact ⟨0, by simp, fun b hb => by simp at hb; subst hb; exact ha, fun k b hk => by omega⟩
    | true =>
      rw [List.all_cons, ha, Bool.true_and] at h
      obtain ⟨n, h1, h2, h3⟩ := ih h
      refine ⟨n + 1, by simpa using h1, fun b hb => h2 b (by simpa using hb), fun k b hk hb => ?_⟩
      cases k with
      | zero => simp at hb; subst hb; exact ha
      | succ k => exact h3 k b (by omega) (by simpa using hb)
theorem split_few {z : Str} : (Txt.split z blank).length ≤ z.length + 2 := Nat.le_trans (PyProof.Rows.split_le z blank) (by omega)
theorem ok_read (T : Wd K mg) : FnX P w K mg base 4 "read" G_read (X_read K) := by
  have hs : Fn0 P w K mg base 3 "is_rising" G_is_rising := ok_is_rising T
  have hth : FnX P w K mg base 1 "thing_of" G_thing (X_thing K) := ok_thing T
  refine mk_fnX (k := 3) (f_read T) (g_read T) sc_read (fun ds d ⟨x, _, e, _⟩ => by rw [e]; rfl) (fun ds d ⟨x, e, _⟩ => by rw [e]; rfl) fun fd cdv A outer s H E Fr EX hex ds R hr alt => ?_
  obtain ⟨z, rfl, hz⟩ : ∃ z, ds = [.str z] ∧ z.length ≤ 100000 := by
    rcases alt with ⟨d, ⟨x, _, e, h, _⟩, _⟩ | ⟨C', ⟨x, e, h, _⟩, _⟩
    · exact ⟨x, e, h⟩
    · exact ⟨x, e, h⟩
  have nd := sc_read.nd
  have alt2 : (∃ ns, dueT z = some ns ∧ R (.tup (ns.map Da.int))) ∨ (dueT z = none ∧ EX (eNoText K)) := by
    rcases alt with ⟨d, ⟨y, ns, e, _, hy, rfl⟩, hR⟩ | ⟨C', ⟨y, e, _, hy, rfl⟩, hC⟩
    · cases e
      exact .inl ⟨ns, hy, hR⟩
    · cases e
      exact .inr ⟨hy, hC⟩
  clear alt
  unfold dueT at alt2
  refine db_cons (ds_if (dt_cmp (nm 0) de_str od_eqS) (fun ht => ?_) (fun ht => db_nil ?_))
  · rw [if_pos (of_decide_eq_true ht)] at alt2
    rcases alt2 with ⟨ns, hy, hR⟩ | ⟨hy, _⟩
    · cases hy
      exact db_one (ds_ret (de_tup da_nil) hR)
    · cases hy
  rw [if_neg (of_decide_eq_false ht)] at alt2
  have hwl := split_few (z := z)
  cases hall : (Txt.split z blank).all isNum with
  | false =>
    have hd : dueW (Txt.split z blank) = none := by unfold dueW; rw [hall]; rfl
    rw [hd] at alt2
    rcases alt2 with ⟨ns, hy, hR⟩ | ⟨_, hC⟩
    · cases hy
    obtain ⟨n0, h1, h2, h3⟩ := first_bad hall
    refine db_cons (ds_setN (lm 1 nd) (dn_callTy (t_tuple T) boot_ttuple (dan_1 (dn_lc (i := 2) (Txt.split z blank) Da.str (fun w => Da.int (valI w)) n0 h1 (di_list (de_bm F.plainAttrs_str F.slot_str_split F.type_str_split (nm 0) (da_cons de_str da_nil) (md_split (b := blank) (by decide +kernel) (by omega)) ty_str)) (by omega) (blkOk_by (N := N_read) (sc := defScope s_read) (by decide +kernel)) (fun _ _ _ _ _ _ => lm 2 nd)
      (fun F1 s Hb C cl fp xb tk po k a hk ha => ?_) (fun F1 s Hb C cl fp xb tk po a ha => ?_) nd))))
    · exact de_callX hth hr (by decide) (da_cons (nm 2) da_nil) ⟨a, rfl, Nat.le_trans (split_len (List.mem_of_getElem? ha)) hz, h3 k a hk ha, rfl⟩
    · exact dn_callX hth hr (by decide) (da_cons (nm 2) da_nil) ⟨a, rfl, Nat.le_trans (split_len (List.mem_of_getElem? ha)) hz, h2 a ha, rfl⟩ hC
  | true =>
    have hd : dueW (Txt.split z blank) = if risN 200 ((Txt.split z blank).map valI) (-1) = true then some ((Txt.split z blank).map valI) else none := by unfold dueW; rw [hall, Bool.true_and]
    rw [hd] at alt2
    refine db_cons (ds_set (lm 1 nd) (d := .tup (((Txt.split z blank).map valI).map Da.int)) (de_callTy (t_tuple T) boot_ttuple (da_cons (de_is (de_lc (i := 2) (Txt.split z blank) Da.str (fun _ => true) (fun w => Da.int (valI w)) (di_list (de_bm F.plainAttrs_str F.slot_str_split F.type_str_split (nm 0) (da_cons de_str da_nil) (md_split (b := blank) (by decide +kernel) (by omega)) ty_str)) (by omega) (blkOk_by (N := N_read) (sc := defScope s_read) (by decide +kernel)) (fun _ _ _ _ _ => lm 2 nd) (fun F1 s Hb C cl fp a ha => dts_nil)
      (fun F1 s Hb C cl fp a ha _ => ?_) nd) (d' := .lst (((Txt.split z blank).map valI).map Da.int)) ?_) da_nil) cd_tuple_lst) ?_)
    · exact de_callX hth hr (by decide) (da_cons (nm 2) da_nil) ⟨a, rfl, Nat.le_trans (split_len ha) hz, List.all_eq_true.mp hall a ha, rfl⟩
    · rw [List.filter_eq_self.mpr (fun _ _ => rfl), List.map_map]
      rfl
    generalize (Txt.split z blank).map valI = ns at alt2
    have hpl := pln_ints ns
    have hrd : risD (.tup (ns.map Da.int)) 200 = risN 200 ns (-1) := by
      unfold risD
      rw [← risL_N]
      rfl
    refine db_cons (ds_if (t := !risD (.tup (ns.map Da.int)) 200) (dt_not (dt_val (de_call0 hs hr (by decide) (da_cons (nm 1) (da_cons (de_glob (t_MOST_THINGS T)) da_nil)) ⟨_, _, rfl, hpl.1, hpl.2, rfl⟩))) (fun ht => ?_) (fun ht => db_nil ?_))
    · have ht : risN 200 ns (-1) = false := by rw [← hrd]; simpa using ht
      rw [ht] at alt2
      rcases alt2 with ⟨_, hy, _⟩ | ⟨_, hC⟩
      · cases hy
      · exact db_one (ds_raise (x_NoText T) hC)
    · have ht : risN 200 ns (-1) = true := by rw [← hrd]; simpa using ht
      rw [ht] at alt2
      rcases alt2 with ⟨_, hy, hR⟩ | ⟨hy, _⟩
      · cases hy
        exact db_one (ds_ret (nm 1) hR)
      · cases hy
end
end DL
namespace DL
open PySem PySem.Spec PyProof.Rows L2
/-! ### the laws' helpers: of what kind a refusal is -/
def rCntB (K : PySem.W.Frag) : V → List V → Hp → VK → Prop := fun x xs H Q => ∃ (p : Addr) (bs : List Bool) (b : Bool), x = .ref p ∧ xs = [.bl b] ∧ SqL K H p (bs.map V.bl) ∧ Q (.int (bs.count b : Nat)) H
theorem plain_bools : ∀ bs : List Bool, PyData.plainAll (bs.map PyData.bool) = true
  | [] => rfl
  | b :: bs => by
    show (PyData.plain (.bool b) && PyData.plainAll (bs.map PyData.bool)) = true
    rw [plain_bools bs]
    rfl
theorem dp_bools {K : PySem.W.Frag} {H : Hp} : ∀ bs : List Bool, DpAll K H (bs.map V.bl) (bs.map PyData.bool)
  | [] => .nil
  | b :: bs => .cons (.bl b) (dp_bools bs)
theorem cnt_bools (b : Bool) : ∀ bs : List Bool, (bs.map PyData.bool).countP (fun y => y.eqv (.bool b)) = bs.count b
  | [] => rfl
  | c :: bs => by
    rw [List.map_cons, List.countP_cons, List.count_cons, cnt_bools b bs]
    cases b <;> cases c <;> rfl
theorem mt_cntB {X : Cx} (hu : X.A.units + 64 < cLine) : MtR X "list.count" (rCntB X.K) := fun pins s σ H x xs v us Q I rx rxs h => by
  obtain ⟨p, bs, b, rfl, rfl, hs, q⟩ := h
  cases rx
  obtain ⟨u, rfl, ru⟩ := rxs.one
  obtain ⟨cs, r1⟩ := Dp.reads I (.bool b) (.bl b) u (.bl b) ru
  obtain ⟨its, rv, ⟨o, n, ho, hc, hdn, hd⟩, hlen⟩ := I.list hs
  obtain ⟨as, h4⟩ := Dp.readsAll I (bs.map PyData.bool) _ its (dp_bools bs) rv
  have hdep : (PyData.bool b).depth = 0 := rfl
  refine SeqAt.count_list_data (vs := its.toArray) ⟨o, ho, hc, n, hd⟩ (show ReadsAll s.heap its.toArray.toList _ as from h4) r1 (plain_bools bs) rfl (by rw [hdep]; omega) ?_
  rw [cnt_bools]
  exact ⟨.int (bs.count b : Nat), H, I.tok _, ⟨_, rfl⟩, q⟩
section
variable {j : J} {S : List Sl}
theorem md_cnt {bs : List Bool} {b : Bool} {k : Nat} (hr : Room k j.X.A) : MtD j "list.count" (.lst (bs.map Da.bl)) [.bl b] (.int (bs.count b : Nat)) := fun F H e v vs ⟨a, ws, e1, h1, a1⟩ ay QQ kk => by
  obtain ⟨u, rfl, rfl⟩ := ats1 ay
  cases ats_bl a1
  exact wp_mt (mt_cntB hr.units) ⟨a, bs, b, e1, rfl, .of (e _ _ h1), kk _ F H (.refl e) rfl⟩
theorem md_idx {bs : List Bool} {b : Bool} {i : Nat} (h : bs[i]? = some b) (h2 : ∀ m, m < i → bs[m]? = some (!b)) : MtD j "list.index" (.lst (bs.map Da.bl)) [.bl b] (.int (i : Nat)) := fun F H e v vs ⟨a, ws, e1, h1, a1⟩ ay QQ kk => by
  obtain ⟨u, rfl, rfl⟩ := ats1 ay
  cases ats_bl a1
  refine wp_mt mt_index ⟨a, _, .bl b, i, .bl b, e1, rfl, .of (e _ _ h1), rfl, ?_, by rw [List.getElem?_map, h]; rfl, ?_, fun m z' hm hz => ?_, kk _ F H (.refl e) rfl⟩
  · rw [List.all_map]
    exact List.all_eq_true.mpr fun _ _ => rfl
  · cases b <;> rfl
  · rw [List.getElem?_map, h2 m hm] at hz
    cases hz
    cases b <;> rfl
end
section
variable {P : Program} {w : World} {K : PySem.W.Frag} {mg : Str → Option Value} {base : Heap}
/-- which refusal, and what the law calls it -/
def Kn (K : PySem.W.Frag) (C : Addr) (z : Str) : Prop := (C = eNoBounds K ∧ z = "bounds") ∨ (C = eNoPick K ∧ z = "pick") ∨ (C = eNoNumber K ∧ z = "number") ∨ (C = eNoChange K ∧ z = "change") ∨ (C = eNoText K ∧ z = "text")
theorem kn_exm (T : Wd K mg) {C : Addr} {z : Str} (h : Kn K C z) : PySem.W.exmOne K (.ref C) (.ref (ePickError K)) = some true := by
  rcases h with ⟨rfl, _⟩ | ⟨rfl, _⟩ | ⟨rfl, _⟩ | ⟨rfl, _⟩ | ⟨rfl, _⟩
  · exact xm_NoBounds T
  · exact xm_NoPick T
  · exact xm_NoNumber T
  · exact xm_NoChange T
  · exact xm_NoText T
structure KnB (K : PySem.W.Frag) (C : Addr) (b0 b1 b2 b3 b4 : Bool) : Prop where
  c : ExcC K C
  v : PySem.W.kitOne K (.ref C) (.type "ValueError") = some true
  k0 : PySem.W.kitOne K (.ref C) (.ref (eNoBounds K)) = some b0
  k1 : PySem.W.kitOne K (.ref C) (.ref (eNoPick K)) = some b1
  k2 : PySem.W.kitOne K (.ref C) (.ref (eNoNumber K)) = some b2
  k3 : PySem.W.kitOne K (.ref C) (.ref (eNoChange K)) = some b3
  k4 : PySem.W.kitOne K (.ref C) (.ref (eNoText K)) = some b4
def kinds : List Str := ["bounds", "pick", "number", "change", "text"]
theorem kn_b (T : Wd K mg) {C : Addr} {z : Str} (h : Kn K C z) : ∃ (b0 b1 b2 b3 b4 : Bool) (i : Nat), KnB K C b0 b1 b2 b3 b4 ∧ [b0, b1, b2, b3, b4].count true = 1 ∧ [b0, b1, b2, b3, b4][i]? = some true ∧ (∀ m, m < i → [b0, b1, b2, b3, b4][m]? = some false) ∧ kinds[i]? = some z := by
  rcases h with ⟨rfl, rfl⟩ | ⟨rfl, rfl⟩ | ⟨rfl, rfl⟩ | ⟨rfl, rfl⟩ | ⟨rfl, rfl⟩
  · exact ⟨_, _, _, _, _, 0, ⟨ec_NoBounds T, kv_NoBounds T, kt_NoBounds_NoBounds T, kt_NoBounds_NoPick T, kt_NoBounds_NoNumber T, kt_NoBounds_NoChange T, kt_NoBounds_NoText T⟩, rfl, rfl, by decide, rfl⟩
  · exact ⟨_, _, _, _, _, 1, ⟨ec_NoPick T, kv_NoPick T, kt_NoPick_NoBounds T, kt_NoPick_NoPick T, kt_NoPick_NoNumber T, kt_NoPick_NoChange T, kt_NoPick_NoText T⟩, rfl, rfl, by decide, rfl⟩
  · exact ⟨_, _, _, _, _, 2, ⟨ec_NoNumber T, kv_NoNumber T, kt_NoNumber_NoBounds T, kt_NoNumber_NoPick T, kt_NoNumber_NoNumber T, kt_NoNumber_NoChange T, kt_NoNumber_NoText T⟩, rfl, rfl, by decide, rfl⟩
  · exact ⟨_, _, _, _, _, 3, ⟨ec_NoChange T, kv_NoChange T, kt_NoChange_NoBounds T, kt_NoChange_NoPick T, kt_NoChange_NoNumber T, kt_NoChange_NoChange T, kt_NoChange_NoText T⟩, rfl, rfl, by decide, rfl⟩
  · exact ⟨_, _, _, _, _, 4, ⟨ec_NoText T, kv_NoText T, kt_NoText_NoBounds T, kt_NoText_NoPick T, kt_NoText_NoNumber T, kt_NoText_NoChange T, kt_NoText_NoText T⟩, rfl, rfl, by decide, rfl⟩
def G_kind (K : PySem.W.Frag) (ds : List Da) (d : Da) : Prop := ∃ C z, ds = [.exc C] ∧ Kn K C z ∧ d = .str z
theorem boot_verr : bootBuiltins "ValueError" = some (.type "ValueError") := by decide +kernel
theorem tyL {K : PySem.W.Frag} {F : Hp} {ds : List Da} {v : V} (h : At K F (.lst ds) v) : tyV K "list" v F := by
  obtain ⟨a, vs, rfl, h1, _⟩ := h
  exact .inl ⟨rfl, _, .of h1⟩
theorem ok_kind (T : Wd K mg) : Fn0 P w K mg base 1 "_law_kind" (G_kind K) := by
  refine mk_fn0 (k := 0) (f_l_kind T) (g__law_kind T) sc_l_kind (fun ds d ⟨_, _, e, _⟩ => by rw [e]; rfl) fun fd cdv A outer s H E Fr ds R hr ⟨d, ⟨C, z, e, hk, e2⟩, hR⟩ => ?_
  subst e e2
  have nd := sc_l_kind.nd
  obtain ⟨b0, b1, b2, b3, b4, i, kb, hcnt, hi, hlt, hz⟩ := kn_b T hk
  refine db_cons (ds_setO (lm 1 nd) (do_lst (da_cons (de_callB (t_isinstance T) boot_isi (da_cons (nm 0) (da_cons (de_glob (k_NoBounds T)) da_nil)) (cd_isE kb.c kb.k0)) (da_cons (de_callB (t_isinstance T) boot_isi (da_cons (nm 0) (da_cons (de_glob (k_NoPick T)) da_nil)) (cd_isE kb.c kb.k1))
    (da_cons (de_callB (t_isinstance T) boot_isi (da_cons (nm 0) (da_cons (de_glob (k_NoNumber T)) da_nil)) (cd_isE kb.c kb.k2)) (da_cons (de_callB (t_isinstance T) boot_isi (da_cons (nm 0) (da_cons (de_glob (k_NoChange T)) da_nil)) (cd_isE kb.c kb.k3)) da_nil))))) ?_)
  refine db_cons (ds_append (nmx 1) rfl (de_callB (t_isinstance T) boot_isi (da_cons (nm 0) (da_cons (de_glob (k_NoText T)) da_nil)) (cd_isE kb.c kb.k4)) (by show 4 < 1000000; decide) ?_)
  refine db_freeze (i := 1) rfl ?_
  have hmarks : ∀ {j : J} {S : List Sl} {e : Expr}, DE j S e (.lst ([Da.bl b0, .bl b1, .bl b2, .bl b3] ++ [Da.bl b4])) → DE j S e (.lst ([b0, b1, b2, b3, b4].map Da.bl)) := fun h => h
  refine db_cons (ds_if (t := false) (dt_w (dt_w_is (dw_or (dt_cmp (de_bm PySem.F.plainAttrs_list PySem.F.slot_list_count PySem.F.type_list_count (hmarks (nm 1)) (da_cons de_bl da_nil) (md_cnt hr) fun F v h => tyL h) de_int od_neI)
    (fun _ => dw_or1 (dt_not (dt_val (de_callB (t_isinstance T) boot_isi (da_cons (nm 0) (da_cons (de_ty (t_ValueError T) boot_verr) da_nil)) (cd_isET kb.c kb.v)))))) (by rw [hcnt]; rfl))) (fun ht => by cases ht) (fun _ => db_nil ?_))
  refine db_one (ds_ret (de_ix (de_lst (da_cons de_str (da_cons de_str (da_cons de_str (da_cons de_str (da_cons de_str da_nil)))))) (de_bm PySem.F.plainAttrs_list PySem.F.slot_list_index PySem.F.type_list_index (hmarks (nm 1)) (da_cons de_bl da_nil) (md_idx hi hlt) fun F v h => tyL h)
    (ix_lst (d := .str z) (atI_nat (xs := kinds.map Da.str) (by rw [List.getElem?_map, hz]; rfl)))) hR)
end
end DL
namespace DL
open PySem PySem.Spec PyProof.Rows L2 TL
/-! ### k13: the law's own reading -/
section
variable {P : Program} {w : World} {K : PySem.W.Frag} {mg : Str → Option Value} {base : Heap}
theorem de_fnv {j : J} {S : List Sl} {mg : Str → Option Value} {x : Str} {a : Addr} {pos : Pos} (h : mg x = some (.ref a)) (hdb : (x == ("__debug__" : Str)) = false := by decide +kernel) (hg : Gl j.X x := by rfl) (em : j.X.mg = mg := by rfl) : DE j S (.Name x pos) (.fn a) :=
  de_glob (K := j.X.K) ⟨⟨.ref a, .ref a, h, rfl, fun _ => rfl⟩, hdb⟩ hg rfl em
theorem eqD_nil (xs : List Da) : eqD (.lst xs) (.lst []) = decide (xs = []) := by
  cases xs <;> rfl
theorem cd_lenI {j : J} {ns : List Int} : CallD j (.builtin "len") [.lst (ns.map Da.int)] (.int (ns.length : Nat)) := by
  have h := cd_len_lst (j := j) (ds := ns.map Da.int)
  rw [List.length_map] at h
  exact h
theorem fil_map {α : Type} {l : List α} {p : α → Bool} {f : α → Da} : decide ((l.filter p).map f = []) = decide (l.filter p = []) := by
  rw [decide_eq_decide, List.map_eq_nil_iff]
def G_lnum (ds : List Da) (d : Da) : Prop := ∃ z, ds = [.str z] ∧ z.length ≤ 100000 ∧ okT z ∧ d = .int (lnum z)
theorem ok_lnum (T : Wd K mg) : Fn0 P w K mg base 1 "_law_number_of" G_lnum := by
  refine mk_fn0 (k := 0) (f_l_number_of T) (g__law_number_of T) sc_l_number_of (fun ds d ⟨_, e, _⟩ => by rw [e]; rfl) fun fd cdv A outer s H E Fr ds R hr ⟨d, ⟨z, e, hz, hok, e2⟩, hR⟩ => ?_
  subst e e2
  have nd := sc_l_number_of.nd
  have hlz := len_tl z
  refine db_cons (ds_if (t := !(decide ((1 : Int) ≤ z.length) && decide ((z.length : Int) ≤ 3)) || !decide (((tl z).filter fun c => !decide (c ∈ tl figs)) = []))
    (dt_w (dw_or (dt_not (dt_chain de_int (de_callB (t_len T) boot_len' (da_cons (nm 0) da_nil) (cd_len_str (by omega))) od_le (fun _ => de_int) (fun _ => od_le)))
      (fun hn => dw_or1 (dt_is (dt_cmp (de_lc (i := 2) (tl z) (fun c => Da.str ⟨#[c]⟩) (fun c => !decide (c ∈ tl figs)) (fun c => Da.str ⟨#[c]⟩) (di_str (nm 0)) (by omega) (blkOk_by (N := N_l_number_of) (sc := defScope s_l_number_of) (by decide +kernel)) (fun _ _ _ _ _ => lm 2 nd)
        (fun F1 s Hb C cl fp c hc => dts_one (dt_cmp (nm 2) de_str od_ninSign)) (fun F1 s Hb C cl fp c hc _ => nm 2) nd) (de_lst da_nil) (od_ne hr (okd_lst (okds_all (n := 0) fun d hd => ?_)) (okd_lst (n := 0) okds_nil))) ?_)))) (fun ht => ?_) (fun ht => db_nil ?_))
  · obtain ⟨c, hc, rfl⟩ := List.mem_map.mp hd
    exact okd_str (okT_str fun c' hc' => by
      have : c' = c := by simpa [tl] using hc'
      subst this
      exact hok _ (List.mem_filter.mp hc).1)
  · rw [eqD_nil, fil_map]
  · refine db_one (ds_ret (de_un de_int ud_neg) ?_)
    have e : lnum z = -1 := by
      unfold lnum
      refine if_neg fun h => ?_
      rw [h.1, decide_eq_true h.2] at ht
      cases ht
    rw [e] at hR
    exact hR
  rw [Bool.or_eq_false_iff, Bool.not_eq_false', Bool.not_eq_false', decide_eq_true_eq] at ht
  have e : lnum z = if lead z = true then -1 else valI z := by
    unfold lnum
    exact if_pos ht
  rw [e] at hR
  have h3 := ht.1
  rw [Bool.and_eq_true, decide_eq_true_eq, decide_eq_true_eq] at h3
  obtain ⟨c, hc, hl⟩ := lead_at (z := z) fun q => by
    subst q
    have : ((("" : Str).length : Nat) : Int) = 0 := by decide +kernel
    omega
  refine db_cons (ds_if (t := lead z) (by rw [hl]; exact dt_w (dw_and (dt_cmp (de_ix (nm 0) de_int (ix_strD (by omega) hc)) de_str od_eqS) (fun _ => dw_and1 (dt_cmp (nm 0) de_str od_neS)))) (fun ht => ?_) (fun ht => db_nil ?_))
  · rw [if_pos ht] at hR
    exact db_one (ds_ret (de_un de_int ud_neg) hR)
  rw [if_neg (by rw [ht]; decide)] at hR
  refine db_cons (ds_set (lm 1 nd) de_int ?_)
  refine db_cons (ds_for (ws := [2]) (fun i S' => ∃ t, S' = [.da (.str z), .da (.int (((tl z).take i).foldl (fun a c => 10 * a + Txt.find figs ⟨#[c]⟩) 0)), t]) (di_str (nm 0)) ⟨.un, rfl⟩ ?_ ?_)
  · rintro i d S' hd ⟨t, rfl⟩
    obtain ⟨c, hc, rfl⟩ : ∃ c, (tl z)[i]? = some c ∧ d = Da.str ⟨#[c]⟩ := by
      unfold sgs at hd
      rw [List.getElem?_map, Option.map_eq_some_iff] at hd
      obtain ⟨c, h1, h2⟩ := hd
      exact ⟨c, h1, h2.symm⟩
    refine dg_nm (lm 2 nd) (by simp) ?_
    refine db_one (ds_set (lm 1 nd) (de_bin (de_bin de_int (nm 1) (od_mul (.inl (by decide)))) (de_bm F.plainAttrs_str F.slot_str_find F.type_str_find de_str (da_cons (nm 2) da_nil) md_find ty_str) od_add) ⟨.da (.str ⟨#[c]⟩), ?_⟩)
    rw [List.take_succ, hc, List.foldl_append]
    rfl
  · rintro S' ⟨t, rfl⟩
    have e : (sgs z).length = (tl z).length := List.length_map ..
    rw [e, List.take_length]
    exact db_one (ds_ret (nm 1) hR)
/-- what the law awaits -/
def dueD (z : Str) : Da := match dueT z with
  | some ns => .tup [.str "told", .tup (ns.map Da.int)]
  | none => .str "text"
def G_due (ds : List Da) (d : Da) : Prop := ∃ z, ds = [.str z] ∧ z.length ≤ 100000 ∧ okT z ∧ d = dueD z
theorem ok_due (T : Wd K mg) : Fn0 P w K mg base 2 "_law_due" G_due := by
  have hn : Fn0 P w K mg base 1 "_law_number_of" G_lnum := ok_lnum T
  refine mk_fn0 (k := 1) (f_l_due T) (g__law_due T) sc_l_due (fun ds d ⟨_, e, _⟩ => by rw [e]; rfl) fun fd cdv A outer s H E Fr ds R hr ⟨d, ⟨z, e, hz, hok, e2⟩, hR⟩ => ?_
  subst e e2
  have nd := sc_l_due.nd
  unfold dueD dueT at hR
  refine db_cons (ds_if (dt_cmp (nm 0) de_str od_eqS) (fun ht => ?_) (fun ht => db_nil ?_))
  · rw [if_pos (of_decide_eq_true ht)] at hR
    exact db_one (ds_ret (de_tup (da_cons de_str (da_cons (de_tup da_nil) da_nil))) hR)
  rw [if_neg (of_decide_eq_false ht)] at hR
  have hwl := split_few (z := z)
  refine db_cons (ds_set (lm 1 nd) (d := .lst (((Txt.split z blank).map lnum).map Da.int)) (de_is (de_lc (i := 2) (Txt.split z blank) Da.str (fun _ => true) (fun w => Da.int (lnum w)) (di_list (de_bm F.plainAttrs_str F.slot_str_split F.type_str_split (nm 0) (da_cons de_str da_nil) (md_split (b := blank) (by decide +kernel) (by omega)) ty_str)) (by omega) (blkOk_by (N := N_l_due) (sc := defScope s_l_due) (by decide +kernel)) (fun _ _ _ _ _ => lm 2 nd) (fun F1 s Hb C cl fp a ha => dts_nil)
      (fun F1 s Hb C cl fp a ha _ => ?_) nd) ?_) ?_)
  · exact de_call0 hn hr (by decide) (da_cons (nm 2) da_nil) ⟨a, rfl, Nat.le_trans (split_len ha) hz, okT_split hok ha, rfl⟩
  · rw [List.filter_eq_self.mpr (fun _ _ => rfl), List.map_map]
    rfl
  have hiff := due_iff (Txt.split z blank)
  have hvals := due_vals (ws := Txt.split z blank)
  unfold dueW at hR
  have hlen : ((Txt.split z blank).map lnum).length = (Txt.split z blank).length := List.length_map ..
  generalize (Txt.split z blank).map lnum = ns at hiff hvals hlen
  refine db_cons (ds_if (t := decide ((-1 : Int) ∈ ns) || !decide ((ns.filter fun n => decide ((199 : Int) < n)) = [])) (dt_w (dw_or (dt_cmp (de_un de_int ud_neg) (nm 1) od_inL)
    (fun _ => dw_or1 (dt_is (dt_cmp (de_lc (i := 3) ns Da.int (fun n => decide ((199 : Int) < n)) Da.int (di_list (nm 1)) (by omega) (blkOk_by (N := N_l_due) (sc := defScope s_l_due) (by decide +kernel)) (fun _ _ _ _ _ => lm 3 nd)
      (fun F1 s Hb C cl fp c hc => dts_one (dt_cmp (nm 3) de_int od_gt)) (fun F1 s Hb C cl fp c hc _ => nm 3) nd) (de_lst da_nil) (od_ne hr (ok1L _) (okd_lst (n := 0) okds_nil))) (by rw [eqD_nil, fil_map]))))) (fun ht => ?_) (fun ht => db_nil ?_))
  · have hf : ¬ ((Txt.split z blank).all isNum && risN 200 ((Txt.split z blank).map valI) (-1)) = true := fun h => by
      obtain ⟨h1, h2, _⟩ := hiff.mpr h
      rw [decide_eq_false h1, decide_eq_true h2] at ht
      cases ht
    rw [if_neg hf] at hR
    exact db_one (ds_ret de_str hR)
  rw [Bool.or_eq_false_iff, decide_eq_false_iff_not, Bool.not_eq_false', decide_eq_true_eq] at ht
  refine db_cons (ds_if (t := !decide (badK ns = [])) (dt_is (dt_cmp (de_lc (i := 4) (List.range (ns.length - 1)) (fun k : Nat => Da.int (0 + (k : Nat))) (fun k => decide (ns.getD k 0 ≥ ns.getD (k + 1) 0)) (fun k : Nat => Da.int (0 + (k : Nat)))
      (ds := rgD 0 ((ns.length : Int) - 1).toNat) (di_range1 (t_range T) (de_bin (de_callB (t_len T) boot_len' (da_cons (nm 1) da_nil) cd_lenI) de_int od_sub) (by omega) (by omega)) (by rw [List.length_range]; omega) (blkOk_by (N := N_l_due) (sc := defScope s_l_due) (by decide +kernel)) (fun _ _ _ _ _ => lm 4 nd)
      (fun F1 s Hb C cl fp k hk => dts_one ?_) (fun F1 s Hb C cl fp k hk _ => nm 4) nd (by rw [show ((ns.length : Int) - 1).toNat = ns.length - 1 by omega]; rfl)) (de_lst da_nil) (od_ne hr (okd_lst (okds_all (n := 0) fun d hd => ?_)) (okd_lst (n := 0) okds_nil))) ?_) (fun hb => ?_) (fun hb => db_nil ?_))
  · have hk := List.mem_range.mp hk
    have i1 := atI_getD (l := ns) (i := 0 + (k : Int)) (by omega) (by omega)
    have i2 := atI_getD (l := ns) (i := 0 + (k : Int) + 1) (by omega) (by omega)
    rw [show (0 + (k : Int)).toNat = k by omega] at i1
    rw [show (0 + (k : Int) + 1).toNat = k + 1 by omega] at i2
    exact dt_cmp (de_ix (nm 1) (nm 4) (ix_lst i1)) (de_ix (nm 1) (de_bin (nm 4) de_int od_add) (ix_lst i2)) od_ge
  · obtain ⟨c, hc, rfl⟩ := List.mem_map.mp hd
    exact okd_int
  · rw [eqD_nil, fil_map]
    rfl
  · have hf : ¬ ((Txt.split z blank).all isNum && risN 200 ((Txt.split z blank).map valI) (-1)) = true := fun h => by
      obtain ⟨_, _, h3⟩ := hiff.mpr h
      rw [decide_eq_true h3] at hb
      cases hb
    rw [if_neg hf] at hR
    exact db_one (ds_ret de_str hR)
  · rw [Bool.not_eq_false', decide_eq_true_eq] at hb
    have hp := hiff.mp ⟨ht.1, ht.2, hb⟩
    rw [if_pos hp, ← hvals (by rw [Bool.and_eq_true] at hp; exact hp.1)] at hR
    exact db_one (ds_ret (de_tup (da_cons de_str (da_cons (de_callTy (t_tuple T) boot_ttuple (da_cons (nm 1) da_nil) cd_tuple_lst) da_nil))) hR)
/-- a call of written or read, told or refused -/
def G_done (K : PySem.W.Frag) (ds : List Da) (d : Da) : Prop :=
  (∃ x y, ds = [.fn (He.ga K "written"), x] ∧ G_written [x] y ∧ d = .tup [.str "told", y]) ∨ (∃ x, ds = [.fn (He.ga K "written"), x] ∧ X_written K [x] (eNoPick K) ∧ d = .str "pick") ∨
  (∃ x y, ds = [.fn (He.ga K "read"), x] ∧ G_read [x] y ∧ d = .tup [.str "told", y]) ∨ (∃ x, ds = [.fn (He.ga K "read"), x] ∧ X_read K [x] (eNoText K) ∧ d = .str "text")
theorem ok_done (T : Wd K mg) : Fn0 P w K mg base 5 "_law_done" (G_done K) := by
  have hw : FnX P w K mg base 4 "written" G_written (X_written K) := ok_written T
  have hrd : FnX P w K mg base 4 "read" G_read (X_read K) := ok_read T
  have hki : Fn0 P w K mg base 1 "_law_kind" (G_kind K) := ok_kind T
  have hkp : Kn K (eNoPick K) "pick" := .inr (.inl ⟨rfl, rfl⟩)
  have hkt : Kn K (eNoText K) "text" := .inr (.inr (.inr (.inr ⟨rfl, rfl⟩)))
  refine mk_fn0 (k := 4) (f_l_done T) (g__law_done T) sc_l_done (fun ds d h => by rcases h with ⟨_, _, e, _⟩ | ⟨_, e, _⟩ | ⟨_, _, e, _⟩ | ⟨_, e, _⟩ <;> rw [e] <;> rfl) fun fd cdv A outer s H E Fr ds R hr ⟨d, h, hR⟩ => ?_
  have nd := sc_l_done.nd
  rcases h with ⟨x, y, rfl, g, rfl⟩ | ⟨x, rfl, g, rfl⟩ | ⟨x, y, rfl, g, rfl⟩ | ⟨x, rfl, g, rfl⟩
  · refine db_cons (ds_set (lm 2 nd) de_non (db_cons (ds_set (lm 3 nd) de_non ?_)))
    refine db_cons (ds_tryK (i := 4) (fun _ => False) ⟨rfl, by decide +kernel, .inl (g_PickError T)⟩ rfl rfl (lm 3 nd) (Or.inl rfl) (fun _ h => h.elim) (fun pn xe F H tk po => db_one (ds_set (lm 2 nd) (de_callLX hw (g_written T) (nmx 0) rfl hr (by decide) (da_cons (nm 1) da_nil) g) ?_)) (fun _ h => h.elim))
    exact db_cons (ds_if (dt_cmp (nm 3) de_non od_isnN) (fun ht => by cases ht) (fun _ => db_nil (db_one (ds_ret (de_tup (da_cons de_str (da_cons (nm 2) da_nil))) hR))))
  · refine db_cons (ds_set (lm 2 nd) de_non (db_cons (ds_set (lm 3 nd) de_non ?_)))
    refine db_cons (ds_tryK (i := 4) (fun C' => C' = eNoPick K) ⟨rfl, by decide +kernel, .inl (g_PickError T)⟩ rfl rfl (lm 3 nd) (Or.inl rfl) (fun C' h => h ▸ kn_exm T hkp) (fun pn xe F H tk po => db_one (ds_setN (lm 2 nd) (dn_callLX hw (g_written T) (nmx 0) rfl hr (by decide) (da_cons (nm 1) da_nil) g rfl))) (fun C' h => ?_))
    subst h
    exact db_cons (ds_if (dt_cmp (nm 3) de_non od_isnN) (fun _ => db_one (ds_ret (de_call0 hki hr (by decide) (da_cons (nm 3) da_nil) ⟨_, _, rfl, hkp, rfl⟩) hR)) (fun ht => by cases ht))
  · refine db_cons (ds_set (lm 2 nd) de_non (db_cons (ds_set (lm 3 nd) de_non ?_)))
    refine db_cons (ds_tryK (i := 4) (fun _ => False) ⟨rfl, by decide +kernel, .inl (g_PickError T)⟩ rfl rfl (lm 3 nd) (Or.inl rfl) (fun _ h => h.elim) (fun pn xe F H tk po => db_one (ds_set (lm 2 nd) (de_callLX hrd (g_read T) (nmx 0) rfl hr (by decide) (da_cons (nm 1) da_nil) g) ?_)) (fun _ h => h.elim))
    exact db_cons (ds_if (dt_cmp (nm 3) de_non od_isnN) (fun ht => by cases ht) (fun _ => db_nil (db_one (ds_ret (de_tup (da_cons de_str (da_cons (nm 2) da_nil))) hR))))
  · refine db_cons (ds_set (lm 2 nd) de_non (db_cons (ds_set (lm 3 nd) de_non ?_)))
    refine db_cons (ds_tryK (i := 4) (fun C' => C' = eNoText K) ⟨rfl, by decide +kernel, .inl (g_PickError T)⟩ rfl rfl (lm 3 nd) (Or.inl rfl) (fun C' h => h ▸ kn_exm T hkt) (fun pn xe F H tk po => db_one (ds_setN (lm 2 nd) (dn_callLX hrd (g_read T) (nmx 0) rfl hr (by decide) (da_cons (nm 1) da_nil) g rfl))) (fun C' h => ?_))
    subst h
    exact db_cons (ds_if (dt_cmp (nm 3) de_non od_isnN) (fun _ => db_one (ds_ret (de_call0 hki hr (by decide) (da_cons (nm 3) da_nil) ⟨_, _, rfl, hkt, rfl⟩) hR)) (fun ht => by cases ht))
end
end DL
namespace DL
open PySem PySem.Spec PyProof.Rows L2 TL
/-! ### k13: texts spoilt -/
theorem seC {c : Const} {k : Nat} {p : Pos} {es : List Expr} {env : Env} : starEach (.Constant c k p :: es) env = (false, eval (.Constant c k p) env) :: starEach es env := rfl
theorem daS {j : J} {S : List Sl} {es : List Expr} {ds : List Da} {k : Nat} {p : Pos} {z : String} (hr : DA j S es ds) : DA j S (.Constant (.str z) k p :: es) (.str z :: ds) := da_cons de_str hr seC
def cutL (xs : List Str) (lo hi : Option Int) : List Str := (xs.drop (HT.sIx xs.length 0 lo)).take (HT.sIx xs.length xs.length hi - HT.sIx xs.length 0 lo)
theorem cut_sts (xs : List Str) (lo hi : Option Int) : cutD (sts xs) lo hi = sts (cutL xs lo hi) := by
  unfold cutD cutL sts
  rw [List.length_map, List.map_take, List.map_drop]
theorem sum_take (xs : List Str) (n : Nat) : ((xs.take n).map (·.length)).sum ≤ (xs.map (·.length)).sum := by
  have h := congrArg List.sum (congrArg (List.map (·.length)) (List.take_append_drop n xs))
  rw [List.map_append, List.sum_append] at h
  omega
theorem sum_drop (xs : List Str) (n : Nat) : ((xs.drop n).map (·.length)).sum ≤ (xs.map (·.length)).sum := by
  have h := congrArg List.sum (congrArg (List.map (·.length)) (List.take_append_drop n xs))
  rw [List.map_append, List.sum_append] at h
  omega
theorem cut_sum (xs : List Str) (lo hi : Option Int) : ((cutL xs lo hi).map (·.length)).sum ≤ (xs.map (·.length)).sum := Nat.le_trans (sum_take _ _) (sum_drop _ _)
theorem cut_len (xs : List Str) (lo hi : Option Int) : (cutL xs lo hi).length ≤ xs.length := by
  unfold cutL
  rw [List.length_take, List.length_drop]
  omega
theorem cut_mem {xs : List Str} {lo hi : Option Int} {p : Str} (h : p ∈ cutL xs lo hi) : p ∈ xs := List.mem_of_mem_drop (List.mem_of_mem_take h)
def spSigns : Str := " 0123456789 -+n,_.a"
def spC (m : Int) : Nat := (tl spSigns).getD (m / 9000 % 19).toNat 0
def spOs : List Str := ["00", "01", "200", "199", "1000", "", "none", "-1", "+1", "1_0", "1e1"]
def spO (m : Int) : Str := spOs.getD (m / 900 % 11).toNat ""
def sp6 (t : Str) : List Str := [(" " : Str) ++ t, t ++ (" " : Str), t ++ ("\n" : Str), repl1 t "  ", ""]
def spW (t : Str) (m : Int) : List Str :=
  let ws := Txt.split t blank
  let spot : Int := m / 9 % ws.length
  if m % 9 = 3 then cutL ws none (some spot) ++ [spO m] ++ cutL ws (some (spot + 1)) none
  else if m % 9 = 4 then cutL ws none (some spot) ++ [ws.getD spot.toNat ""] ++ cutL ws (some spot) none
  else if m % 9 = 5 then ws.reverse
  else ws ++ [spO m]
def spT (t : Str) (m : Int) : Str :=
  let place : Int := m / 9 % ((t.length : Int) + 1)
  if m % 9 = 0 then cutS t none (some place) ++ ⟨#[spC m]⟩ ++ cutS t (some place) none
  else if m % 9 = 1 then cutS t none (some place) ++ cutS t (some (place + 1)) none
  else if m % 9 = 2 then cutS t none (some place) ++ ⟨#[spC m]⟩ ++ cutS t (some (place + 1)) none
  else if m % 9 = 6 then (sp6 t).getD (m / 9 % 5).toNat ""
  else Txt.join blank (spW t m)
theorem spOs_ok : spOs.all (fun z => decide (z.length ≤ 4) && z.cps.toList.all fun c => decide (c < 0x110000)) = true := by decide +kernel
def spDs : List Da := [.str "00", .str "01", .str "200", .str "199", .str "1000", .str "", .str "none", .str "-1", .str "+1", .str "1_0", .str "1e1"]
theorem spDs_eq : sts spOs = spDs := rfl
theorem spO_get (m : Int) : atI spDs (m / 900 % 11) = some (.str (spO m)) ∧ (spO m).length ≤ 4 ∧ okT (spO m) := by
  have h0 := Int.emod_nonneg (m / 900) (show (11 : Int) ≠ 0 by decide)
  have h1 := Int.emod_lt_of_pos (m / 900) (show (0 : Int) < 11 by decide)
  have hl : (m / 900 % 11).toNat < spOs.length := by show _ < 11; omega
  obtain ⟨a, e, h⟩ := atI_map (l := spOs) Da.str h0 (by show _ < (11 : Int); omega)
  have e2 : spO m = a := by
    unfold spO
    rw [List.getD_eq_getElem?_getD, e]
    rfl
  have q := List.all_eq_true.mp spOs_ok a (List.mem_of_getElem? e)
  rw [Bool.and_eq_true, decide_eq_true_eq] at q
  rw [e2, ← spDs_eq]
  exact ⟨h, q.1, okT_dec q.2⟩
theorem spC_get (m : Int) : atI spSigns.cps.toList (m / 9000 % 19) = some (spC m) ∧ okT ⟨#[spC m]⟩ := by
  have h0 := Int.emod_nonneg (m / 9000) (show (19 : Int) ≠ 0 by decide)
  have h1 := Int.emod_lt_of_pos (m / 9000) (show (0 : Int) < 19 by decide)
  have hl : (m / 9000 % 19).toNat < (tl spSigns).length := Nat.lt_of_lt_of_eq (show _ < 19 by omega) (by decide +kernel)
  have e : (tl spSigns)[(m / 9000 % 19).toNat]? = some (spC m) := by
    unfold spC
    rw [List.getD_eq_getElem?_getD, List.getElem?_eq_getElem hl]
    rfl
  have e2 := atI_nat e
  rw [Int.toNat_of_nonneg h0] at e2
  refine ⟨e2, fun c hc => ?_⟩
  have hc : c = spC m := by simpa [tl] using hc
  subst hc
  have q : (tl spSigns).all (fun c => decide (c < 0x110000)) = true := by decide +kernel
  exact of_decide_eq_true (List.all_eq_true.mp q _ (List.mem_of_getElem? e))
theorem sp6_get {t : Str} (m : Int) (ht : okT t) : atI (sts (sp6 t)) (m / 9 % 5) = some (.str ((sp6 t).getD (m / 9 % 5).toNat "")) ∧ ((sp6 t).getD (m / 9 % 5).toNat "").length ≤ 2 * t.length + 4 ∧ okT ((sp6 t).getD (m / 9 % 5).toNat "") := by
  have h0 := Int.emod_nonneg (m / 9) (show (5 : Int) ≠ 0 by decide)
  have h1 := Int.emod_lt_of_pos (m / 9) (show (0 : Int) < 5 by decide)
  obtain ⟨a, e, h⟩ := atI_map (l := sp6 t) Da.str h0 (by show _ < (5 : Int); omega)
  have e2 : (sp6 t).getD (m / 9 % 5).toNat "" = a := by
    rw [List.getD_eq_getElem?_getD, e]
    rfl
  rw [e2]
  refine ⟨h, ?_⟩
  have ha := List.mem_of_getElem? e
  have hb : okT (" " : Str) := okT_dec (by decide +kernel)
  have l1 : (" " : Str).length = 1 := by decide +kernel
  have l2 : ("\n" : Str).length = 1 := by decide +kernel
  have l3 : ("  " : Str).length = 2 := by decide +kernel
  have l4 : ("" : Str).length = 0 := by decide +kernel
  have la : ∀ x y : Str, (x ++ y).length = x.length + y.length := fun x y => by
    rw [len_tl, tl_append, List.length_append, ← len_tl, ← len_tl]
  unfold sp6 at ha
  simp only [List.mem_cons, List.not_mem_nil, or_false] at ha
  rcases ha with rfl | rfl | rfl | rfl | rfl
  · exact ⟨by rw [la, l1]; omega, okT_app hb ht⟩
  · exact ⟨by rw [la, l1]; omega, okT_app ht hb⟩
  · exact ⟨by rw [la, l2]; omega, okT_app ht (okT_dec (by decide +kernel))⟩
  · exact ⟨by have := repl1_len (z := t) (y := "  "); omega, repl1_ok ht (okT_dec (by decide +kernel))⟩
  · exact ⟨by rw [l4]; omega, okT_dec (by decide +kernel)⟩
theorem len_app (x y : Str) : (x ++ y).length = x.length + y.length := by
  rw [len_tl, tl_append, List.length_append, ← len_tl, ← len_tl]
theorem spW_ok {t : Str} {m : Int} (ht : okT t) (hl : t.length ≤ 900) : ((spW t m).map (·.length)).sum + (spW t m).length * blank.length ≤ 8000 ∧ ∀ p ∈ spW t m, okT p := by
  have hw := split_sum t
  have hn := split_few (z := t)
  have hb : blank.length = 1 := by decide +kernel
  obtain ⟨_, ho, ho2⟩ := spO_get m
  have hws : ∀ p ∈ Txt.split t blank, okT p := fun p hp => okT_split ht hp
  have hwl : ∀ p ∈ Txt.split t blank, p.length ≤ 900 := fun p hp => Nat.le_trans (split_len hp) hl
  rw [hb]
  unfold spW
  generalize Txt.split t blank = ws at hw hn hws hwl
  have hg : ∀ i, (ws.getD i "").length ≤ 900 ∧ okT (ws.getD i "") := fun i => by
    rw [List.getD_eq_getElem?_getD]
    cases e : ws[i]? with
    | none => exact ⟨Nat.le_trans (show ("" : Str).length ≤ 0 by decide +kernel) (by decide), okT_dec (by decide +kernel)⟩
    | some a => exact ⟨hwl a (List.mem_of_getElem? e), hws a (List.mem_of_getElem? e)⟩
  dsimp only
  split
  · constructor
    · simp only [List.map_append, List.sum_append, List.length_append, List.map_cons, List.map_nil, List.sum_cons, List.sum_nil, List.length_cons, List.length_nil]
      have := cut_sum ws none (some (m / 9 % ws.length))
      have := cut_sum ws (some (m / 9 % ws.length + 1)) none
      have := cut_len ws none (some (m / 9 % ws.length))
      have := cut_len ws (some (m / 9 % ws.length + 1)) none
      omega
    · intro p hp
      rcases List.mem_append.mp hp with hp | hp
      · rcases List.mem_append.mp hp with hp | hp
        · exact hws p (cut_mem hp)
        · rw [List.mem_singleton.mp hp]; exact ho2
      · exact hws p (cut_mem hp)
  split
  · constructor
    · simp only [List.map_append, List.sum_append, List.length_append, List.map_cons, List.map_nil, List.sum_cons, List.sum_nil, List.length_cons, List.length_nil]
      have := cut_sum ws none (some (m / 9 % ws.length))
      have := cut_sum ws (some (m / 9 % ws.length)) none
      have := cut_len ws none (some (m / 9 % ws.length))
      have := cut_len ws (some (m / 9 % ws.length)) none
      have := (hg (m / 9 % ws.length).toNat).1
      omega
    · intro p hp
      rcases List.mem_append.mp hp with hp | hp
      · rcases List.mem_append.mp hp with hp | hp
        · exact hws p (cut_mem hp)
        · rw [List.mem_singleton.mp hp]; exact (hg _).2
      · exact hws p (cut_mem hp)
  split
  · constructor
    · rw [List.map_reverse, List.sum_reverse, List.length_reverse]
      omega
    · exact fun p hp => hws p (List.mem_reverse.mp hp)
  · constructor
    · simp only [List.map_append, List.sum_append, List.length_append, List.map_cons, List.map_nil, List.sum_cons, List.sum_nil, List.length_cons, List.length_nil]
      omega
    · intro p hp
      rcases List.mem_append.mp hp with hp | hp
      · exact hws p hp
      · rw [List.mem_singleton.mp hp]; exact ho2
theorem one_len (c : Nat) : (⟨#[c]⟩ : Str).length = 1 := rfl
theorem spT_ok {t : Str} {m : Int} (ht : okT t) (hl : t.length ≤ 900) : (spT t m).length ≤ 100000 ∧ okT (spT t m) := by
  have hc : ∀ lo hi, (cutS t lo hi).length ≤ 900 := fun lo hi => Nat.le_trans (cutS_length t lo hi) hl
  have hk : ∀ lo hi, okT (cutS t lo hi) := fun lo hi => okT_cut ht
  obtain ⟨_, hs⟩ := spC_get m
  obtain ⟨h1, h2⟩ := spW_ok (m := m) ht hl
  obtain ⟨_, h3, h4⟩ := sp6_get (t := t) m ht
  unfold spT
  dsimp only
  split
  · refine ⟨?_, okT_app (okT_app (hk _ _) hs) (hk _ _)⟩
    rw [len_app, len_app, one_len]
    have := hc none (some (m / 9 % ((t.length : Int) + 1)))
    have := hc (some (m / 9 % ((t.length : Int) + 1))) none
    omega
  split
  · refine ⟨?_, okT_app (hk _ _) (hk _ _)⟩
    rw [len_app]
    have := hc none (some (m / 9 % ((t.length : Int) + 1)))
    have := hc (some (m / 9 % ((t.length : Int) + 1) + 1)) none
    omega
  split
  · refine ⟨?_, okT_app (okT_app (hk _ _) hs) (hk _ _)⟩
    rw [len_app, len_app, one_len]
    have := hc none (some (m / 9 % ((t.length : Int) + 1)))
    have := hc (some (m / 9 % ((t.length : Int) + 1) + 1)) none
    omega
  split
  · exact ⟨by omega, h4⟩
  · refine ⟨?_, okT_join (okT_dec (by decide +kernel)) h2⟩
    rw [join_eq]
    exact Nat.le_trans (StrLaws.join_length_le blank _) (by omega)
section
variable {P : Program} {w : World} {K : PySem.W.Frag} {mg : Str → Option Value} {base : Heap}
def G_spoilt (ds : List Da) (d : Da) : Prop := ∃ t m, ds = [.str t, .int m] ∧ t.length ≤ 900 ∧ okT t ∧ d = .str (spT t m)
theorem ok_spoilt (T : Wd K mg) : Fn0 P w K mg base 1 "_law_spoilt" G_spoilt := by
  refine mk_fn0 (k := 0) (f_l_spoilt T) (g__law_spoilt T) sc_l_spoilt (fun ds d ⟨_, _, e, _⟩ => by rw [e]; rfl) fun fd cdv A outer s H E Fr ds R hr ⟨d, ⟨t, m, e, hl, ht, e2⟩, hR⟩ => ?_
  subst e e2
  have nd := sc_l_spoilt.nd
  have hc : ∀ lo hi, (cutS t lo hi).length ≤ 900 := fun lo hi => Nat.le_trans (cutS_length t lo hi) hl
  obtain ⟨hs1, _⟩ := spC_get m
  obtain ⟨ho1, ho2, _⟩ := spO_get m
  obtain ⟨h6, h6l, _⟩ := sp6_get (t := t) m ht
  obtain ⟨hw1, _⟩ := spW_ok (m := m) ht hl
  have hwl := split_few (z := t)
  have hne := split_ne t
  unfold spT at hR
  dsimp only at hR
  refine db_cons (ds_set (lm 2 nd) (de_bin (de_bin (nm 1) de_int (od_fdiv (by decide))) (de_bin (de_callB (t_len T) boot_len' (da_cons (nm 0) da_nil) (cd_len_str (by omega))) de_int od_add) (od_mod (by omega))) ?_)
  refine db_cons (ds_set (lm 3 nd) (de_ix de_str (de_bin (de_bin (nm 1) de_int (od_fdiv (by decide))) de_int (od_mod (by decide))) (ix_strD (by decide +kernel) hs1)) ?_)
  refine db_cons (ds_set (lm 4 nd) (de_bin (nm 1) de_int (od_mod (by decide))) ?_)
  refine db_cons (ds_if (dt_cmp (nm 4) de_int od_eqI) (fun hw => ?_) (fun hw => db_nil ?_))
  · rw [if_pos (of_decide_eq_true hw)] at hR
    have := hc none (some (m / 9 % ((t.length : Int) + 1)))
    have := hc (some (m / 9 % ((t.length : Int) + 1))) none
    exact db_one (ds_ret (de_bin (de_bin (de_slice (l := none) (h := some (m / 9 % ((t.length : Int) + 1))) (nm 0) trivial (show DE _ _ _ _ from nm 2) (sl_strD (by omega))) (nm 3) (od_addS (by rw [one_len]; omega)))
      (de_slice (l := some (m / 9 % ((t.length : Int) + 1))) (h := none) (nm 0) (show DE _ _ _ _ from nm 2) trivial (sl_strD (by omega))) (od_addS (by rw [len_app, one_len]; omega))) hR)
  rw [if_neg (of_decide_eq_false hw)] at hR
  refine db_cons (ds_if (dt_cmp (nm 4) de_int od_eqI) (fun hw => ?_) (fun hw => db_nil ?_))
  · rw [if_pos (of_decide_eq_true hw)] at hR
    have := hc none (some (m / 9 % ((t.length : Int) + 1)))
    have := hc (some (m / 9 % ((t.length : Int) + 1) + 1)) none
    exact db_one (ds_ret (de_bin (de_slice (l := none) (h := some (m / 9 % ((t.length : Int) + 1))) (nm 0) trivial (show DE _ _ _ _ from nm 2) (sl_strD (by omega)))
      (de_slice (l := some (m / 9 % ((t.length : Int) + 1) + 1)) (h := none) (nm 0) (show DE _ _ _ _ from de_bin (nm 2) de_int od_add) trivial (sl_strD (by omega))) (od_addS (by omega))) hR)
  rw [if_neg (of_decide_eq_false hw)] at hR
  refine db_cons (ds_if (dt_cmp (nm 4) de_int od_eqI) (fun hw => ?_) (fun hw => db_nil ?_))
  · rw [if_pos (of_decide_eq_true hw)] at hR
    have := hc none (some (m / 9 % ((t.length : Int) + 1)))
    have := hc (some (m / 9 % ((t.length : Int) + 1) + 1)) none
    exact db_one (ds_ret (de_bin (de_bin (de_slice (l := none) (h := some (m / 9 % ((t.length : Int) + 1))) (nm 0) trivial (show DE _ _ _ _ from nm 2) (sl_strD (by omega))) (nm 3) (od_addS (by rw [one_len]; omega)))
      (de_slice (l := some (m / 9 % ((t.length : Int) + 1) + 1)) (h := none) (nm 0) (show DE _ _ _ _ from de_bin (nm 2) de_int od_add) trivial (sl_strD (by omega))) (od_addS (by rw [len_app, one_len]; omega))) hR)
  rw [if_neg (of_decide_eq_false hw)] at hR
  refine db_cons (ds_set (lm 5 nd) (de_bm F.plainAttrs_str F.slot_str_split F.type_str_split (nm 0) (da_cons de_str da_nil) (md_split (b := blank) (by decide +kernel) (by omega)) ty_str) ?_)
  unfold spW at hR hw1
  dsimp only at hR hw1
  generalize Txt.split t blank = ws at hR hwl hne hw1
  have hpos : 0 < ws.length := List.length_pos_iff.mpr hne
  have hlen : ∀ {j : J}, CallD j (.builtin "len") [.lst (sts ws)] (.int (ws.length : Nat)) := fun {j} => by
    have h := cd_len_lst (j := j) (ds := sts ws)
    rw [sts_length] at h
    exact h
  refine db_cons (ds_set (lm 6 nd) (de_bin (de_bin (nm 1) de_int (od_fdiv (by decide))) (de_callB (t_len T) boot_len' (da_cons (nm 5) da_nil) hlen) (od_mod (by omega))) ?_)
  have s0 := Int.emod_nonneg (m / 9) (show ((ws.length : Nat) : Int) ≠ 0 by omega)
  have s1 := Int.emod_lt_of_pos (m / 9) (show (0 : Int) < ((ws.length : Nat) : Int) by omega)
  have c1 := cut_len ws none (some (m / 9 % (ws.length : Int)))
  have c2 := cut_len ws (some (m / 9 % (ws.length : Int))) none
  have c3 := cut_len ws (some (m / 9 % (ws.length : Int) + 1)) none
  generalize hspot : m / 9 % ((ws.length : Nat) : Int) = spot at hR hw1 s0 s1 c1 c2 c3 ⊢
  refine db_cons ?_
  with_reducible refine ds_set (i := 7) (d := .str (spO m)) ?l7 ?h7 ?k7 ?s7
  case l7 => exact lm 7 nd
  case s7 => rfl
  case h7 =>
    with_reducible refine de_ix (x := .lst spDs) (y := .int (m / 900 % 11)) ?a7 ?b7 (ix_lst ho1) ?p7
    case b7 => exact de_bin (de_bin (nm 1) de_int (od_fdiv (by decide))) de_int (od_mod (by decide))
    case p7 => exact fun _ _ => rfl
    case a7 =>
      with_reducible refine de_lst (ds := spDs) ?q7 ?r7
      case q7 =>
        unfold spDs
        with_reducible exact daS (daS (daS (daS (daS (daS (daS (daS (daS (daS (daS da_nil))))))))))
      case r7 =>
        show 11 ≤ 1000000
        decide
  generalize spO m = oth at hR hw1 ho2
  refine db_cons (ds_if (dt_cmp (nm 4) de_int od_eqI) (fun hw => ?_) (fun hw => ?_))
  · have e := of_decide_eq_true hw
    rw [if_neg (show ¬ m % 9 = 6 by omega), if_pos e] at hR
    rw [if_pos e] at hw1
    refine db_one (ds_set (lm 5 nd) (d := .lst (sts (cutL ws none (some spot) ++ [oth] ++ cutL ws (some (spot + 1)) none))) (de_is (de_bin (de_bin (de_slice (l := none) (h := some spot) (nm 5) trivial (show DE _ _ _ _ from nm 6) sl_lst) (de_lst (da_cons (nm 7) da_nil)) (od_addL (by rw [cut_sts, sts_length]; simp only [List.length_cons, List.length_nil]; omega)))
      (de_slice (l := some (spot + 1)) (h := none) (nm 5) (show DE _ _ _ _ from de_bin (nm 6) de_int od_add) trivial sl_lst) (od_addL (by rw [cut_sts, cut_sts, List.length_append, sts_length, sts_length]; simp only [List.length_cons, List.length_nil]; omega))) ?_) ?_)
    · rw [cut_sts, cut_sts]
      unfold sts
      rw [List.map_append, List.map_append]
      rfl
    · exact db_one (ds_ret (de_bm F.plainAttrs_str F.slot_str_join F.type_str_join de_str (da_cons (nm 5) da_nil) (md_join (a := blank) (Nat.le_trans hw1 (by decide))) ty_str) hR)
  refine db_one (ds_if (dt_cmp (nm 4) de_int od_eqI) (fun hw4 => ?_) (fun hw4 => ?_))
  · have e := of_decide_eq_true hw4
    have e3 := of_decide_eq_false hw
    rw [if_neg (show ¬ m % 9 = 6 by omega), if_neg e3, if_pos e] at hR
    rw [if_neg e3, if_pos e] at hw1
    obtain ⟨a, q1, q2⟩ := atI_map (l := ws) Da.str s0 s1
    have q3 : ws.getD spot.toNat "" = a := by
      rw [List.getD_eq_getElem?_getD, q1]
      rfl
    rw [q3] at hR hw1
    refine db_one (ds_set (lm 5 nd) (d := .lst (sts (cutL ws none (some spot) ++ [a] ++ cutL ws (some spot) none))) (de_is (de_bin (de_bin (de_slice (l := none) (h := some spot) (nm 5) trivial (show DE _ _ _ _ from nm 6) sl_lst) (de_lst (da_cons (de_ix (nm 5) (nm 6) (ix_lst q2)) da_nil)) (od_addL (by rw [cut_sts, sts_length]; simp only [List.length_cons, List.length_nil]; omega)))
      (de_slice (l := some spot) (h := none) (nm 5) (show DE _ _ _ _ from nm 6) trivial sl_lst) (od_addL (by rw [cut_sts, cut_sts, List.length_append, sts_length, sts_length]; simp only [List.length_cons, List.length_nil]; omega))) ?_) ?_)
    · rw [cut_sts, cut_sts]
      unfold sts
      rw [List.map_append, List.map_append]
      rfl
    · exact db_one (ds_ret (de_bm F.plainAttrs_str F.slot_str_join F.type_str_join de_str (da_cons (nm 5) da_nil) (md_join (a := blank) (Nat.le_trans hw1 (by decide))) ty_str) hR)
  refine db_one (ds_if (dt_cmp (nm 4) de_int od_eqI) (fun hw5 => ?_) (fun hw5 => ?_))
  · have e := of_decide_eq_true hw5
    have e3 := of_decide_eq_false hw
    have e4 := of_decide_eq_false hw4
    rw [if_neg (show ¬ m % 9 = 6 by omega), if_neg e3, if_neg e4, if_pos e] at hR
    rw [if_neg e3, if_neg e4, if_pos e] at hw1
    refine db_one (ds_set (lm 5 nd) (d := .lst (sts ws.reverse)) (de_is (de_revL (nm 5)) ?_) ?_)
    · unfold sts
      rw [List.map_reverse]
    · exact db_one (ds_ret (de_bm F.plainAttrs_str F.slot_str_join F.type_str_join de_str (da_cons (nm 5) da_nil) (md_join (a := blank) (Nat.le_trans hw1 (by decide))) ty_str) hR)
  refine db_one (ds_if (dt_cmp (nm 4) de_int od_eqI) (fun hw6 => ?_) (fun hw6 => ?_))
  · have e := of_decide_eq_true hw6
    rw [if_pos e] at hR
    have l1 : (" " : Str).length = 1 := by decide +kernel
    have l2 : ("\n" : Str).length = 1 := by decide +kernel
    have l3 : ("  " : Str).length ≤ 10 := by decide +kernel
    exact db_one (ds_ret (de_ix (de_lst (ds := sts (sp6 t)) (da_consK (nm 0) (by rw [l1]; omega) (dat_cons (det_of (de_bin (nm 0) de_str (od_addS (by rw [l1]; omega)))) (dat_cons (det_of (de_bin (nm 0) de_str (od_addS (by rw [l2]; omega)))) (dat_cons (det_repl (nm 0) (by omega) l3 rfl) (dat_of (da_cons de_str da_nil))))))
      (by show 5 ≤ 1000000; decide)) (de_bin (de_bin (nm 1) de_int (od_fdiv (by decide))) de_int (od_mod (by decide))) (ix_lst h6)) hR)
  · have e3 := of_decide_eq_false hw
    have e4 := of_decide_eq_false hw4
    have e5 := of_decide_eq_false hw5
    rw [if_neg (of_decide_eq_false hw6), if_neg e3, if_neg e4, if_neg e5] at hR
    rw [if_neg e3, if_neg e4, if_neg e5] at hw1
    refine db_one (ds_set (lm 5 nd) (d := .lst (sts (ws ++ [oth]))) (de_is (de_bin (nm 5) (de_lst (da_cons (nm 7) da_nil)) (od_addL (by rw [sts_length]; simp only [List.length_cons, List.length_nil]; omega))) ?_) ?_)
    · unfold sts
      rw [List.map_append]
      rfl
    · exact db_one (ds_ret (de_bm F.plainAttrs_str F.slot_str_join F.type_str_join de_str (da_cons (nm 5) da_nil) (md_join (a := blank) (Nat.le_trans hw1 (by decide))) ty_str) hR)
end
end DL
namespace DL
open PySem PySem.Spec PyProof.Rows L2
/-! ### the laws' helpers: a number by a cell -/
def mixM (c k : Int) : Int := (c + 7919 * k + 11) * 48271 % 2147483647
def mixI (c k : Int) : Int := (mixM c k * mixM c k + 40692 * mixM c k) % 2147483399
theorem mixI_lo (c k : Int) : 0 ≤ mixI c k := Int.emod_nonneg _ (by decide)
theorem mixI_hi (c k : Int) : mixI c k < 2147483399 := Int.emod_lt_of_pos _ (by decide)
theorem mixM_lo (c k : Int) : 0 ≤ mixM c k := Int.emod_nonneg _ (by decide)
theorem mixM_hi (c k : Int) : mixM c k < 2147483647 := Int.emod_lt_of_pos _ (by decide)
def cellI (ns : List Int) (k : Nat) : Int := mixI (ns.getD k 0) (300 + (k : Int))
section
variable {P : Program} {w : World} {K : PySem.W.Frag} {mg : Str → Option Value} {base : Heap}
def G_mixed (ds : List Da) (d : Da) : Prop := ∃ c k : Int, ds = [.int c, .int k] ∧ d = .int (mixI c k)
theorem ok_mixed (T : Wd K mg) : Fn0 P w K mg base 1 "_law_mixed" G_mixed := by
  refine mk_fn0 (k := 0) (f_l_mixed T) (g__law_mixed T) sc_l_mixed (fun ds d ⟨c, k, e, _⟩ => by rw [e]; rfl) fun fd cdv A outer s H E Fr ds R hr ⟨d, ⟨c, k, e, e2⟩, hR⟩ => ?_
  subst e e2
  have nd := sc_l_mixed.nd
  refine db_cons (ds_set (lm 2 nd) (de_bin (de_bin (de_bin (de_bin (nm 0) (de_bin de_int (nm 1) (od_mul (.inl (by decide)))) od_add) de_int od_add) de_int (od_mul (.inr (by decide)))) de_int (od_mod (by decide))) ?_)
  have h1 := mixM_lo c k
  have h2 := mixM_hi c k
  exact db_one (ds_ret (de_bin (de_bin (de_bin (nm 2) (nm 2) (od_mul (.inl (by show -(2 ^ 64) < mixM c k ∧ mixM c k < 2 ^ 64; omega)))) (de_bin de_int (nm 2) (od_mul (.inl (by decide)))) od_add) de_int (od_mod (by decide))) hR)
def G_cell_at (ds : List Da) (d : Da) : Prop := ∃ (ns : List Int) (k : Nat), ds = [.scr ns, .int (k : Int)] ∧ d = .int (cellI ns k)
theorem ok_cell_at (T : Wd K mg) : Fn0 P w K mg base 2 "_law_cell_at" G_cell_at := by
  have hm : Fn0 P w K mg base 1 "_law_mixed" G_mixed := ok_mixed T
  refine mk_fn0 (k := 1) (f_l_cell_at T) (g__law_cell_at T) sc_l_cell_at (fun ds d ⟨c, k, e, _⟩ => by rw [e]; rfl) fun fd cdv A outer s H E Fr ds R hr ⟨d, ⟨ns, k, e, e2⟩, hR⟩ => ?_
  subst e e2
  have nd := sc_l_cell_at.nd
  refine db_cons (ds_set (lm 2 nd) de_int ?_)
  refine db_cons (ds_if (dt_cmp (nm 1) (de_callB (t_len T) boot_len' (da_cons (nm 0) da_nil) cd_len_scr) od_lt) (fun ht => ?_) (fun ht => ?_))
  · have hk : k < ns.length := by have := of_decide_eq_true ht; omega
    have e : ns.getD k 0 = ns[k] := by rw [List.getD_eq_getElem?_getD, List.getElem?_eq_getElem hk]; rfl
    refine db_one (ds_set (lm 2 nd) (d := .int (ns.getD k 0)) (de_ix (nm 0) (nm 1) (ix_scr (by rw [e]; exact atI_nat (List.getElem?_eq_getElem hk)))) ?_)
    exact db_one (ds_ret (de_call0 hm hr (by decide) (da_cons (nm 2) (da_cons (de_bin de_int (nm 1) od_add) da_nil)) ⟨_, _, rfl, rfl⟩) hR)
  · have hk : ¬ k < ns.length := by have := of_decide_eq_false ht; omega
    refine db_nil (db_one (ds_ret (de_call0 hm hr (by decide) (da_cons (nm 2) (da_cons (de_bin de_int (nm 1) od_add) da_nil)) ⟨_, _, rfl, rfl⟩) ?_))
    have e : ns.getD k 0 = 0 := by rw [List.getD_eq_getElem?_getD, List.getElem?_eq_none (by omega)]; rfl
    unfold cellI at hR
    rw [e] at hR
    exact hR
end
end DL
namespace DL
open PySem PySem.Spec PyProof.Rows L2
def wideF (c : Int) : Nat → Int
  | 0 => 0
  | k + 1 => wideF c k * 2147483399 + mixI c (40 + (k : Int))
def wideI (c b : Int) : Int := if b < 2 ∨ c % 9 = 0 then 0 else if c % 9 = 1 then b - 1 else wideF c 8 % b
theorem wideI_lo (c b : Int) : 0 ≤ wideI c b := by
  unfold wideI
  by_cases h : b < 2 ∨ c % 9 = 0
  · rw [if_pos h]; omega
  · rw [if_neg h]
    by_cases h2 : c % 9 = 1
    · rw [if_pos h2]; omega
    · rw [if_neg h2]; exact Int.emod_nonneg _ (by omega)
theorem wideI_hi (c b : Int) (hb : 1 ≤ b) : wideI c b < b := by
  unfold wideI
  by_cases h : b < 2 ∨ c % 9 = 0
  · rw [if_pos h]; omega
  · rw [if_neg h]
    by_cases h2 : c % 9 = 1
    · rw [if_pos h2]; omega
    · rw [if_neg h2]; exact Int.emod_lt_of_pos _ (by omega)
theorem wide_nat {c : Int} {b : Nat} (hb : 1 ≤ b) : ∃ m : Nat, wideI c b = m ∧ m < b := by
  have m0 := wideI_lo c b
  have m1 := wideI_hi c b (by omega)
  exact ⟨(wideI c b).toNat, by omega, by omega⟩
section
variable {P : Program} {w : World} {K : PySem.W.Frag} {mg : Str → Option Value} {base : Heap}
def G_wide (ds : List Da) (d : Da) : Prop := ∃ c b : Int, ds = [.int c, .int b] ∧ d = .int (wideI c b)
theorem ok_wide (T : Wd K mg) : Fn0 P w K mg base 2 "_law_wide" G_wide := by
  have hm : Fn0 P w K mg base 1 "_law_mixed" G_mixed := ok_mixed T
  refine mk_fn0 (k := 1) (f_l_wide T) (g__law_wide T) sc_l_wide (fun ds d ⟨c, k, e, _⟩ => by rw [e]; rfl) fun fd cdv A outer s H E Fr ds R hr ⟨d, ⟨c, b, e, e2⟩, hR⟩ => ?_
  subst e e2
  have nd := sc_l_wide.nd
  unfold wideI at hR
  refine db_cons (ds_if (dt_w (dw_or (dt_cmp (nm 1) de_int od_lt) (fun _ => dw_or1 (dt_cmp (de_bin (nm 0) de_int (od_mod (by decide))) de_int od_eqI)))) (fun ht => ?_) (fun ht => ?_))
  · have ht : b < 2 ∨ c % 9 = 0 := by simpa using ht
    rw [if_pos ht] at hR
    exact db_one (ds_ret de_int hR)
  · have ht : ¬ (b < 2 ∨ c % 9 = 0) := by simpa using ht
    rw [if_neg ht] at hR
    refine db_nil (db_cons (ds_if (dt_cmp (de_bin (nm 0) de_int (od_mod (by decide))) de_int od_eqI) (fun h2 => ?_) (fun h2 => ?_)))
    · rw [if_pos (of_decide_eq_true h2)] at hR
      exact db_one (ds_ret (de_bin (nm 1) de_int od_sub) hR)
    · rw [if_neg (of_decide_eq_false h2)] at hR
      refine db_nil (db_cons (ds_set (lm 2 nd) de_int ?_))
      refine db_cons (ds_for (ws := [3]) (fun i S' => ∃ t, S' = [.da (.int c), .da (.int b), .da (.int (wideF c i)), t]) (di_range1 (t_range T) de_int (by decide) (by decide)) ⟨.un, rfl⟩ ?_ ?_)
      · rintro i d S' hd ⟨t, rfl⟩
        obtain ⟨hi, rfl⟩ := rgD_get hd
        refine dg_nm (lm 3 nd) (by simp) ?_
        refine db_one (ds_set (lm 2 nd) (de_bin (de_bin (nm 2) de_int (od_mul (.inr (by decide)))) (de_call0 hm hr (by decide) (da_cons (nm 0) (da_cons (de_bin de_int (nm 3) od_add) da_nil)) ⟨_, _, rfl, rfl⟩) od_add) ?_)
        refine ⟨.da (.int (0 + (i : Nat))), ?_⟩
        show [Sl.da (.int c), .da (.int b), .da (.int (wideF c i * 2147483399 + mixI c (40 + (0 + (i : Int))))), .da (.int (0 + (i : Nat)))] = _
        rw [Int.zero_add]
        rfl
      · rintro S' ⟨t, rfl⟩
        exact db_one (ds_ret (de_bin (nm 2) (nm 1) (od_mod (by omega))) hR)
end
end DL
namespace DL
open PySem PySem.Spec PyProof.Rows L2
def thI (c : Int) : Int := ([c / 5 % 9, c / 5 % 40, c / 5 % 201, 200, 199] : List Int).getD (c % 5).toNat 0
def szL (c : Int) : List Int := [mixI c 5 % (thI c + 1), if mixI c 6 % 5 < thI c then mixI c 6 % 5 else thI c, thI c / 2, thI c - thI c / 40]
def szI (c : Int) : Int := (szL c).getD (mixI c 7 / 3 % 4).toNat 0
theorem cases5 {i : Int} (h0 : 0 ≤ i) (h1 : i < 5) : i = 0 ∨ i = 1 ∨ i = 2 ∨ i = 3 ∨ i = 4 := by omega
theorem cases4 {i : Int} (h0 : 0 ≤ i) (h1 : i < 4) : i = 0 ∨ i = 1 ∨ i = 2 ∨ i = 3 := by omega
theorem thI_b (c : Int) : 0 ≤ thI c ∧ thI c ≤ 200 := by
  unfold thI
  rcases cases5 (Int.emod_nonneg c (show (5 : Int) ≠ 0 by decide)) (Int.emod_lt_of_pos c (by decide)) with h | h | h | h | h
  · rw [h]; show 0 ≤ c / 5 % 9 ∧ c / 5 % 9 ≤ 200; omega
  · rw [h]; show 0 ≤ c / 5 % 40 ∧ c / 5 % 40 ≤ 200; omega
  · rw [h]; show 0 ≤ c / 5 % 201 ∧ c / 5 % 201 ≤ 200; omega
  · rw [h]; show 0 ≤ (200 : Int) ∧ (200 : Int) ≤ 200; omega
  · rw [h]; show 0 ≤ (199 : Int) ∧ (199 : Int) ≤ 200; omega
theorem szI_b (c : Int) : 0 ≤ szI c ∧ szI c ≤ thI c := by
  obtain ⟨h0, h1⟩ := thI_b c
  unfold szI
  have a1 := Int.emod_nonneg (mixI c 5) (show thI c + 1 ≠ 0 by omega)
  have a2 := Int.emod_lt_of_pos (mixI c 5) (show 0 < thI c + 1 by omega)
  have a3 := mixI_lo c 6
  rcases cases4 (Int.emod_nonneg (mixI c 7 / 3) (show (4 : Int) ≠ 0 by decide)) (Int.emod_lt_of_pos _ (by decide)) with h | h | h | h
  · rw [h]; show 0 ≤ mixI c 5 % (thI c + 1) ∧ mixI c 5 % (thI c + 1) ≤ thI c; omega
  · rw [h]; show 0 ≤ (if mixI c 6 % 5 < thI c then mixI c 6 % 5 else thI c) ∧ (if mixI c 6 % 5 < thI c then mixI c 6 % 5 else thI c) ≤ thI c
    split <;> omega
  · rw [h]; show 0 ≤ thI c / 2 ∧ thI c / 2 ≤ thI c; omega
  · rw [h]; show 0 ≤ thI c - thI c / 40 ∧ thI c - thI c / 40 ≤ thI c; omega
section
variable {P : Program} {w : World} {K : PySem.W.Frag} {mg : Str → Option Value} {base : Heap}
def G_size (ds : List Da) (d : Da) : Prop := ∃ c : Int, ds = [.int c] ∧ d = .tup [.int (thI c), .int (szI c)]
theorem ok_size (T : Wd K mg) : Fn0 P w K mg base 2 "_law_size" G_size := by
  have hm : Fn0 P w K mg base 1 "_law_mixed" G_mixed := ok_mixed T
  refine mk_fn0 (k := 1) (f_l_size T) (g__law_size T) sc_l_size (fun ds d ⟨c, e, _⟩ => by rw [e]; rfl) fun fd cdv A outer s H E Fr ds R hr ⟨d, ⟨c, e, e2⟩, hR⟩ => ?_
  subst e e2
  have nd := sc_l_size.nd
  obtain ⟨h0, h1⟩ := thI_b c
  have b1 : 0 ≤ c % 5 := Int.emod_nonneg _ (by decide)
  have b2 : c % 5 < 5 := Int.emod_lt_of_pos _ (by decide)
  have b3 : 0 ≤ mixI c 7 / 3 % 4 := Int.emod_nonneg _ (by decide)
  have b4 : mixI c 7 / 3 % 4 < 4 := Int.emod_lt_of_pos _ (by decide)
  refine db_cons (ds_set (lm 1 nd) (d := .int (thI c)) (de_ix (de_lst (da_cons (de_bin (de_bin (nm 0) de_int (od_fdiv (by decide))) de_int (od_mod (by decide))) (da_cons (de_bin (de_bin (nm 0) de_int (od_fdiv (by decide))) de_int (od_mod (by decide)))
    (da_cons (de_bin (de_bin (nm 0) de_int (od_fdiv (by decide))) de_int (od_mod (by decide))) (da_cons de_int (da_cons de_int da_nil)))))) (de_bin (nm 0) de_int (od_mod (by decide)))
    (ix_lst (atI_getD (l := [c / 5 % 9, c / 5 % 40, c / 5 % 201, 200, 199]) b1 b2))) ?_)
  refine db_cons (ds_set (lm 2 nd) (de_lst (da_cons (de_bin (de_call0 hm hr (by decide) (da_cons (nm 0) (da_cons de_int da_nil)) ⟨_, _, rfl, rfl⟩) (de_bin (nm 1) de_int od_add) (od_mod (by omega)))
    (da_cons (de_callB (t_min T) boot_min (da_cons (nm 1) (da_cons (de_bin (de_call0 hm hr (by decide) (da_cons (nm 0) (da_cons de_int da_nil)) ⟨_, _, rfl, rfl⟩) de_int (od_mod (by decide))) da_nil)) cd_min2) da_nil))) ?_)
  refine db_cons (ds_set (lm 2 nd) (de_bin (nm 2) (de_lst (da_cons (de_bin (nm 1) de_int (od_fdiv (by decide))) (da_cons (de_bin (nm 1) (de_bin (nm 1) de_int (od_fdiv (by decide))) od_sub) da_nil))) (od_addL (by simp))) ?_)
  exact db_one (ds_ret (de_tup (da_cons (nm 1) (da_cons (d := .int (szI c)) (de_ix (nm 2) (de_bin (de_bin (de_call0 hm hr (by decide) (da_cons (nm 0) (da_cons de_int da_nil)) ⟨_, _, rfl, rfl⟩) de_int (od_fdiv (by decide))) de_int (od_mod (by decide))) (ix_lst (atI_getD (l := szL c) b3 b4))) da_nil)) (by show 2 ≤ 1000000; decide)) hR)
end
end DL
namespace DL
open PySem PySem.Spec PyProof.Rows L2
/-! ### the program: picks.py -/
def Po (K : PySem.W.Frag) (n k : Nat) : Da := .ob (cPicks K) nPicks [.int (n : Int), .int (k : Int)]
/-- a falling row of small numbers, rising, as numbers -/
def upI (D : List Nat) : List Int := D.reverse.map fun t : Nat => (t : Int)
theorem upI_length (D : List Nat) : (upI D).length = D.length := by unfold upI; simp
theorem upI_cons (l : Nat) (r : List Nat) : upI (l :: r) = upI r ++ [(l : Int)] := by unfold upI; simp
theorem mem_upI {D : List Nat} {t : Int} : t ∈ upI D ↔ ∃ l ∈ D, (l : Int) = t := by
  unfold upI
  rw [List.mem_map]
  constructor
  · rintro ⟨l, h, e⟩; exact ⟨l, List.mem_reverse.mp h, e⟩
  · rintro ⟨l, h, e⟩; exact ⟨l, List.mem_reverse.mpr h, e⟩
theorem mem_upI' {D : List Nat} {t : Nat} : ((t : Int) ∈ upI D) ↔ t ∈ D := by
  rw [mem_upI]
  constructor
  · rintro ⟨l, h, e⟩
    have : l = t := by omega
    exact this ▸ h
  · intro h; exact ⟨t, h, rfl⟩
theorem upI_pair : ∀ {D : List Nat} {n : Nat}, Desc n D → (upI D).Pairwise (· < ·)
  | [], _, _ => .nil
  | l :: r, n, ⟨h1, h2⟩ => by
    rw [upI_cons, List.pairwise_append]
    refine ⟨upI_pair h2, List.pairwise_singleton _ _, fun a ha b hb => ?_⟩
    obtain ⟨t, ht, rfl⟩ := mem_upI.mp ha
    cases List.mem_singleton.mp hb
    have := desc_lt h2 t ht
    omega
theorem upI_bnd {D : List Nat} {n : Nat} (h : Desc n D) : ∀ t ∈ upI D, (-1 : Int) < t ∧ t < n := fun t ht => by
  obtain ⟨l, hl, rfl⟩ := mem_upI.mp ht
  have := desc_lt h l hl
  omega
theorem ris_up {D : List Nat} {n : Nat} (h : Desc n D) : risL n ((upI D).map Da.int) (-1) = true := ris_of _ _ _ (upI_pair h) (upI_bnd h)
theorem ris_upT {D : List Nat} {n : Nat} (h : Desc n D) : risD (.tup ((upI D).map Da.int)) n = true := by
  show (true && _) = true
  rw [Bool.true_and]
  exact ris_up h
theorem ris_upL {D : List Nat} {n : Nat} (h : Desc n D) : risD (.lst ((upI D).map Da.int)) n = true := by
  show (true && _) = true
  rw [Bool.true_and]
  exact ris_up h
/-- back -/
def dnN (ns : List Int) : List Nat := (ns.map Int.toNat).reverse
theorem dnN_up (D : List Nat) : dnN (upI D) = D := by
  unfold dnN upI
  rw [List.map_map, ← List.map_reverse, List.reverse_reverse]
  exact (List.map_congr_left fun a _ => by show (a : Int).toNat = a; omega).trans (List.map_id D)
theorem up_dnN {ns : List Int} (h : ∀ t ∈ ns, 0 ≤ t) : upI (dnN ns) = ns := by
  unfold dnN upI
  rw [List.reverse_reverse, List.map_map]
  exact (List.map_congr_left fun a ha => by
    have := h a ha
    show ((a.toNat : Nat) : Int) = a
    omega).trans (List.map_id ns)
theorem desc_of : ∀ {D : List Nat} {n : Nat}, D.Pairwise (fun a b => b < a) → (∀ t ∈ D, t < n) → Desc n D
  | [], _, _, _ => trivial
  | l :: r, n, hp, hb => by
    obtain ⟨h1, h2⟩ := List.pairwise_cons.mp hp
    exact ⟨hb l List.mem_cons_self, desc_of h2 fun t ht => h1 t ht⟩
theorem desc_pair : ∀ {D : List Nat} {n : Nat}, Desc n D → D.Pairwise (fun a b => b < a)
  | [], _, _ => .nil
  | l :: r, n, ⟨h1, h2⟩ => List.pairwise_cons.mpr ⟨fun t ht => desc_lt h2 t ht, desc_pair h2⟩
theorem desc_ris {x : Da} {n : Nat} (h : risD x n = true) : Desc n (dnN (intsOf x)) ∧ upI (dnN (intsOf x)) = intsOf x := by
  obtain ⟨hp, hb⟩ := ris_pair (ris_ints h)
  refine ⟨desc_of ?_ fun t ht => ?_, up_dnN fun t ht => by have := hb t ht; omega⟩
  · unfold dnN
    rw [List.pairwise_reverse, List.pairwise_map]
    exact hp.imp_of_mem fun {a b} ha hb2 hab => by
      have := hb a ha
      have := hb b hb2
      omega
  · unfold dnN at ht
    obtain ⟨i, hi, rfl⟩ := List.mem_map.mp (List.mem_reverse.mp ht)
    have := hb i hi
    omega
/-- the number of a row of numbers -/
def rkI (ns : List Int) : Nat := rkD (dnN ns)
theorem rkI_up (D : List Nat) : rkI (upI D) = rkD D := by unfold rkI; rw [dnN_up]
theorem dnN_take {ns : List Int} {i : Nat} (h : i < ns.length) : dnN (ns.take (i + 1)) = (ns.getD i 0).toNat :: dnN (ns.take i) := by
  unfold dnN
  rw [List.take_succ, List.getD_eq_getElem?_getD, List.getElem?_eq_getElem h, List.map_append, List.reverse_append]
  rfl
theorem fnd_done {few m : Nat} : ∀ {l : Nat}, bin l few ≤ m → fnd few m l = l
  | 0, _ => rfl
  | l + 1, h => by
    unfold fnd
    rw [if_neg (by omega)]
theorem fnd_more {few m l : Nat} (h : m < bin (l + 1) few) : fnd few m (l + 1) = fnd few m l := by
  show (if _ then _ else _) = _
  rw [if_pos h]
theorem dnN_length (ns : List Int) : (dnN ns).length = ns.length := by unfold dnN; simp
theorem desc_len : ∀ {D : List Nat} {n : Nat}, Desc n D → D.length ≤ n
  | [], n, _ => Nat.zero_le n
  | l :: r, n, ⟨h1, h2⟩ => by
    have := desc_len h2
    show r.length + 1 ≤ n
    omega
theorem desc_app : ∀ {A B : List Nat} {n : Nat}, Desc n (A ++ B) → ∃ m, Desc m B
  | [], B, n, h => ⟨n, h⟩
  | _ :: A, B, n, h => desc_app h.2
theorem desc_take {x : Da} {n i : Nat} (h : risD x n = true) (hi : i < (intsOf x).length) : Desc n (dnN (intsOf x)) ∧ Desc ((intsOf x).getD i 0).toNat (dnN ((intsOf x).take i)) := by
  obtain ⟨h1, _⟩ := desc_ris h
  refine ⟨h1, ?_⟩
  have e : dnN (intsOf x) = dnN ((intsOf x).drop (i + 1)) ++ dnN ((intsOf x).take (i + 1)) := by
    unfold dnN
    rw [← List.reverse_append, ← List.map_append, List.take_append_drop]
  rw [e] at h1
  obtain ⟨m, h2⟩ := desc_app h1
  rw [dnN_take hi] at h2
  exact h2.2
section
variable {P : Program} {w : World} {K : PySem.W.Frag} {mg : Str → Option Value} {base : Heap}
def G_ways (ds : List Da) (d : Da) : Prop := ∃ n k : Nat, ds = [.int n, .int k] ∧ n ≤ 1000 ∧ d = .int (bin n k)
theorem ok_ways (T : Wd K mg) : Fn0 P w K mg base 1 "ways" G_ways := by
  refine mk_fn0 (k := 0) (f_ways T) (g_ways T) sc_ways (fun ds d ⟨n, k, e, _⟩ => by rw [e]; rfl) fun fd cdv A outer s H E Fr ds R hr ⟨d, ⟨n, k, e, hn, e2⟩, hR⟩ => ?_
  subst e e2
  have nd := sc_ways.nd
  refine db_cons (ds_if (dt_w (dw_or (dt_cmp (nm 1) de_int od_lt) (fun _ => dw_or1 (dt_cmp (nm 1) (nm 0) od_gt)))) (fun ht => ?_) (fun ht => ?_))
  · have ht : (k : Int) < 0 ∨ (n : Int) < k := by simpa using ht
    have e : bin n k = 0 := bin_gt (by omega)
    rw [e] at hR
    exact db_one (ds_ret de_int hR)
  · have ht : ¬ ((k : Int) < 0 ∨ (n : Int) < k) := by simpa using ht
    refine db_nil (db_cons (ds_set (lm 2 nd) de_int ?_))
    refine db_cons (ds_for (ws := [3]) (fun i S' => ∃ t, S' = [.da (.int n), .da (.int k), .da (.int (bin n i)), t]) (di_range1 (t_range T) (nm 1) (by omega) (by omega)) ⟨.un, by rw [bin_zero]; rfl⟩ ?_ ?_)
    · rintro i d S' hd ⟨t, rfl⟩
      obtain ⟨hi, rfl⟩ := rgD_get hd
      refine dg_nm (lm 3 nd) (by simp) ?_
      refine db_one (ds_set (lm 2 nd) (de_bin (de_bin (nm 2) (de_bin (nm 0) (nm 3) od_sub) (od_mul (.inr (by omega)))) (de_bin (nm 3) de_int od_add) (od_fdiv (by omega))) ?_)
      refine ⟨.da (.int (0 + (i : Nat))), ?_⟩
      have e : (bin n i : Int) * ((n : Int) - (0 + (i : Nat))) / (0 + (i : Nat) + 1) = (bin n (i + 1) : Nat) := by
        have h := bin_mul n i
        have h2 : (bin n i : Int) * ((n : Int) - (0 + (i : Nat))) = (bin n (i + 1) : Nat) * ((i : Int) + 1) := by
          have h3 : ((bin n (i + 1) * (i + 1) + bin n i * i : Nat) : Int) = ((bin n i * n : Nat) : Int) := congrArg _ h
          push_cast at h3
          rw [Int.zero_add, Int.mul_sub, ← h3]
          omega
        rw [h2, Int.zero_add]
        exact Int.mul_ediv_cancel _ (by omega)
      show [Sl.da (.int n), .da (.int k), .da (.int ((bin n i : Int) * ((n : Int) - (0 + (i : Nat))) / (0 + (i : Nat) + 1))), .da (.int (0 + (i : Nat)))] = _
      rw [e]
    · rintro S' ⟨t, rfl⟩
      rw [rgD_length, Int.toNat_natCast]
      exact db_one (ds_ret (nm 2) hR)
def okB (x y : Da) : Bool := match y with
  | .int n => inB x 0 200 && inB y 0 (match x with | .int m => m | _ => 0)
  | _ => false
def G_Picks (K : PySem.W.Frag) (ds : List Da) (d : Da) : Prop := ∃ x y, ds = [x, y] ∧ (tyN x).isSome = true ∧ (tyN y).isSome = true ∧ okB x y = true ∧ d = .ob (cPicks K) nPicks [x, y]
def X_Picks (K : PySem.W.Frag) (ds : List Da) (C : Addr) : Prop := ∃ x y, ds = [x, y] ∧ (tyN x).isSome = true ∧ (tyN y).isSome = true ∧ okB x y = false ∧ C = eNoBounds K
theorem okB_nat {n k : Nat} (h : k ≤ n) (hn : n ≤ 200) : okB (.int (n : Int)) (.int (k : Int)) = true := by
  show (inB _ _ _ && inB _ _ _) = true
  rw [inB_nat hn, inB_int.mpr (show (0 : Int) ≤ k ∧ (k : Int) ≤ n from ⟨by omega, by omega⟩)]
  rfl
theorem ok_Picks (T : Wd K mg) : MkX P w K mg base 3 "Picks" (cPicks K) (G_Picks K) (X_Picks K) := by
  have hw : Fn0 P w K mg base 2 "is_within" G_is_within := ok_is_within T
  refine mk_init (k := 2) (f_Picks_init T) (g_Picks T) (mk_Picks T) sc_Picks_init (fun ds d ⟨x, y, e, _⟩ => by rw [e]; rfl) (fun ds d ⟨x, y, e, _⟩ => by rw [e]; rfl) (fun ds d ⟨x, y, _, _, _, _, e⟩ => ⟨_, _, e⟩)
    fun fd cdv A outer s H E Fr H0 p dx EX hex ds R hr alt => ?_
  obtain ⟨x, y, rfl, hx, hy⟩ : ∃ x y, ds = [x, y] ∧ (tyN x).isSome = true ∧ (tyN y).isSome = true := by
    rcases alt with ⟨ns, es, ⟨x, y, e, h, h2, _⟩, _⟩ | ⟨C', ⟨x, y, e, h, h2, _⟩, _⟩
    · exact ⟨x, y, e, h, h2⟩
    · exact ⟨x, y, e, h, h2⟩
  refine dib_ifraise (t := !okB x y) ?_ (fun ht => ?_) (fun ht => ?_)
  · -- the condition
    cases hb : inB x 0 200 with
    | false =>
      have e : okB x y = false := by unfold okB; cases y <;> first | rfl | (rw [hb]; rfl)
      rw [e]
      refine dt_w (dt_w_is (dw_or (y := true) (dt_not (dt_val (de_call0 hw hr (by decide) (da_cons (nm 1) (da_cons de_int (da_cons (de_glob (t_MOST_THINGS T)) da_nil))) ⟨_, _, _, rfl, hx, rfl⟩))) (fun h => by rw [hb] at h; cases h)) (by rw [hb]; rfl))
    | true =>
      obtain ⟨m, rfl⟩ : ∃ m, x = .int m := by cases x <;> first | exact ⟨_, rfl⟩ | cases hb
      have e : okB (.int m) y = inB y 0 m := by
        cases y <;> first | rfl | skip
        show (inB (.int m) 0 200 && _) = _
        rw [hb, Bool.true_and]
      rw [e]
      refine dt_w (dt_w_is (dw_or (dt_not (dt_val (de_call0 hw hr (by decide) (da_cons (nm 1) (da_cons de_int (da_cons (de_glob (t_MOST_THINGS T)) da_nil))) ⟨_, _, _, rfl, hx, rfl⟩)))
        (fun _ => dw_or1 (dt_not (dt_val (de_call0 hw hr (by decide) (da_cons (nm 2) (da_cons de_int (da_cons (nm 1) da_nil))) ⟨_, _, _, rfl, hy, rfl⟩))))) (by rw [hb]; rfl))
  · have ht : okB x y = false := by simpa using ht
    rcases alt with ⟨ns, es, ⟨x', y', e, _, _, hy, _⟩, _⟩ | ⟨C', ⟨x', y', e, _, _, _, rfl⟩, hC⟩
    · cases e
      rw [ht] at hy
      cases hy
    · exact db_one (ds_raise (x_NoBounds T) hC)
  · have ht : okB x y = true := by simpa using ht
    rcases alt with ⟨ns, es, ⟨x', y', e, _, _, hy, e2⟩, hR⟩ | ⟨C', ⟨x', y', e, _, _, hy, _⟩, hC⟩
    · cases e
      cases e2
      exact dib_fld (nmx 0) (nm 1) (cl_Picks T) (na_Picks_things T) (by decide +kernel) (by decide) (dib_fld (nmx 0) (nm 2) (cl_Picks T) (na_Picks_size T) (by decide +kernel) (by decide) (dib_nil hR))
    · cases e
      rw [ht] at hy
      cases hy
def G_Picks_many (K : PySem.W.Frag) (ds : List Da) (d : Da) : Prop := ∃ n k : Nat, ds = [Po K n k] ∧ n ≤ 200 ∧ d = .int (bin n k)
theorem ok_Picks_many (T : Wd K mg) : Me0 P w K mg base 2 (cPicks K) "many" (G_Picks_many K) := by
  have hw : Fn0 P w K mg base 1 "ways" G_ways := ok_ways T
  refine mk_me0 (k := 1) (f_Picks_many T) (me_Picks_many T) (cl_Picks T) sc_Picks_many (fun ds d ⟨n, k, e, _⟩ => by rw [e]; rfl) fun fd cdv A outer s H E Fr ds R hr ⟨d, ⟨n, k, e, h, e2⟩, hR⟩ => ?_
  subst e e2
  exact db_one (ds_ret (de_call0 hw hr (by decide) (da_cons (de_fld (nm 0) (fld_Picks_things T) rfl) (da_cons (de_fld (nm 0) (fld_Picks_size T) rfl) da_nil)) ⟨n, k, rfl, by omega, rfl⟩) hR)
/-- is it a pick -/
def pkB (n k : Nat) (x : Da) : Bool := risD x n && decide ((intsOf x).length = k)
def G_Picks_need (K : PySem.W.Frag) (ds : List Da) (d : Da) : Prop := ∃ (n k : Nat) (x : Da), ds = [Po K n k, x] ∧ Pln x ∧ pkB n k x = true ∧ d = .non
def X_Picks_need (K : PySem.W.Frag) (ds : List Da) (C : Addr) : Prop := ∃ (n k : Nat) (x : Da), ds = [Po K n k, x] ∧ Pln x ∧ pkB n k x = false ∧ C = eNoPick K
theorem ok_Picks_need (T : Wd K mg) : MeX P w K mg base 4 (cPicks K) "need" (G_Picks_need K) (X_Picks_need K) := by
  have hs : Fn0 P w K mg base 3 "is_rising" G_is_rising := ok_is_rising T
  refine mk_meX (k := 3) (f_Picks_need T) (me_Picks_need T) (cl_Picks T) sc_Picks_need (fun ds d ⟨n, k, x, e, _⟩ => by rw [e]; rfl) (fun ds d ⟨n, k, x, e, _⟩ => by rw [e]; rfl) fun fd cdv A outer s H E Fr EX hex ds R hr alt => ?_
  obtain ⟨n, k, x, rfl, hx⟩ : ∃ (n k : Nat) (x : Da), ds = [Po K n k, x] ∧ Pln x := by
    rcases alt with ⟨d, ⟨n, k, x, e, h, _⟩, _⟩ | ⟨C', ⟨n, k, x, e, h, _⟩, _⟩
    · exact ⟨n, k, x, e, h⟩
    · exact ⟨n, k, x, e, h⟩
  have nd := sc_Picks_need.nd
  refine db_one (ds_if (t := !pkB n k x) ?_ (fun ht => ?_) (fun ht => ?_))
  · cases hb : risD x n with
    | false =>
      refine dt_w (dt_w_is (dw_or (y := true) (dt_not (dt_val (de_call0 hs hr (by decide) (da_cons (nm 1) (da_cons (de_fld (nm 0) (fld_Picks_things T) rfl) da_nil)) ⟨_, _, rfl, hx.1, hx.2, rfl⟩))) (fun h => by rw [hb] at h; cases h)) ?_)
      unfold pkB
      rw [hb]
      rfl
    | true =>
      refine dt_w (dt_w_is (dw_or (dt_not (dt_val (de_call0 hs hr (by decide) (da_cons (nm 1) (da_cons (de_fld (nm 0) (fld_Picks_things T) rfl) da_nil)) ⟨_, _, rfl, hx.1, hx.2, rfl⟩)))
        (fun _ => dw_or1 (dt_cmp (de_callB (t_len T) boot_len' (da_cons (nm 1) da_nil) (cd_len_ris hb)) (de_fld (nm 0) (fld_Picks_size T) rfl) od_neI))) ?_)
      unfold pkB
      rw [hb, show decide (((intsOf x).length : Int) = (k : Int)) = decide ((intsOf x).length = k) from decide_eq_decide.mpr (by omega)]
      rfl
  · have ht : pkB n k x = false := by simpa using ht
    rcases alt with ⟨d, ⟨n', k', y, e, _, hy, _⟩, _⟩ | ⟨C', ⟨n', k', y, e, _, _, rfl⟩, hC⟩
    · cases e
      rw [ht] at hy
      cases hy
    · exact db_one (ds_raise (x_NoPick T) hC)
  · have ht : pkB n k x = true := by simpa using ht
    refine db_nil ?_
    rcases alt with ⟨d, ⟨n', k', y, e, _, hy, rfl⟩, hR⟩ | ⟨C', ⟨n', k', y, e, _, hy, rfl⟩, hC⟩
    · exact hR
    · cases e
      rw [ht] at hy
      cases hy
def G_Picks_number (K : PySem.W.Frag) (ds : List Da) (d : Da) : Prop := ∃ (n k : Nat) (x : Da), ds = [Po K n k, x] ∧ n ≤ 200 ∧ Pln x ∧ pkB n k x = true ∧ d = .int (rkI (intsOf x))
def X_Picks_number (K : PySem.W.Frag) (ds : List Da) (C : Addr) : Prop := ∃ (n k : Nat) (x : Da), ds = [Po K n k, x] ∧ n ≤ 200 ∧ Pln x ∧ pkB n k x = false ∧ C = eNoPick K
theorem ok_Picks_number (T : Wd K mg) : MeX P w K mg base 5 (cPicks K) "number" (G_Picks_number K) (X_Picks_number K) := by
  have hw : Fn0 P w K mg base 1 "ways" G_ways := ok_ways T
  have hn : MeX P w K mg base 4 (cPicks K) "need" (G_Picks_need K) (X_Picks_need K) := ok_Picks_need T
  refine mk_meX (k := 4) (f_Picks_number T) (me_Picks_number T) (cl_Picks T) sc_Picks_number (fun ds d ⟨n, k, x, e, _⟩ => by rw [e]; rfl) (fun ds d ⟨n, k, x, e, _⟩ => by rw [e]; rfl) fun fd cdv A outer s H E Fr EX hex ds R hr alt => ?_
  have nd := sc_Picks_number.nd
  rcases alt with ⟨d, ⟨n, k, x, rfl, hn2, hx, hb, rfl⟩, hR⟩ | ⟨C', ⟨n, k, x, rfl, hn2, hx, hb, rfl⟩, hC⟩
  · refine db_cons (ds_expr (de_methX hn hr (by decide) (nm 0) no_Picks_need (da_cons (nm 1) da_nil) ⟨n, k, x, rfl, hx, hb, rfl⟩) ?_)
    obtain ⟨hris, hlen⟩ := Bool.and_eq_true_iff.mp hb
    have hlen := of_decide_eq_true hlen
    obtain ⟨hd, hu⟩ := desc_ris hris
    have hk : k ≤ 200 := by
      have := desc_len hd
      rw [dnN_length] at this
      omega
    refine db_cons (ds_set (lm 2 nd) de_int ?_)
    refine db_cons (ds_for (ws := [3]) (fun i S' => ∃ t, S' = [.da (Po K n k), .da x, .da (.int (rkI ((intsOf x).take i))), t]) (di_range1 (t_range T) (de_fld (nm 0) (fld_Picks_size T) rfl) (by omega) (by omega)) ⟨.un, rfl⟩ ?_ ?_)
    · rintro i d S' hd ⟨t, rfl⟩
      obtain ⟨hi, rfl⟩ := rgD_get hd
      rw [Int.zero_add]
      have hi : i < (intsOf x).length := by omega
      obtain ⟨l, hl, hl2⟩ : ∃ l : Nat, (intsOf x).getD i 0 = l ∧ l < n := by
        have hm : (intsOf x).getD i 0 ∈ intsOf x := by
          rw [List.getD_eq_getElem?_getD, List.getElem?_eq_getElem hi]
          exact List.getElem_mem hi
        have := (ris_pair (ris_ints hris)).2 _ hm
        exact ⟨((intsOf x).getD i 0).toNat, by omega, by omega⟩
      refine dg_nm (lm 3 nd) (by simp) ?_
      have hix : ∀ {j : J}, IxD j x (.int (i : Int)) (.int (l : Int)) := by
        intro j
        have := ix_ris (j := j) hris (i := (i : Int)) (by omega) (by omega)
        rw [Int.toNat_natCast, hl] at this
        exact this
      refine db_one (ds_set (lm 2 nd) (de_bin (de_bin (de_call0 hw hr (by decide) (da_cons (de_bin (de_ix (nm 1) (nm 3) hix) de_int od_add) (da_cons (de_bin (nm 3) de_int od_add) da_nil)) ⟨l + 1, i + 1, rfl, by omega, rfl⟩) de_int od_sub) (nm 2) od_sub) ?_)
      refine ⟨.da (.int (i : Nat)), ?_⟩
      have hlt : rkI ((intsOf x).take i) < bin l i := by
        have e := desc_take hris hi
        rw [hl, Int.toNat_natCast] at e
        have := rkD_lt _ _ e.2
        rw [dnN_length, List.length_take, Nat.min_eq_left (by omega)] at this
        exact this
      have h3 := bin_succ l i
      have e : (bin (l + 1) (i + 1) : Int) - 1 - (rkI ((intsOf x).take i) : Nat) = (rkI ((intsOf x).take (i + 1)) : Nat) := by
        have e4 : rkI ((intsOf x).take (i + 1)) = bin (l + 1) (i + 1) - 1 - rkI ((intsOf x).take i) := by
          unfold rkI
          rw [dnN_take hi, hl, Int.toNat_natCast]
          show bin (l + 1) ((dnN ((intsOf x).take i)).length + 1) - 1 - _ = _
          rw [dnN_length, List.length_take, Nat.min_eq_left (by omega)]
        rw [e4]
        omega
      show [Sl.da (Po K n k), .da x, .da (.int ((bin (l + 1) (i + 1) : Int) - 1 - (rkI ((intsOf x).take i) : Nat))), .da (.int (i : Nat))] = _
      rw [e]
    · rintro S' ⟨t, rfl⟩
      rw [rgD_length, Int.toNat_natCast, List.take_of_length_le (by omega)]
      exact db_one (ds_ret (nm 2) hR)
  · exact db_cons (ds_exprN (dn_methX hn hr (by decide) (nm 0) no_Picks_need (da_cons (nm 1) da_nil) ⟨n, k, x, rfl, hx, hb, rfl⟩ hC))
def G_Picks_at (K : PySem.W.Frag) (ds : List Da) (d : Da) : Prop := ∃ n k m : Nat, ds = [Po K n k, .int m] ∧ n ≤ 200 ∧ k ≤ n ∧ m < bin n k ∧ d = .tup ((upI (pkD k n m)).map Da.int)
def X_Picks_at (K : PySem.W.Frag) (ds : List Da) (C : Addr) : Prop := ∃ (n k : Nat) (x : Da), ds = [Po K n k, x] ∧ n ≤ 200 ∧ k ≤ n ∧ (tyN x).isSome = true ∧ inB x 0 (bin n k - 1) = false ∧ C = eNoNumber K
theorem pkD_step (k l m : Nat) : pkD (k + 1) l m = fnd (k + 1) m l :: pkD k (fnd (k + 1) m l) (bin (fnd (k + 1) m l + 1) (k + 1) - 1 - m) := rfl
theorem ok_Picks_at (T : Wd K mg) : MeX P w K mg base 3 (cPicks K) "at" (G_Picks_at K) (X_Picks_at K) := by
  have hw : Fn0 P w K mg base 2 "is_within" G_is_within := ok_is_within T
  have hm : Me0 P w K mg base 2 (cPicks K) "many" (G_Picks_many K) := ok_Picks_many T
  have hwy : Fn0 P w K mg base 1 "ways" G_ways := ok_ways T
  refine mk_meX (k := 2) (f_Picks_at T) (me_Picks_at T) (cl_Picks T) sc_Picks_at (fun ds d ⟨n, k, x, e, _⟩ => by rw [e]; rfl) (fun ds d ⟨n, k, x, e, _⟩ => by rw [e]; rfl) fun fd cdv A outer s H E Fr EX hex ds R hr alt => ?_
  obtain ⟨n, k, x, rfl, hn, hk, hx⟩ : ∃ (n k : Nat) (x : Da), ds = [Po K n k, x] ∧ n ≤ 200 ∧ k ≤ n ∧ (tyN x).isSome = true := by
    rcases alt with ⟨d, ⟨n, k, m, e, h, h2, _⟩, _⟩ | ⟨C', ⟨n, k, x, e, h, h2, h3, _⟩, _⟩
    · exact ⟨n, k, _, e, h, h2, rfl⟩
    · exact ⟨n, k, x, e, h, h2, h3⟩
  have nd := sc_Picks_at.nd
  refine db_cons (ds_if (t := !inB x 0 (bin n k - 1)) (dt_not (dt_val (de_call0 hw hr (by decide) (da_cons (nm 1) (da_cons de_int (da_cons (de_bin (de_meth00 hm hr (by decide) (nm 0) no_Picks_many ⟨n, k, rfl, hn, rfl⟩) de_int od_sub) da_nil))) ⟨_, _, _, rfl, hx, rfl⟩))) (fun ht => ?_) (fun ht => ?_))
  · have ht : inB x 0 (bin n k - 1) = false := by simpa using ht
    rcases alt with ⟨d, ⟨n', k', m, e, _, _, h1, _⟩, _⟩ | ⟨C', ⟨n', k', y, e, _, _, _, _, rfl⟩, hC⟩
    · cases e
      have := inB_int.mpr (show (0 : Int) ≤ m ∧ (m : Int) ≤ bin n k - 1 from ⟨by omega, by omega⟩)
      rw [ht] at this
      cases this
    · exact db_one (ds_raise (x_NoNumber T) hC)
  · have ht : inB x 0 (bin n k - 1) = true := by simpa using ht
    obtain ⟨i, rfl⟩ : ∃ i, x = .int i := by cases x <;> first | exact ⟨_, rfl⟩ | cases ht
    obtain ⟨h0, h1⟩ := inB_int.mp ht
    obtain ⟨m, rfl⟩ : ∃ m : Nat, i = m := ⟨i.toNat, by omega⟩
    have hR : R (.tup ((upI (pkD k n m)).map Da.int)) := by
      rcases alt with ⟨d, ⟨n', k', m', e, _, _, _, e2⟩, hR⟩ | ⟨C', ⟨n', k', y, e, _, _, _, hy, _⟩, hC⟩
      · cases e
        cases e2
        exact hR
      · cases e
        rw [ht] at hy
        cases hy
    refine db_nil (db_cons (ds_setO (lm 2 nd) (do_lst da_nil) (db_cons (ds_set (lm 3 nd) (de_fld (nm 0) (fld_Picks_things T) rfl) ?_))))
    refine db_cons (ds_for (ws := [4]) (fun i S' => ∃ (L : List Nat) (l mi : Nat) (t : Sl), S' = [.da (Po K n k), .da (.int mi), .ow (L.map fun t : Nat => Da.int (t : Int)), .da (.int l), t] ∧ pkD k n m = L ++ pkD (k - i) l mi ∧ mi < bin l (k - i) ∧ l ≤ n ∧ L.length = i)
      (di_range3 (t_range T) (de_fld (nm 0) (fld_Picks_size T) rfl) de_int (de_un de_int ud_neg) (by omega)) ⟨[], n, m, .un, rfl, rfl, by show m < bin n k; omega, Nat.le_refl n, rfl⟩ ?_ ?_)
    · rintro i d S' hd ⟨L, l, mi, t, rfl, e1, e2, e3, e4⟩
      obtain ⟨hi, rfl⟩ := rgC_get hd
      obtain ⟨f, hf⟩ : ∃ f : Nat, k - i = f + 1 := ⟨k - i - 1, by omega⟩
      have hfe : (k : Int) + (i : Nat) * (-1) = ((f + 1 : Nat) : Int) := by omega
      rw [hf] at e1 e2
      rw [hfe]
      refine dg_nm (lm 4 nd) (by simp) ?_
      refine db_cons (ds_while (fun mm S' => ∃ l' : Nat, mm = l' ∧ S' = [.da (Po K n k), .da (.int mi), .ow (L.map fun t : Nat => Da.int (t : Int)), .da (.int l'), .da (.int ((f + 1 : Nat) : Int))] ∧ l' ≤ l ∧ fnd (f + 1) mi l' = fnd (f + 1) mi l) (m0 := l) ⟨l, rfl, rfl, Nat.le_refl l, rfl⟩ ?_)
      rintro mm S' ⟨l', rfl, rfl, hl, hfn⟩
      refine ⟨decide ((mi : Int) < bin mm (f + 1)), dt_cmp (de_call0 hwy hr (by decide) (da_cons (nm 3) (da_cons (nm 4) da_nil)) ⟨mm, f + 1, rfl, by omega, rfl⟩) (nm 1) od_gt, fun hb => ?_, fun hb => ?_⟩
      · have hb := of_decide_eq_true hb
        obtain ⟨l2, rfl⟩ : ∃ l2, mm = l2 + 1 := by
          cases mm with
          | zero => rw [bin_gt (Nat.succ_pos f)] at hb; omega
          | succ l2 => exact ⟨l2, rfl⟩
        refine db_one (ds_aug (lm 3 nd) rfl de_int od_isub ⟨l2, by omega, l2, rfl, ?_, by omega, by rw [← hfn, fnd_more (by omega)]⟩)
        have e : ((l2 + 1 : Nat) : Int) - 1 = l2 := by omega
        rw [e]
        rfl
      · have hb := of_decide_eq_false hb
        have hfd : fnd (f + 1) mi l = mm := by rw [← hfn]; exact fnd_done (by omega)
        obtain ⟨_, hn2⟩ := fnd_next l e2 (Nat.succ_pos f)
        rw [pkD_step, hfd] at e1
        rw [hfd] at hn2
        have hrest := rest_lt e2
        rw [hfd] at hrest
        refine db_cons (ds_append (nmx 2) rfl (nm 3) (by rw [List.length_map]; omega) ?_)
        refine db_one (ds_set (lm 1 nd) (de_bin (de_bin (de_call0 hwy hr (by decide) (da_cons (de_bin (nm 3) de_int od_add) (da_cons (nm 4) da_nil)) ⟨mm + 1, f + 1, rfl, by omega, rfl⟩) de_int od_sub) (nm 1) od_sub) ?_)
        refine ⟨L ++ [mm], mm, bin (mm + 1) (f + 1) - 1 - mi, .da (.int ((f + 1 : Nat) : Int)), ?_, ?_, ?_, by omega, by simp [e4]⟩
        · have e : (bin (mm + 1) (f + 1) : Int) - 1 - mi = ((bin (mm + 1) (f + 1) - 1 - mi : Nat) : Int) := by omega
          rw [List.map_append]
          show [Sl.da (Po K n k), .da (.int ((bin (mm + 1) (f + 1) : Int) - 1 - mi)), .ow ((L.map fun t : Nat => Da.int (t : Int)) ++ [.int mm]), .da (.int mm), .da (.int ((f + 1 : Nat) : Int))] = _
          rw [e]
          rfl
        · rw [e1, show k - (i + 1) = f by omega, List.append_assoc]
          rfl
        · rw [show k - (i + 1) = f by omega]
          exact hrest
    · rintro S' ⟨L, l, mi, t, rfl, e1, e2, e3, e4⟩
      rw [rgC_length, show k - ((k : Int) - 0).toNat = 0 by omega] at e1
      have e1 : pkD k n m = L := by
        rw [e1]
        show L ++ [] = L
        exact List.append_nil L
      refine db_freeze (i := 2) rfl ?_
      refine db_one (ds_ret (de_callTy (t_tuple T) boot_ttuple (da_cons (de_revL (nm 2)) da_nil) cd_tuple_lst) ?_)
      have e : (L.map fun t : Nat => Da.int (t : Int)).reverse = (upI (pkD k n m)).map Da.int := by
        rw [e1]
        unfold upI
        rw [List.map_map, ← List.map_reverse]
        rfl
      rw [e]
      exact hR
end
theorem pkB_up {D : List Nat} {n : Nat} (h : Desc n D) : pkB n D.length (.tup ((upI D).map Da.int)) = true := by
  unfold pkB
  rw [ris_upT h, intsOf_tup, upI_length]
  simp
theorem pkB_upL {D : List Nat} {n : Nat} (h : Desc n D) : pkB n D.length (.lst ((upI D).map Da.int)) = true := by
  unfold pkB
  rw [ris_upL h, intsOf_lst, upI_length]
  simp
theorem pkB_pk {n k m : Nat} (h : m < bin n k) : pkB n k (.tup ((upI (pkD k n m)).map Da.int)) = true := by
  have := pkB_up (pkD_desc k n m h)
  rw [pkD_length] at this
  exact this
theorem pkB_pkL {n k m : Nat} (h : m < bin n k) : pkB n k (.lst ((upI (pkD k n m)).map Da.int)) = true := by
  have := pkB_upL (pkD_desc k n m h)
  rw [pkD_length] at this
  exact this
theorem rk_pk {n k m : Nat} (h : m < bin n k) : rkI (upI (pkD k n m)) = m := by rw [rkI_up, rkD_pkD k n m h]
end DL
namespace DL
open PySem PySem.Spec PyProof.Rows L2
/-! ### the program: sets.py -/
def So (K : PySem.W.Frag) (n : Nat) : Da := .ob (cSets K) nSets [.int (n : Int)]
section
variable {P : Program} {w : World} {K : PySem.W.Frag} {mg : Str → Option Value} {base : Heap}
def G_Sets (K : PySem.W.Frag) (ds : List Da) (d : Da) : Prop := ∃ x, ds = [x] ∧ (tyN x).isSome = true ∧ inB x 0 200 = true ∧ d = .ob (cSets K) nSets [x]
def X_Sets (K : PySem.W.Frag) (ds : List Da) (C : Addr) : Prop := ∃ x, ds = [x] ∧ (tyN x).isSome = true ∧ inB x 0 200 = false ∧ C = eNoBounds K
theorem ok_Sets (T : Wd K mg) : MkX P w K mg base 3 "Sets" (cSets K) (G_Sets K) (X_Sets K) := by
  have hw : Fn0 P w K mg base 2 "is_within" G_is_within := ok_is_within T
  refine mk_init (k := 2) (f_Sets_init T) (g_Sets T) (mk_Sets T) sc_Sets_init (fun ds d ⟨x, e, _⟩ => by rw [e]; rfl) (fun ds d ⟨x, e, _⟩ => by rw [e]; rfl) (fun ds d ⟨x, _, _, _, e⟩ => ⟨_, _, e⟩)
    fun fd cdv A outer s H E Fr H0 p dx EX hex ds R hr alt => ?_
  obtain ⟨x, rfl, hx⟩ : ∃ x, ds = [x] ∧ (tyN x).isSome = true := by
    rcases alt with ⟨ns, es, ⟨x, e, h, _⟩, _⟩ | ⟨C', ⟨x, e, h, _⟩, _⟩
    · exact ⟨x, e, h⟩
    · exact ⟨x, e, h⟩
  refine dib_ifraise (t := !inB x 0 200) (dt_not (dt_val (de_call0 hw hr (by decide) (da_cons (nm 1) (da_cons de_int (da_cons (de_glob (t_MOST_THINGS T)) da_nil))) ⟨_, _, _, rfl, hx, rfl⟩))) (fun ht => ?_) (fun ht => ?_)
  · have ht : inB x 0 200 = false := by simpa using ht
    rcases alt with ⟨ns, es, ⟨y, e, _, hy, _⟩, _⟩ | ⟨C', ⟨y, e, _, _, rfl⟩, hC⟩
    · cases e
      rw [ht] at hy
      cases hy
    · exact db_one (ds_raise (x_NoBounds T) hC)
  · have ht : inB x 0 200 = true := by simpa using ht
    rcases alt with ⟨ns, es, ⟨y, e, _, hy, e2⟩, hR⟩ | ⟨C', ⟨y, e, _, hy, _⟩, hC⟩
    · cases e
      cases e2
      exact dib_fld (nmx 0) (nm 1) (cl_Sets T) (na_Sets_things T) (by decide +kernel) (by decide) (dib_nil hR)
    · cases e
      rw [ht] at hy
      cases hy
def G_Sets_many (K : PySem.W.Frag) (ds : List Da) (d : Da) : Prop := ∃ n : Nat, ds = [So K n] ∧ n ≤ 200 ∧ d = .int (2 ^ n)
theorem ok_Sets_many (T : Wd K mg) : Me0 P w K mg base 1 (cSets K) "many" (G_Sets_many K) := by
  refine mk_me0 (k := 0) (f_Sets_many T) (me_Sets_many T) (cl_Sets T) sc_Sets_many (fun ds d ⟨n, e, _⟩ => by rw [e]; rfl) fun fd cdv A outer s H E Fr ds R hr ⟨d, ⟨n, e, h, e2⟩, hR⟩ => ?_
  subst e e2
  refine db_one (ds_ret (de_bin de_int (de_fld (nm 0) (fld_Sets_things T) rfl) (od_shl ⟨by omega, by omega, by decide⟩)) ?_)
  have e : (1 : Int) * 2 ^ ((n : Int)).toNat = 2 ^ n := by rw [Int.one_mul, Int.toNat_natCast]
  show R (.int ((1 : Int) * 2 ^ ((n : Int)).toNat))
  rw [e]
  exact hR
def G_Sets_number (K : PySem.W.Frag) (ds : List Da) (d : Da) : Prop := ∃ (n : Nat) (x : Da), ds = [So K n, x] ∧ n ≤ 200 ∧ Pln x ∧ risD x n = true ∧ d = .int (numP (intsOf x) n n)
def X_Sets_number (K : PySem.W.Frag) (ds : List Da) (C : Addr) : Prop := ∃ (n : Nat) (x : Da), ds = [So K n, x] ∧ n ≤ 200 ∧ Pln x ∧ risD x n = false ∧ C = eNoPick K
theorem ok_Sets_number (T : Wd K mg) : MeX P w K mg base 4 (cSets K) "number" (G_Sets_number K) (X_Sets_number K) := by
  have hs : Fn0 P w K mg base 3 "is_rising" G_is_rising := ok_is_rising T
  refine mk_meX (k := 3) (f_Sets_number T) (me_Sets_number T) (cl_Sets T) sc_Sets_number (fun ds d ⟨n, x, e, _⟩ => by rw [e]; rfl) (fun ds d ⟨n, x, e, _⟩ => by rw [e]; rfl) fun fd cdv A outer s H E Fr EX hex ds R hr alt => ?_
  obtain ⟨n, x, rfl, hn, hx⟩ : ∃ (n : Nat) (x : Da), ds = [So K n, x] ∧ n ≤ 200 ∧ Pln x := by
    rcases alt with ⟨d, ⟨n, x, e, h, h2, _⟩, _⟩ | ⟨C', ⟨n, x, e, h, h2, _⟩, _⟩
    · exact ⟨n, x, e, h, h2⟩
    · exact ⟨n, x, e, h, h2⟩
  have nd := sc_Sets_number.nd
  refine db_cons (ds_if (t := !risD x n) (dt_not (dt_val (de_call0 hs hr (by decide) (da_cons (nm 1) (da_cons (de_fld (nm 0) (fld_Sets_things T) rfl) da_nil)) ⟨_, _, rfl, hx.1, hx.2, rfl⟩))) (fun ht => ?_) (fun ht => ?_))
  · have ht : risD x n = false := by simpa using ht
    rcases alt with ⟨d, ⟨n', y, e, _, _, hy, _⟩, _⟩ | ⟨C', ⟨n', y, e, _, _, _, rfl⟩, hC⟩
    · cases e
      rw [ht] at hy
      cases hy
    · exact db_one (ds_raise (x_NoPick T) hC)
  · have ht : risD x n = true := by simpa using ht
    refine db_nil ?_
    have hR : R (.int (numP (intsOf x) n n)) := by
      rcases alt with ⟨d, ⟨n', y, e, _, _, hy, e2⟩, hR⟩ | ⟨C', ⟨n', y, e, _, _, hy, _⟩, hC⟩
      · cases e
        cases e2
        exact hR
      · cases e
        rw [ht] at hy
        cases hy
    refine db_cons (ds_set (lm 2 nd) de_int ?_)
    refine db_cons (ds_for (ws := [3]) (fun i S' => ∃ t u, S' = [.da (So K n), .da x, .da (.int (numP (intsOf x) n i)), t, u]) (di_revr (t_range T) (t_reversed T) (de_fld (nm 0) (fld_Sets_things T) rfl) (by omega)) ⟨.un, .un, rfl⟩ ?_ ?_)
    · rintro i d S' hd ⟨t, u, rfl⟩
      obtain ⟨hi, rfl⟩ := rgC_get hd
      refine dg_nm (lm 3 nd) (by simp) ?_
      refine db_cons (ds_set (lm 4 nd) (de_callTy (t_int T) boot_tint (da_cons (de_cmp (nm 3) (nm 1) (od_in ht)) da_nil) cd_int_bl) ?_)
      refine db_one (ds_set (lm 2 nd) (de_bin (de_bin de_int (nm 2) (od_mul (.inl (by decide)))) (de_bin (de_bin (nm 4) (nm 2) od_add) de_int (od_mod (by decide))) od_add) ?_)
      exact ⟨_, _, rfl⟩
    · rintro S' ⟨t, u, rfl⟩
      rw [rgC_length]
      exact db_one (ds_ret (nm 2) hR)
def G_Sets_at (K : PySem.W.Frag) (ds : List Da) (d : Da) : Prop := ∃ (n : Nat) (m : Int), ds = [So K n, .int m] ∧ n ≤ 200 ∧ 0 ≤ m ∧ m < 2 ^ n ∧ d = .tup ((setL n m).map Da.int)
def X_Sets_at (K : PySem.W.Frag) (ds : List Da) (C : Addr) : Prop := ∃ (n : Nat) (x : Da), ds = [So K n, x] ∧ n ≤ 200 ∧ (tyN x).isSome = true ∧ inB x 0 (2 ^ n - 1) = false ∧ C = eNoNumber K
theorem setL_eq (n : Nat) (m : Int) : (((List.range n).filter fun t : Nat => decide (m / 2 ^ ((0 : Int) + (t : Nat)).toNat % 4 ∈ ([1, 2] : List Int))).map fun t : Nat => Da.int (0 + (t : Nat))) = (setL n m).map Da.int := by
  unfold setL
  rw [List.map_map]
  have e : ∀ t : Nat, ((0 : Int) + (t : Nat)).toNat = t := fun t => by omega
  simp only [e]
  apply List.map_congr_left
  intro t _
  show Da.int (0 + (t : Int)) = Da.int t
  rw [Int.zero_add]
theorem ok_Sets_at (T : Wd K mg) : MeX P w K mg base 3 (cSets K) "at" (G_Sets_at K) (X_Sets_at K) := by
  have hw : Fn0 P w K mg base 2 "is_within" G_is_within := ok_is_within T
  have hm : Me0 P w K mg base 1 (cSets K) "many" (G_Sets_many K) := ok_Sets_many T
  refine mk_meX (k := 2) (f_Sets_at T) (me_Sets_at T) (cl_Sets T) sc_Sets_at (fun ds d ⟨n, x, e, _⟩ => by rw [e]; rfl) (fun ds d ⟨n, x, e, _⟩ => by rw [e]; rfl) fun fd cdv A outer s H E Fr EX hex ds R hr alt => ?_
  obtain ⟨n, x, rfl, hn, hx⟩ : ∃ (n : Nat) (x : Da), ds = [So K n, x] ∧ n ≤ 200 ∧ (tyN x).isSome = true := by
    rcases alt with ⟨d, ⟨n, m, e, h, _⟩, _⟩ | ⟨C', ⟨n, x, e, h, h2, _⟩, _⟩
    · exact ⟨n, _, e, h, rfl⟩
    · exact ⟨n, x, e, h, h2⟩
  have nd := sc_Sets_at.nd
  refine db_cons (ds_if (t := !inB x 0 (2 ^ n - 1)) (dt_not (dt_val (de_call0 hw hr (by decide) (da_cons (nm 1) (da_cons de_int (da_cons (de_bin (de_meth00 hm hr (by decide) (nm 0) no_Sets_many ⟨n, rfl, hn, rfl⟩) de_int od_sub) da_nil))) ⟨_, _, _, rfl, hx, rfl⟩))) (fun ht => ?_) (fun ht => ?_))
  · have ht : inB x 0 (2 ^ n - 1) = false := by simpa using ht
    rcases alt with ⟨d, ⟨n', m, e, _, h0, h1, _⟩, _⟩ | ⟨C', ⟨n', y, e, _, _, _, rfl⟩, hC⟩
    · cases e
      have := inB_int.mpr (show 0 ≤ m ∧ m ≤ 2 ^ n - 1 from ⟨h0, by omega⟩)
      rw [ht] at this
      cases this
    · exact db_one (ds_raise (x_NoNumber T) hC)
  · have ht : inB x 0 (2 ^ n - 1) = true := by simpa using ht
    obtain ⟨m, rfl⟩ : ∃ m, x = .int m := by cases x <;> first | exact ⟨_, rfl⟩ | cases ht
    have hR : R (.tup ((setL n m).map Da.int)) := by
      rcases alt with ⟨d, ⟨n', m', e, _, h0, h1, e2⟩, hR⟩ | ⟨C', ⟨n', y, e, _, _, hy, _⟩, hC⟩
      · cases e
        cases e2
        exact hR
      · cases e
        rw [ht] at hy
        cases hy
    refine db_nil (db_one (ds_ret (de_callTy (t_tuple T) boot_ttuple (da_cons (de_lc (i := 2) (List.range n) (fun t : Nat => Da.int (0 + (t : Nat))) (fun t : Nat => decide (m / 2 ^ ((0 : Int) + (t : Nat)).toNat % 4 ∈ ([1, 2] : List Int))) (fun t : Nat => Da.int (0 + (t : Nat)))
      (di_range1 (t_range T) (de_fld (nm 0) (fld_Sets_things T) rfl) (by omega) (by omega)) (by rw [List.length_range]; omega) (blkOk_by (N := N_Sets_at) (sc := defScope s_Sets_at) (by decide +kernel)) (fun _ _ _ _ _ => lm 2 nd) (fun F1 s Hb C cl fp a ha => dts_one (dt_cmp (de_bin (de_bin (nm 1) (nm 2) (od_shr (by omega))) de_int (od_mod (by decide))) (de_tup (da_cons de_int (da_cons de_int da_nil)) (by decide)) (od_inT (ns := [1, 2]))))
      (fun F1 s Hb C cl fp a ha _ => nm 2) nd) da_nil) cd_tuple_lst) ?_))
    rw [setL_eq]
    exact hR
end
theorem ris_set (n : Nat) (m : Int) : risD (.tup ((setL n m).map Da.int)) n = true := by
  show (true && risL n ((setL n m).map Da.int) (-1)) = true
  rw [ris_of _ _ _ (setL_sorted n m) fun t ht => by have := setL_range ht; omega]
  rfl
end DL
namespace DL
open PySem PySem.Spec PyProof.Rows L2 TL
/-! ### k13: the law -/
section
variable (P : Program) (w : World) (K : PySem.W.Frag) (mg : Str → Option Value) (base : Heap)
structure Tl (C : Addr) (nn : List Str) (fs : List Da) (N : Nat) (ff : Nat → List Int) : Prop where
  many : ∃ G k, k ≤ 6 ∧ Me0 P w K mg base k C "many" G ∧ G [.ob C nn fs] (.int N)
  n1 : ("many" : Str) ∉ nn
  at_ : ∃ G X k, k ≤ 6 ∧ MeX P w K mg base k C "at" G X ∧ ∀ m : Nat, m < N → G [.ob C nn fs, .int (m : Int)] (.tup ((ff m).map Da.int))
  n2 : ("at" : Str) ∉ nn
  pos : 1 ≤ N
  ris : ∀ m : Nat, m < N → risN 200 (ff m) (-1) = true
end
theorem ris_of_D {ns : List Int} {m : Int} (h : risD (.tup (ns.map Da.int)) m = true) (hm : m ≤ 200) : risN 200 ns (-1) = true := by
  have h1 := ris_ints h
  rw [intsOf_tup] at h1
  obtain ⟨a, b⟩ := ris_pair h1
  rw [← risL_N]
  exact ris_of _ _ _ a fun t ht => ⟨(b t ht).1, by have := (b t ht).2; omega⟩
section
variable {P : Program} {w : World} {K : PySem.W.Frag} {mg : Str → Option Value} {base : Heap}
theorem tl_picks (T : Wd K mg) {n k : Nat} (hn : n ≤ 200) (hk : k ≤ n) : Tl P w K mg base (cPicks K) nPicks [.int (n : Int), .int (k : Int)] (bin n k) (fun m => upI (pkD k n m)) where
  many := ⟨G_Picks_many K, 2, by decide, ok_Picks_many T, ⟨n, k, rfl, hn, rfl⟩⟩
  n1 := no_Picks_many
  at_ := ⟨G_Picks_at K, X_Picks_at K, 3, by decide, ok_Picks_at T, fun m hm => ⟨n, k, m, rfl, hn, hk, hm, rfl⟩⟩
  n2 := no_Picks_at
  pos := bin_pos hk
  ris := fun m hm => ris_of_D (m := (n : Int)) (ris_upT (pkD_desc k n m hm)) (by omega)
theorem tl_sets (T : Wd K mg) {n : Nat} (hn : n ≤ 200) : Tl P w K mg base (cSets K) nSets [.int (n : Int)] (2 ^ n) (fun m => setL n (m : Int)) where
  many := ⟨G_Sets_many K, 1, by decide, ok_Sets_many T, ⟨n, rfl, hn, by push_cast; rfl⟩⟩
  n1 := no_Sets_many
  at_ := ⟨G_Sets_at K, X_Sets_at K, 3, by decide, ok_Sets_at T, fun m hm => ⟨n, m, rfl, hn, by omega, by exact_mod_cast hm, rfl⟩⟩
  n2 := no_Sets_at
  pos := Nat.one_le_two_pow
  ris := fun m hm => ris_of_D (m := (n : Int)) (ris_set n m) (by omega)
def wrL : List Da := [.tup [.int 200], .tup [.int (-1)], .tup [.int 1, .int 1], .tup [.int 2, .int 1], .non, .str "0", .int 5, .tup [.str "0"], .tup [.bl true], .tup [.non]]
theorem seT {fs : List Expr} {k : Nat} {p : Pos} {es : List Expr} {env : Env} : starEach (.Tuple fs k p :: es) env = (false, eval (.Tuple fs k p) env) :: starEach es env := rfl
theorem seU {op : UnaryOp} {a : Expr} {p : Pos} {es : List Expr} {env : Env} : starEach (.UnaryOp op a p :: es) env = (false, eval (.UnaryOp op a p) env) :: starEach es env := rfl
section
variable {j : J} {S : List Sl} {es fs : List Expr} {ds ys : List Da} {k m : Nat} {p q : Pos}
theorem daN (hr : DA j S es ds) : DA j S (.Constant .none k p :: es) (.non :: ds) := da_cons de_non hr seC
theorem daI {i : Int} (hr : DA j S es ds) : DA j S (.Constant (.int i) k p :: es) (.int i :: ds) := da_cons de_int hr seC
theorem daB {b : Bool} (hr : DA j S es ds) : DA j S (.Constant (.bool b) k p :: es) (.bl b :: ds) := da_cons de_bl hr seC
theorem daU {i : Int} (hr : DA j S es ds) : DA j S (.UnaryOp .USub (.Constant (.int i) k p) q :: es) (.int (-i) :: ds) := da_cons (de_un de_int ud_neg) hr seU
theorem daT (h : DA j S fs ys) (hr : DA j S es ds) (hz : ys.length ≤ 1000000) : DA j S (.Tuple fs k p :: es) (.tup ys :: ds) := da_cons (de_tup h hz) hr seT
end
theorem sm1 {d : Da} : [d].length ≤ 1000000 := by show 1 ≤ 1000000; decide
theorem sm2 {d e : Da} : [d, e].length ≤ 1000000 := by show 2 ≤ 1000000; decide
theorem da_wr {j : J} {S : List Sl} {k1 k2 k3 k4 k5 k6 k7 k8 k9 k10 k11 k12 m1 m2 m3 m4 m5 m6 m7 : Nat} {p1 p2 p3 p4 p5 p6 p7 p8 p9 p10 p11 p12 u q1 q2 q3 q4 q5 q6 q7 : Pos} :
    DA j S [.Tuple [.Constant (.int 200) k1 p1] m1 q1, .Tuple [.UnaryOp .USub (.Constant (.int 1) k2 p2) u] m2 q2, .Tuple [.Constant (.int 1) k3 p3, .Constant (.int 1) k4 p4] m3 q3, .Tuple [.Constant (.int 2) k5 p5, .Constant (.int 1) k6 p6] m4 q4, .Constant .none k7 p7, .Constant (.str "0") k8 p8, .Constant (.int 5) k9 p9, .Tuple [.Constant (.str "0") k10 p10] m5 q5, .Tuple [.Constant (.bool true) k11 p11] m6 q6, .Tuple [.Constant .none k12 p12] m7 q7]
      [.tup [.int 200], .tup [.int (-1)], .tup [.int 1, .int 1], .tup [.int 2, .int 1], .non, .str "0", .int 5, .tup [.str "0"], .tup [.bl true], .tup [.non]] := by
  with_reducible refine daT (daI da_nil) (daT (daU da_nil) (daT (daI (daI da_nil)) (daT (daI (daI da_nil)) (daN (daS (daI (daT (daS da_nil) (daT (daB da_nil) (daT (daN da_nil) da_nil sm1) sm1) sm1)))) sm2) sm2) sm1) sm1
theorem wrL_bad {d : Da} (h : d ∈ wrL) : Pln d ∧ risD d 200 = false := by
  unfold wrL at h
  simp only [List.mem_cons, List.not_mem_nil, or_false] at h
  have nil : ∀ {y : Da}, y ∈ ([] : List Da) → (tyN y).isSome = true := fun hy => by cases hy
  rcases h with rfl | rfl | rfl | rfl | rfl | rfl | rfl | rfl | rfl | rfl
  · exact ⟨pln_ints [200], by decide⟩
  · exact ⟨pln_ints [-1], by decide⟩
  · exact ⟨pln_ints [1, 1], by decide⟩
  · exact ⟨pln_ints [2, 1], by decide⟩
  · exact ⟨⟨rfl, fun y hy => nil hy⟩, rfl⟩
  · exact ⟨⟨rfl, fun y hy => nil hy⟩, rfl⟩
  · exact ⟨⟨rfl, fun y hy => nil hy⟩, rfl⟩
  · exact ⟨⟨rfl, fun y hy => by rw [List.mem_singleton.mp hy]; rfl⟩, rfl⟩
  · exact ⟨⟨rfl, fun y hy => by rw [List.mem_singleton.mp hy]; rfl⟩, rfl⟩
  · exact ⟨⟨rfl, fun y hy => by rw [List.mem_singleton.mp hy]; rfl⟩, rfl⟩
theorem wrL_get {i : Int} (h0 : 0 ≤ i) (h1 : i < 10) : ∃ d, atI wrL i = some d ∧ Pln d ∧ risD d 200 = false := by
  have hl : i.toNat < wrL.length := by show _ < 10; omega
  have e := atI_nat (List.getElem?_eq_getElem hl)
  rw [Int.toNat_of_nonneg h0] at e
  exact ⟨_, e, wrL_bad (List.getElem_mem hl)⟩
theorem done_wr {x : Da} {ns : List Int} (hx : x = .tup (ns.map Da.int) ∨ x = .lst (ns.map Da.int)) (h : risN 200 ns (-1) = true) : G_done K [.fn (He.ga K "written"), x] (.tup [.str "told", .str (wr ns)]) := by
  have hr : risL 200 (ns.map Da.int) (-1) = true := by rw [risL_N]; exact h
  rcases hx with rfl | rfl
  · refine .inl ⟨_, _, rfl, ⟨_, rfl, pln_ints ns, ?_, by rw [intsOf_tup]⟩, rfl⟩
    unfold risD
    exact hr
  · refine .inl ⟨_, _, rfl, ⟨_, rfl, pln_intsL ns, ?_, by rw [intsOf_lst]⟩, rfl⟩
    unfold risD
    exact hr
theorem done_rd {z : Str} (hz : z.length ≤ 100000) : G_done K [.fn (He.ga K "read"), .str z] (dueD z) := by
  unfold dueD
  cases h : dueT z with
  | some ns => exact .inr (.inr (.inl ⟨_, _, rfl, ⟨z, ns, rfl, hz, h, rfl⟩, rfl⟩))
  | none => exact .inr (.inr (.inr ⟨_, rfl, ⟨z, rfl, hz, h, rfl⟩, rfl⟩))
theorem told_ok : PyData.strOk "told" = true := by decide +kernel
theorem due_ok (z : Str) : OkD 2 (dueD z) := by
  unfold dueD
  cases dueT z with
  | some ns => exact okd_tup (okds_cons (okd_str told_ok) (okds_cons (ok1 ns) okds_nil))
  | none => exact okd_str (by decide +kernel)
theorem due_of {ns : List Int} (h : risN 200 ns (-1) = true) : dueD (wr ns) = .tup [.str "told", .tup (ns.map Da.int)] := by
  unfold dueD
  rw [due_wr h]
def G_law (ds : List Da) (d : Da) : Prop := ∃ ns : List Int, ds = [.scr ns] ∧ ns.length ≤ 63 ∧ d = .bl true
theorem ok_law (T : Wd K mg) {fd : FuncData} (F : Fun K "law" "law" s_law (He.fAd K ("law", none)) fd) : FnOk P w K mg base CX0 7 (He.fAd K ("law", none)) fd ["_law_script"] (sp0 K G_law) := by
  have hmk : MkX P w K mg base 3 "Picks" (cPicks K) (G_Picks K) (X_Picks K) := ok_Picks T
  have hms : MkX P w K mg base 3 "Sets" (cSets K) (G_Sets K) (X_Sets K) := ok_Sets T
  have hce : Fn0 P w K mg base 2 "_law_cell_at" G_cell_at := ok_cell_at T
  have hmi : Fn0 P w K mg base 1 "_law_mixed" G_mixed := ok_mixed T
  have hwi : Fn0 P w K mg base 2 "_law_wide" G_wide := ok_wide T
  have hsz : Fn0 P w K mg base 2 "_law_size" G_size := ok_size T
  have hdo : Fn0 P w K mg base 5 "_law_done" (G_done K) := ok_done T
  have hdu : Fn0 P w K mg base 2 "_law_due" G_due := ok_due T
  have hsp : Fn0 P w K mg base 1 "_law_spoilt" G_spoilt := ok_spoilt T
  refine fn0 (k := 6) F sc_law (fun ds d ⟨ns, e, _⟩ => by rw [e]; rfl) fun cdv A outer s H E Fr ds R hr ⟨d, ⟨sn, e, hl, e2⟩, hR⟩ => ?_
  subst e e2
  have nd := sc_law.nd
  refine db_cons (ds_for (ws := [1]) (fun i S' => ∃ a b c d e f g h q r o u, S' = [.da (.scr sn), a, b, c, d, e, f, g, h, q, r, o, u]) (di_range1 (t_range T) (de_callB (t_max T) boot_max (da_cons de_int (da_cons (de_callB (t_min T) boot_min (da_cons de_int (da_cons (de_callB (t_len T) boot_len' (da_cons (nm 0) da_nil) cd_len_scr) da_nil)) cd_min2) da_nil)) cd_max2) (by split <;> (try split) <;> omega) (by split <;> (try split) <;> omega)) ⟨_, _, _, _, _, _, _, _, _, _, _, _, rfl⟩ ?_ ?_)
  · rintro i d S' hd ⟨a, b, c, d', e, f, g, h, q, r, o, u, rfl⟩
    obtain ⟨hi, rfl⟩ := rgD_get hd
    rw [Int.zero_add]
    refine dg_nm (lm 1 nd) (by simp) ?_
    refine db_cons (ds_set (lm 2 nd) (de_call0 hce hr (by decide) (da_cons (nm 0) (da_cons (nm 1) da_nil)) ⟨sn, i, rfl, rfl⟩) ?_)
    generalize cellI sn i = c
    refine db_cons (ds_tgt (ws := [3, 4]) (de_call0 hsz hr (by decide) (da_cons (nm 2) da_nil) ⟨_, rfl, rfl⟩) (dg_tup (dgs_cons (dg_nm (lm 3 nd) (by simp) (dgs_cons (dg_nm (lm 4 nd) (by simp) (dgs_nil ?_))))) rfl))
    obtain ⟨n, hn⟩ : ∃ n : Nat, thI c = n := ⟨(thI c).toNat, by have := thI_b c; omega⟩
    have hn2 : n ≤ 200 := by have := thI_b c; omega
    obtain ⟨k0, hk⟩ : ∃ k : Nat, szI c = k := ⟨(szI c).toNat, by have := szI_b c; omega⟩
    have hk2 : k0 ≤ n := by have := szI_b c; omega
    rw [hn, hk]
    obtain ⟨k, hkk⟩ : ∃ k : Nat, (if (30 : Int) < (k0 : Int) then (30 : Int) else (k0 : Int)) = k := ⟨(if (30 : Int) < (k0 : Int) then (30 : Int) else (k0 : Int)).toNat, by split <;> omega⟩
    have hk3 : k ≤ n := by split at hkk <;> omega
    obtain ⟨n4, hn4⟩ : ∃ m : Nat, (n : Int) % 40 = m := ⟨n % 40, by push_cast; rfl⟩
    have hn5 : n4 ≤ 200 := by omega
    -- what is told
    obtain ⟨C, nn, fs, N, ff, hob, tol⟩ : ∃ (C : Addr) (nn : List Str) (fs : List Da) (N : Nat) (ff : Nat → List Int), atI [Po K n k, So K n4] (c / 1000 % 2) = some (.ob C nn fs) ∧ Tl P w K mg base C nn fs N ff := by
      have b0 : 0 ≤ c / 1000 % 2 := Int.emod_nonneg _ (by decide)
      have b1 : c / 1000 % 2 < 2 := Int.emod_lt_of_pos _ (by decide)
      rcases (show c / 1000 % 2 = 0 ∨ c / 1000 % 2 = 1 by omega) with q | q
      · rw [q]
        exact ⟨_, _, _, _, _, rfl, tl_picks T hn2 hk3⟩
      · rw [q]
        exact ⟨_, _, _, _, _, rfl, tl_sets T hn5⟩
    obtain ⟨G1, k1, l1, h1, g1⟩ := tol.many
    obtain ⟨G2, X2, k2, l2, h2, g2⟩ := tol.at_
    refine db_cons (ds_set (lm 5 nd) (de_ix (de_lst (ds := [Po K n k, So K n4]) (da_cons (de_make hmk hr (by decide) (da_cons (nm 3) (da_cons (de_is (de_callB (t_min T) boot_min (da_cons (nm 4) (da_cons de_int da_nil)) cd_min2) (congrArg Da.int hkk)) da_nil)) ⟨_, _, rfl, rfl, rfl, okB_nat hk3 hn2, rfl⟩) (da_cons (de_make hms hr (by decide) (da_cons (de_is (de_bin (nm 3) de_int (od_mod (by decide))) (congrArg Da.int hn4)) da_nil) ⟨_, rfl, rfl, inB_nat hn5, rfl⟩) da_nil))) (de_bin (de_bin (nm 2) de_int (od_fdiv (by decide))) de_int (od_mod (by decide))) (ix_lst hob)) ?_)
    obtain ⟨m, hm1, m1⟩ := wide_nat (c := mixI c 8) tol.pos
    refine db_cons (ds_set (lm 6 nd) (de_methX h2 hr (by omega) (nm 5) tol.n2 (da_cons (de_is (de_call0 hwi hr (by decide) (da_cons (de_call0 hmi hr (by decide) (da_cons (nm 2) (da_cons de_int da_nil)) ⟨_, _, rfl, rfl⟩) (da_cons (de_meth00 h1 hr (by omega) (nm 5) tol.n1 g1) da_nil)) ⟨_, _, rfl, rfl⟩) (congrArg Da.int hm1)) da_nil) (g2 m m1)) ?_)
    have hris := tol.ris m m1
    generalize ff m = ns at hris
    have hlen := wr_len hris
    have hokt := wr_okT hris
    have hfew := wr_few hris
    refine db_cons (ds_set (lm 7 nd) (d := .str (wr ns)) (de_orS (z := Txt.join blank (ns.map shw)) (de_bm PySem.F.plainAttrs_str PySem.F.slot_str_join PySem.F.type_str_join de_str (da_cons (de_is (de_lc (i := 12) ns Da.int (fun _ => true) (fun t : Int => Da.str (shw t)) (di_tup (nm 6)) (by omega) (blkOk_by (N := N_law) (sc := defScope s_law) (by decide +kernel)) (fun _ _ _ _ _ => lm 12 nd) (fun F1 s Hb C cl fp a ha => dts_nil)
          (fun F1 s Hb C cl fp t hm _ => ?_) nd) (d' := .lst (sts (ns.map shw))) ?_) da_nil) (md_join (Nat.le_trans (wr_sum hris) (by decide))) ty_str) ?_ (fun hb => ?_) (fun hb => ?_)) ?_)
    · have b := ris_bnd hris t hm
      exact de_callTy (t_str T) boot_tstr (da_cons (nm 12) da_nil) (cd_str_int (log_small (by omega) b.2))
    · rw [List.filter_eq_self.mpr (fun _ _ => rfl)]
      unfold sts
      rw [List.map_map]
      rfl
    · have h1 := wr_sum hris
      have h2 := StrLaws.join_length_le blank (ns.map shw)
      rw [join_eq]
      omega
    · have hne : ns ≠ [] := fun e => by
        subst e
        revert hb
        decide +kernel
      unfold wr
      rw [if_pos (List.length_pos_iff.mpr hne)]
    · have hne : ns = [] := Classical.byContradiction fun hne => by
        have := wr_len_ne hris hne
        simp at hb
        exact this (by omega)
      subst hne
      exact de_str
    refine db_cons (ds_set (lm 8 nd) (de_callTy (t_list T) boot_tlist (da_cons (nm 6) da_nil) cd_list_tup) ?_)
    have okw : OkD 1 (.tup [.str "told", .str (wr ns)]) := okd_tup (okds_cons (okd_str told_ok) (okds_cons (okd_str (okT_str hokt)) okds_nil))
    refine db_cons (ds_if (t := false) (dt_w (dt_w_is (dw_or (dt_cmp (de_call0 hdo hr (by decide) (da_cons (de_fnv (g_written T)) (da_cons (nm 6) da_nil)) (done_wr (.inl rfl) hris)) (de_tup (da_cons de_str (da_cons (nm 7) da_nil))) (od_ne hr okw okw))
      (fun _ => dw_or1 (dt_cmp (de_call0 hdo hr (by decide) (da_cons (de_fnv (g_written T)) (da_cons (nm 8) da_nil)) (done_wr (.inr rfl) hris)) (de_tup (da_cons de_str (da_cons (nm 7) da_nil))) (od_ne hr okw okw)))) ?_)) (fun ht => by cases ht) (fun _ => db_nil ?_))
    · rw [eqD_refl okw]
      rfl
    refine db_cons (ds_if (t := false) (dt_is (dt_cmp (nm 8) (de_callTy (t_list T) boot_tlist (da_cons (nm 6) da_nil) cd_list_tup) (od_ne hr (ok1L ns) (ok1L ns))) ?_) (fun ht => by cases ht) (fun _ => db_nil ?_))
    · rw [eqD_refl (ok1L ns)]
      rfl
    have okr := due_ok (wr ns)
    rw [due_of hris] at okr
    refine db_cons (ds_if (t := false) (dt_is (dt_cmp (de_is (de_call0 hdo hr (by decide) (da_cons (de_fnv (g_read T)) (da_cons (nm 7) da_nil)) (done_rd (by omega))) (due_of hris)) (de_tup (da_cons de_str (da_cons (nm 6) da_nil))) (od_ne hr okr okr)) ?_) (fun ht => by cases ht) (fun _ => db_nil ?_))
    · rw [eqD_refl okr]
      rfl
    refine db_cons (ds_for (ws := [9]) (fun i S' => ∃ a b c1 e g d f, S' = [.da (.scr sn), .da a, .da (.int c), b, c1, e, .da (.tup (ns.map Da.int)), .da (.str (wr ns)), g, d, f, o, u]) (di_range1 (t_range T) de_int (by decide) (by decide)) ⟨_, _, _, _, _, _, _, rfl⟩ ?_ ?_)
    · rintro t d S' hd ⟨a, b, c1, e, g, d', f, rfl⟩
      obtain ⟨_, rfl⟩ := rgD_get hd
      refine dg_nm (lm 9 nd) (by simp) ?_
      refine db_cons (ds_set (lm 10 nd) (de_call0 hsp hr (by decide) (da_cons (nm 7) (da_cons (de_bin (de_call0 hmi hr (by decide) (da_cons (nm 2) (da_cons (de_bin de_int (nm 9) od_add) da_nil)) ⟨_, _, rfl, rfl⟩) de_int (od_fdiv (by decide))) da_nil)) ⟨wr ns, _, rfl, by omega, hokt, rfl⟩) ?_)
      obtain ⟨hzl, hzk⟩ := spT_ok (t := wr ns) (m := mixI c (30 + (0 + (t : Int))) / 3) hokt (by omega)
      generalize spT (wr ns) (mixI c (30 + (0 + (t : Int))) / 3) = z at hzl hzk ⊢
      refine db_one (ds_if (t := false) (dt_is (dt_cmp (de_call0 hdo hr (by decide) (da_cons (de_fnv (g_read T)) (da_cons (nm 10) da_nil)) (done_rd hzl)) (de_call0 hdu hr (by decide) (da_cons (nm 10) da_nil) ⟨z, rfl, hzl, hzk, rfl⟩) (od_ne hr (due_ok z) (due_ok z))) (by rw [eqD_refl (due_ok z)]; rfl)) (fun ht => by cases ht) (fun _ => db_nil ⟨_, _, _, _, _, _, _, rfl⟩))
    · rintro S' ⟨a, b, c1, e, g, d', f, rfl⟩
      obtain ⟨x, hx, hpl, hrd⟩ := wrL_get (i := mixI c 50 % 10) (Int.emod_nonneg _ (by decide)) (Int.emod_lt_of_pos _ (by decide))
      refine db_cons ?_
      with_reducible refine ds_set (i := 11) (d := x) ?l8 ?h8 ?k8 ?s8
      case l8 => exact lm 11 nd
      case s8 => rfl
      case h8 =>
        with_reducible refine de_ix (x := .lst wrL) (y := .int (mixI c 50 % 10)) ?a8 ?b8 (ix_lst hx) ?p8
        case b8 => exact de_bin (de_call0 hmi hr (by decide) (da_cons (nm 2) (da_cons de_int da_nil)) ⟨_, _, rfl, rfl⟩) de_int (od_mod (by decide))
        case p8 => exact fun _ _ => rfl
        case a8 =>
          with_reducible refine de_lst (ds := wrL) ?q8 ?r8
          case q8 =>
            unfold wrL
            exact da_wr
          case r8 =>
            show 10 ≤ 1000000
            decide
      exact db_one (ds_if (t := false) (dt_is (dt_cmp (de_call0 hdo hr (by decide) (da_cons (de_fnv (g_written T)) (da_cons (nm 11) da_nil)) (.inr (.inl ⟨x, rfl, ⟨x, rfl, hpl, hrd, rfl⟩, rfl⟩))) de_str od_neS) (by simp)) (fun ht => by cases ht) (fun _ => db_nil ⟨_, _, _, _, _, _, _, _, _, _, _, _, rfl⟩))
  · rintro S' ⟨a, b, c, d, e, f, g, h, q, r, o, u, rfl⟩
    exact db_one (ds_ret de_bl hR)
end
end DL
namespace DL
open PySem PySem.Spec PyProof.Rows L2
/-! ### the end -/
theorem end_facts {P : Program} {w : World} {K : PySem.W.Frag} {h : Heap} {mg : Str → Option Value} {f : Addr} (X : PySem.W.Frag.In K h) (G : h.Ns mainGlobals mg) (hfa : mg ("law" : Str) = some (.ref f)) (c : Told fas tests fns K) :
    ∃ fd : FuncData, (∀ (s : Shared) (v : Value), BindsTo s fd ⟨[v], []⟩ [("_law_script", v)]) ∧ ∀ base : Heap, PySem.W.Frag.In K base → base.Ns mainGlobals mg → FnOk P w K mg base CX0 7 f fd ["_law_script"] (sp0 K G_law) := by
  have T : Wd K mg := ⟨c, h, X, G⟩
  obtain ⟨fd, F⟩ := c.fund 31
  have z := hfa.symm.trans (g_law T)
  cases z
  have b := FunD.bindsA (ps := ["_law_script"]) F fun _ _ _ _ _ _ us hl => match us, hl with | [_], _ => rfl
  exact ⟨fd, fun s v => b s [v] rfl, fun base _ _ => ok_law T (fun_of F)⟩
end DL
open PySem PySem.W PySem.Calls PyProof.Rows
theorem PySem.Challenge.cw_doorpicks_k13_written_and_read_holds : PySem.Challenge.rw_doorpicks_k13_written_and_read.Holds := by
  w_on; o_law
  refine HandSHeadRun.head_any (r := OpenLaw.row PySem.Challenge.rw_doorpicks_k13_written_and_read) (q := view (OpenLaw.row PySem.Challenge.rw_doorpicks_k13_written_and_read).prog [33]) (H := DL.hk) (ob := DL.ob) (M := 6000) (loose := DL.loose) (d := HandSHeadRun.topDef (OpenLaw.row PySem.Challenge.rw_doorpicks_k13_written_and_read).prog 33) (kwd := []) DL.ob_eq
    (by kernel_rfl) (fun s => by kernel_rfl) DL.run (by kernel_rfl) (by kernel_rfl) (by kernel_rfl) (by rfl) (by first | assumption | decide +kernel) (by decide +kernel) ⟨rfl, rfl, rfl, rfl, rfl, by decide +kernel⟩ ?hw ?hc
  case hw => w_witness2
  case hc =>
    refine L2.walk_ofE (l := PySem.Challenge.rw_doorpicks_k13_written_and_read) (n := 63) (k := 7) (x := "_law_script") (CX := L2.CX0) rfl (by decide) (by kernel_rfl) ⟨rfl, by decide, by decide⟩ ?F (fun _ _ _ _ z => z)
    intro w mg fa h Y G hmg0
    obtain ⟨K, KX, c⟩ := Y
    have hmg : mg ("law" : PySem.Str) = some (.ref fa) := by
      have e : (HandSHeadRun.topDef (OpenLaw.row PySem.Challenge.rw_doorpicks_k13_written_and_read).prog 33).name = ("law" : PySem.Str) := by kernel_rfl
      rw [← e]
      exact hmg0
    obtain ⟨fd, hb, hF⟩ := DL.end_facts (P := (PySem.Challenge.rw_doorpicks_k13_written_and_read).prog) (w := w) KX G hmg c
    exact ⟨K, fd, DL.sp0 K DL.G_law, KX, hb, fun H a ns hl _ hS => ⟨H, [.scr ns], .bl true, fun _ _ z => z, ⟨.ref a, [], rfl, ⟨a, rfl, hS⟩, rfl⟩, ⟨ns, rfl, hl, rfl⟩, fun v F' H' _ z => z⟩, hF⟩
